import PyProof.Rows.All
import Wide.All
import OpenK.AllK
import Wide.FinOn
import HandS.ForMost
import KE.KDictKeyed
import KE.KDictLaw
import PyProof.ReprRoads
import PyProof.Rows.RegFStrParts
import KE.KDictOf
import KE.KDictPairs
import KE.KDictCopyH
import KE.KItemsList
import HandS.Walk
import HandS.DictComp
import HandS.SortRule
import HandS.Replace
import PySem.Challenge.RW_runshown_k60_sums_of_graphs
import HandS.Style
import HandS.Conv
set_option Elab.async false
set_option linter.all false
set_option maxRecDepth 100000
set_option maxHeartbeats 1000000
/-! Rules of my own over the layer: nested tuples as data, their ==, their repr; dicts whose keys are such tuples. -/
namespace R60
open PySem PySem.Spec PyProof.Rows L2

abbrev Dt := NestedKey

/-! ### data: nested tuples of ints, texts, None -/
mutual
inductive Rep (H : Hp) : Dt → V → Prop
  | none : Rep H .none .non
  | num (i : Int) : Rep H (.num i) (.int i)
  | text (x : Str) : Rep H (.text x) (.str x)
  | tup {a : Addr} {xs : List V} {ks : List Dt} : Rd H a (.tup xs) → Reps H ks xs → Rep H (.tup ks) (.ref a)
inductive Reps (H : Hp) : List Dt → List V → Prop
  | nil : Reps H [] []
  | cons {k : Dt} {x : V} {ks : List Dt} {xs : List V} : Rep H k x → Reps H ks xs → Reps H (k :: ks) (x :: xs)
end

/-- tuples stay tuples -/
def TupK (H H' : Hp) : Prop := ∀ b xs, Rd H b (.tup xs) → Rd H' b (.tup xs)
theorem rd_ne_none {H : Hp} {a b : Addr} {u : HO} (r : Rd H a u) (h : H b = Option.none) : a ≠ b := by
  rintro rfl
  rcases r with r | ⟨o, r⟩ <;> (rw [h] at r; cases r)
theorem rd_up {H : Hp} {a b : Addr} {u o : HO} (r : Rd H a u) (h : a ≠ b) : Rd (upd H b o) a u := by
  rcases r with r | ⟨o', r⟩
  · exact .inl (by rw [upd_ne h]; exact r)
  · exact .inr ⟨o', by rw [upd_ne h]; exact r⟩
/-- no tuple stands there -/
def NoTup : HO → Prop
  | .tup _ => False
  | .frz _ (.tup _) => False
  | _ => True
theorem rd_ne_of {H : Hp} {a b : Addr} {xs : List V} {u : HO} (r : Rd H a (.tup xs)) (h : H b = some u) (n : NoTup u) : a ≠ b := by
  rintro rfl
  rcases r with r | ⟨o, r⟩ <;> (rw [h] at r; cases r; exact n)
theorem TupK.refl (H : Hp) : TupK H H := fun _ _ h => h
theorem TupK.trans {H H1 H2 : Hp} (a : TupK H H1) (b : TupK H1 H2) : TupK H H2 := fun c xs h => b c xs (a c xs h)
theorem TupK.same {H H' : Hp} (s : Same H H') : TupK H H' := fun b xs h => by
  rcases h with h | ⟨o, h⟩
  · exact .inl (s b _ h)
  · exact .inr ⟨o, s b _ h⟩
theorem TupK.upd_new {H : Hp} {a : Addr} {o : HO} (h : H a = Option.none) : TupK H (upd H a o) := fun b xs e => rd_up e (rd_ne_none e h)
theorem TupK.upd_old {H : Hp} {a : Addr} {o u : HO} (h : H a = some u) (hu : NoTup u) : TupK H (upd H a o) := fun b xs e => rd_up e (rd_ne_of e h hu)

mutual
theorem Rep.keep {H H' : Hp} (t : TupK H H') : ∀ (k : Dt) (v : V), Rep H k v → Rep H' k v
  | .none, _, h => by cases h; exact .none
  | .num i, _, h => by cases h; exact .num i
  | .text x, _, h => by cases h; exact .text x
  | .tup ks, _, h => by
    cases h with
    | tup e r => exact .tup (t _ _ e) (Reps.keep t ks _ r)
theorem Reps.keep {H H' : Hp} (t : TupK H H') : ∀ (ks : List Dt) (vs : List V), Reps H ks vs → Reps H' ks vs
  | [], _, h => by cases h; exact .nil
  | k :: ks, _, h => by
    cases h with
    | cons r rs => exact .cons (Rep.keep t k _ r) (Reps.keep t ks _ rs)
end
theorem Rep.kp {H H' : Hp} {k : Dt} {v : V} (r : Rep H k v) (t : TupK H H') : Rep H' k v := Rep.keep t k v r
theorem Reps.kp {H H' : Hp} {k : List Dt} {v : List V} (r : Reps H k v) (t : TupK H H') : Reps H' k v := Reps.keep t k v r

theorem rd_inj {H : Hp} {a : Addr} {xs ys : List V} (r : Rd H a (.tup xs)) (q : Rd H a (.tup ys)) : xs = ys := by
  rcases r with r | ⟨o, r⟩ <;> rcases q with q | ⟨o', q⟩ <;> (rw [r] at q; first | (cases q; done) | (cases q; rfl))
mutual
theorem Rep.injK {H : Hp} : ∀ (k l : Dt) (v : V), Rep H k v → Rep H l v → k = l
  | .none, _, _, h, g => by cases h; cases g; rfl
  | .num i, _, _, h, g => by cases h; cases g; rfl
  | .text x, _, _, h, g => by cases h; cases g; rfl
  | .tup ks, _, _, h, g => by
    cases h with
    | tup e r =>
      cases g with
      | tup e' r' =>
        have q := rd_inj e e'
        subst q
        rw [Reps.injK ks _ _ r r']
theorem Reps.injK {H : Hp} : ∀ (ks ls : List Dt) (vs : List V), Reps H ks vs → Reps H ls vs → ks = ls
  | [], _, _, h, g => by cases h; cases g; rfl
  | k :: ks, _, _, h, g => by
    cases h with
    | cons r rs =>
      cases g with
      | cons r' rs' => rw [Rep.injK k _ _ r r', Reps.injK ks _ _ rs rs']
end
theorem Reps.length {H : Hp} : ∀ {ks : List Dt} {vs : List V}, Reps H ks vs → vs.length = ks.length
  | [], _, h => by cases h; rfl
  | k :: ks, _, h => by
    cases h with
    | cons r rs => rw [List.length_cons, List.length_cons, rs.length]
theorem Reps.get {H : Hp} : ∀ {ks : List Dt} {vs : List V} {i : Nat} {k : Dt}, Reps H ks vs → ks[i]? = some k → ∃ v, vs[i]? = some v ∧ Rep H k v
  | [], _, i, _, h, e => by simp at e
  | k :: ks, _, 0, _, h, e => by
    cases h with
    | cons r rs =>
      have e' : k = _ := Option.some.inj e
      subst e'
      exact ⟨_, rfl, r⟩
  | k :: ks, _, i + 1, _, h, e => by
    cases h with
    | cons r rs => exact rs.get (i := i) e
theorem Reps.getV {H : Hp} : ∀ {ks : List Dt} {vs : List V} {i : Nat} {v : V}, Reps H ks vs → vs[i]? = some v → ∃ k, ks[i]? = some k ∧ Rep H k v
  | [], _, i, _, h, e => by cases h; simp at e
  | k :: ks, _, 0, _, h, e => by
    cases h with
    | cons r rs =>
      have e' := Option.some.inj e
      subst e'
      exact ⟨_, rfl, r⟩
  | k :: ks, _, i + 1, _, h, e => by
    cases h with
    | cons r rs => exact rs.getV (i := i) e
theorem Reps.append {H : Hp} : ∀ {ks ls : List Dt} {vs us : List V}, Reps H ks vs → Reps H ls us → Reps H (ks ++ ls) (vs ++ us)
  | [], _, _, _, h, g => by cases h; exact g
  | k :: ks, _, _, _, h, g => by
    cases h with
    | cons r rs => exact .cons r (rs.append g)
theorem Reps.one {H : Hp} {k : Dt} {v : V} (r : Rep H k v) : Reps H [k] [v] := .cons r .nil
theorem Reps.drop {H : Hp} : ∀ {ks : List Dt} {vs : List V} (n : Nat), Reps H ks vs → Reps H (ks.drop n) (vs.drop n)
  | _, _, 0, h => h
  | [], _, n + 1, h => by cases h; exact .nil
  | k :: ks, _, n + 1, h => by
    cases h with
    | cons r rs => exact rs.drop n
theorem Reps.take {H : Hp} : ∀ {ks : List Dt} {vs : List V} (n : Nat), Reps H ks vs → Reps H (ks.take n) (vs.take n)
  | _, _, 0, h => .nil
  | [], _, n + 1, h => by cases h; exact .nil
  | k :: ks, _, n + 1, h => by
    cases h with
    | cons r rs => exact .cons r (rs.take n)
theorem reps_nums {H : Hp} : ∀ ns : List Int, Reps H (ns.map NestedKey.num) (ns.map V.int)
  | [] => .nil
  | n :: ns => .cons (.num n) (reps_nums ns)
theorem Reps.ints {H : Hp} : ∀ {ns : List Int} {vs : List V}, Reps H (ns.map NestedKey.num) vs → vs = ns.map V.int
  | [], _, h => by cases h; rfl
  | n :: ns, _, h => by
    cases h with
    | cons r rs =>
      cases r
      rw [rs.ints]
      rfl
/-- a new tuple of data -/
theorem Rep.made {H : Hp} {p : Addr} {ks : List Dt} {xs : List V} (r : Reps H ks xs) (hp : H p = Option.none) : Rep (upd H p (.tup xs)) (.tup ks) (.ref p) :=
  .tup (.inl upd_same) (r.kp (TupK.upd_new hp))
theorem Rep.madeF {H : Hp} {p : Addr} {o : Obj} {ks : List Dt} {xs : List V} (r : Reps H ks xs) (hp : H p = Option.none) : Rep (upd H p (.frz o (.tup xs))) (.tup ks) (.ref p) :=
  .tup (.inr ⟨o, upd_same⟩) (r.kp (TupK.upd_new hp))
theorem Rep.tup_inv {H : Hp} {ks : List Dt} {v : V} (r : Rep H (.tup ks) v) : ∃ a xs, v = .ref a ∧ Rd H a (.tup xs) ∧ Reps H ks xs := by
  cases r with
  | tup e r => exact ⟨_, _, rfl, e, r⟩
theorem Rep.int_inv {H : Hp} {i : Int} {v : V} (r : Rep H (.num i) v) : v = .int i := by cases r; rfl
theorem Rep.text_inv {H : Hp} {x : Str} {v : V} (r : Rep H (.text x) v) : v = .str x := by cases r; rfl

/-! ### data as the library tells it -/
mutual
theorem Rep.nested {P : Program} {w : World} {H : Hp} {h : Heap} (ok : HOk P w H h) : ∀ (k : Dt) (v : V) (u : Value), Rep H k v → RelV v u → NestedIs h k u
  | .none, _, _, r, e => by
    cases r
    have e' : _ = Value.none := e
    subst e'
    exact .none
  | .num i, _, _, r, e => by
    cases r
    obtain ⟨t, rfl⟩ := e
    exact .int i t
  | .text x, _, _, r, e => by
    cases r
    obtain ⟨t, rfl⟩ := e
    exact .text x t
  | .tup ks, _, _, r, e => by
    cases r with
    | @tup a xs _ ha rs =>
      have e' : _ = Value.ref a := e
      subst e'
      obtain ⟨_, its, rv, o, h1, h2, n, h3⟩ := (show ObjOk P w H h a (.tup xs) from ha.ok ok)
      exact .tup h1 h2 h3 (by simpa using Reps.nested ok ks xs its rs rv)
theorem Reps.nested {P : Program} {w : World} {H : Hp} {h : Heap} (ok : HOk P w H h) : ∀ (ks : List Dt) (vs : List V) (us : List Value), Reps H ks vs → Vals vs us → NestedAll h ks us
  | [], _, _, r, e => by
    cases r
    cases e
    exact .nil
  | k :: ks, _, _, r, e => by
    cases r with
    | cons r rs =>
      cases e with
      | cons e es => exact .cons (Rep.nested ok k _ _ r e) (Reps.nested ok ks _ _ rs es)
end
mutual
theorem Rep.dp {K : PySem.W.Frag} {H : Hp} : ∀ (k : Dt) (v : V), Rep H k v → Dp K H v k.data
  | .none, _, r => by cases r; simp only [NestedKey.data]; exact .non
  | .num i, _, r => by cases r; simp only [NestedKey.data]; exact .int i
  | .text x, _, r => by cases r; simp only [NestedKey.data]; exact .str x
  | .tup ks, _, r => by
    cases r with
    | tup e rs =>
      simp only [NestedKey.data]
      exact .tup (.inl e) (Reps.dp ks _ rs)
theorem Reps.dp {K : PySem.W.Frag} {H : Hp} : ∀ (ks : List Dt) (vs : List V), Reps H ks vs → DpAll K H vs (NestedKey.datas ks)
  | [], _, r => by cases r; simp only [NestedKey.datas]; exact .nil
  | k :: ks, _, r => by
    cases r with
    | cons r rs =>
      simp only [NestedKey.datas]
      exact .cons (Rep.dp k _ r) (Reps.dp ks _ rs)
end
mutual
theorem noDict_data : ∀ k : Dt, k.data.hasDict = false
  | .none => by simp only [NestedKey.data, PyData.hasDict]
  | .num i => by simp only [NestedKey.data, PyData.hasDict]
  | .text x => by simp only [NestedKey.data, PyData.hasDict]
  | .tup ks => by simp only [NestedKey.data, PyData.hasDict]; exact noDict_datas ks
theorem noDict_datas : ∀ ks : List Dt, PyData.hasDictAll (NestedKey.datas ks) = false
  | [] => by simp only [NestedKey.datas, PyData.hasDictAll]
  | k :: ks => by simp only [NestedKey.datas, PyData.hasDictAll, noDict_data k, noDict_datas ks, Bool.or_false]
end

section
variable {X : Cx}
/-- the same data compared: True -/
def rEqSame : R2 := fun x y H Q => ∃ k, Rep H k x ∧ Rep H k y ∧ SeqAt.shaped k.data = true ∧ Q (.bl true) H
theorem op_eq_same (hu : X.A.units + 64 < cLine) : OpR X (compareOp .Eq) rEqSame := by
  intro pins s σ H x y v u Q I rx ry h
  obtain ⟨k, hx, hy, sh, q⟩ := h
  refine op_eqD hu pins s σ H x y v u Q I rx ry ⟨k.data, k.data, Rep.dp k x hx, Rep.dp k y hy, sh, sh, ?_⟩
  rw [SeqAt.eqv_refl _ (SeqAt.canLay_of_shaped sh)]
  exact q
/-- repr of data, where no repr is under way -/
theorem call_reprD (hu : X.A.units + 64 < cLine) (hg : X.A.guards = some []) :
    CallR X (.builtin "repr") (fun xs H Q => ∃ k x, xs = [x] ∧ Rep H k x ∧ k.data.showable = true ∧ k.data.depth ≤ 60 ∧ k.data.shown.length ≤ sizeLine ∧ Q (.str k.data.shown) H) := by
  intro pins s σ H xs us Q I r h
  obtain ⟨k, x, rfl, hx, hs, hd, hz, q⟩ := h
  obtain ⟨u, rfl, ru⟩ := vals1 r
  have fin : ∀ (h' : Heap) (t : Tok) (tk : Nat), (∀ b o, s.heap.get? b = some o → h'.get? b = some o) → EP X pins σ Q (.str k.data.shown t) { s with heap := h', toks := tk } := fun h' t tk kp => ⟨.str k.data.shown, H, I.kept kp, ⟨t, rfl⟩, q⟩
  cases k with
  | none =>
    cases hx
    have e : u = Value.none := ru
    subst e
    simp only [NestedKey.data, PyData.shown] at fin hz
    exact PySem.P.repr_of_none (fin s.heap _ _ fun _ _ e => e)
  | num i =>
    cases hx
    obtain ⟨t, rfl⟩ := ru
    simp only [NestedKey.data, PyData.shown, PyData.showable, decide_eq_true_eq] at fin hz hs
    exact PySem.P.repr_of_int hs (fin s.heap _ _ fun _ _ e => e)
  | text y =>
    cases hx
    obtain ⟨t, rfl⟩ := ru
    simp only [NestedKey.data, PyData.shown] at fin hz
    exact PySem.P.repr_of_str (fin s.heap _ _ fun _ _ e => e) hz
  | tup ks =>
    obtain ⟨as, rd⟩ := Dp.reads I _ _ _ (Rep.dp (K := X.K) (.tup ks) x hx) ru
    cases hx with
    | @tup a vs _ e rs =>
      have e : u = Value.ref a := ru
      subst e
      exact PySem.repr_of_reads' rd hs (fun z => by rw [noDict_data] at z; cases z) hg (by omega) (fun _ _ e => e) fin hz
end

/-! ### dicts whose keys are nested tuples: the object is known -/
/-- the entries at the addresses of their keys -/
abbrev KN (H : Hp) : List (Dt × V) → List (Dt × Addr × Value) → Prop := Paired fun p q => p.1 = q.1 ∧ Rep H p.1 (.ref q.2.1) ∧ RelV p.2 q.2.2
def exo (d : Addr) (o : Obj) : HO := .ext fun h => h.get? d = some o
/-- at d stands a dict with nested keys: its pairs in their order -/
def DN (w : World) (H : Hp) (d : Addr) (kvs : List (Dt × V)) : Prop := ∃ (o : Obj) (es : Array DictEntry) (ep : Nat) (xs : List (Dt × Addr × Value)),
  H d = some (exo d o) ∧ o.ExactDict ∧ o.data = .dict es ep ∧ es.toList = xs.map (fun x => (⟨x.1.hash w, .ref x.2.1, x.2.2⟩ : DictEntry)) ∧ (kvs.map (·.1)).Nodup ∧ (d == sysModules) = false ∧
  kvs.length ≤ sizeLine ∧ (∀ p ∈ kvs, p.1.depth ≤ 8) ∧ KN H kvs xs
theorem KN.keys {H : Hp} {kvs : List (Dt × V)} {xs : List (Dt × Addr × Value)} (r : KN H kvs xs) : kvs.map (·.1) = xs.map (·.1) := by
  induction r with
  | nil => rfl
  | cons h t ih => rw [List.map_cons, List.map_cons, ih, h.1]
theorem KN.keeps {H H' : Hp} {kvs : List (Dt × V)} {xs : List (Dt × Addr × Value)} (r : KN H kvs xs) (ht : TupK H H') : KN H' kvs xs :=
  Paired.mapP r fun _ _ z => ⟨z.1, z.2.1.kp ht, z.2.2⟩
theorem KN.val {H : Hp} {kvs : List (Dt × V)} {xs : List (Dt × Addr × Value)} (r : KN H kvs xs) (k : Dt) : RelO (valV kvs k) ((atKey xs k).map (·.2)) := by
  induction r with
  | nil => exact True.intro
  | @cons p q ps qs h t ih =>
    obtain ⟨h1, _, h2⟩ := h
    by_cases e : p.1 = k
    · have e' : q.1 = k := h1.symm.trans e
      have b : atKey (q :: qs) k = some q.2 := by simp [atKey, List.find?_cons, e']
      rw [valV_pos e, b]
      exact h2
    · have e' : ¬ q.1 = k := fun z => e (h1.trans z)
      have b : atKey (q :: qs) k = atKey qs k := by simp [atKey, List.find?_cons, e']
      rw [valV_neg e, b]
      exact ih
theorem KN.repl {H : Hp} {kvs : List (Dt × V)} {xs : List (Dt × Addr × Value)} (r : KN H kvs xs) (k : Dt) {y : V} {u : Value} (ry : RelV y u) :
    KN H (kvs.map fun kv => if kv.1 = k then (kv.1, y) else kv) (xs.map (putAt k u)) := by
  induction r with
  | nil => exact .nil
  | @cons p q ps qs h t ih =>
    rw [List.map_cons, List.map_cons]
    refine .cons ?_ ih
    obtain ⟨h1, h2, h3⟩ := h
    unfold putAt
    by_cases e : p.1 = k
    · rw [if_pos e, if_pos (h1.symm.trans e)]
      exact ⟨h1, h2, ry⟩
    · rw [if_neg e, if_neg (fun z => e (h1.trans z))]
      exact ⟨h1, h2, h3⟩
theorem KN.put {H : Hp} {kvs : List (Dt × V)} {xs : List (Dt × Addr × Value)} (r : KN H kvs xs) (k : Dt) {b : Addr} {y : V} {u : Value} (hb : Rep H k (.ref b)) (ry : RelV y u) :
    KN H (putK kvs k y) (storedH xs k b u) := by
  have e : (kvs.any fun kv => decide (kv.1 = k)) = (atKey xs k).isSome := by
    rw [valV_any, (r.val k).isSome_eq, Option.isSome_map]
  unfold putK storedH
  rw [e]
  by_cases q : (atKey xs k).isSome = true
  · rw [if_pos q, if_pos q]
    exact r.repl k ry
  · rw [if_neg q, if_neg q]
    exact Paired.snoc r ⟨rfl, hb, ry⟩
theorem putK_keys {κ : Type} [DecidableEq κ] (kvs : List (κ × V)) (k : κ) (v : V) : (putK kvs k v).map (·.1) = if (valV kvs k).isSome then kvs.map (·.1) else kvs.map (·.1) ++ [k] := by
  unfold putK
  rw [valV_any]
  by_cases q : (valV kvs k).isSome = true
  · rw [if_pos q, if_pos q, List.map_map]
    refine List.map_congr_left fun p _ => ?_
    by_cases e : p.1 = k <;> simp [e]
  · rw [if_neg q, if_neg q, List.map_append]
    rfl
theorem nodup_putK {κ : Type} [DecidableEq κ] {kvs : List (κ × V)} (k : κ) (v : V) (h : (kvs.map (·.1)).Nodup) : ((putK kvs k v).map (·.1)).Nodup := by
  cases q : valV kvs k with
  | none => exact nd_putK v h q
  | some y =>
    rw [putK_keys, q]
    exact h
theorem putK_all {κ : Type} [DecidableEq κ] {p : κ → Prop} {kvs : List (κ × V)} {k : κ} {v : V} (h : ∀ x ∈ kvs, p x.1) (hk : p k) : ∀ x ∈ putK kvs k v, p x.1 := fun x hx => by
  have m : x.1 ∈ (putK kvs k v).map (·.1) := List.mem_map.mpr ⟨x, hx, rfl⟩
  rw [putK_keys] at m
  have old : x.1 ∈ kvs.map (·.1) → p x.1 := fun z => by
    obtain ⟨y, hy, e⟩ := List.mem_map.mp z
    rw [← e]
    exact h y hy
  split at m
  · exact old m
  · rcases List.mem_append.mp m with z | z
    · exact old z
    · rw [List.mem_singleton.mp z]
      exact hk
theorem DN.len {w : World} {H : Hp} {d : Addr} {kvs : List (Dt × V)} (h : DN w H d kvs) : kvs.length ≤ sizeLine := by
  obtain ⟨_, _, _, _, _, _, _, _, _, _, z, _⟩ := h
  exact z
theorem DN.nodup {w : World} {H : Hp} {d : Addr} {kvs : List (Dt × V)} (h : DN w H d kvs) : (kvs.map (·.1)).Nodup := by
  obtain ⟨_, _, _, _, _, _, _, _, z, _⟩ := h
  exact z
/-- it stays while it and the tuples stay -/
theorem DN.keep {w : World} {H H' : Hp} {d : Addr} {kvs : List (Dt × V)} (h : DN w H d kvs) (hd : H' d = H d) (ht : TupK H H') : DN w H' d kvs := by
  obtain ⟨o, es, ep, xs, h1, h2, h3, h4, h5, h6, h7, h8, h9⟩ := h
  exact ⟨o, es, ep, xs, hd.trans h1, h2, h3, h4, h5, h6, h7, h8, h9.keeps ht⟩
theorem DN.at {w : World} {H : Hp} {d : Addr} {kvs : List (Dt × V)} (h : DN w H d kvs) : ∃ o, H d = some (exo d o) := by
  obtain ⟨o, _, _, _, h1, _⟩ := h
  exact ⟨o, h1⟩
theorem exo_ne {d e : Addr} {o : Obj} {u : HO} (h : ∀ φ, u ≠ .ext φ) : exo d o ≠ u := fun z => h _ z.symm
theorem exo_ok {P : Program} {w : World} {H : Hp} {h : Heap} {d : Addr} {o : Obj} (e : h.get? d = some o) : ObjOk P w H h d (exo d o) := by
  refine ⟨e, ⟨o, e⟩, fun h1 h2 a b => b o a⟩
theorem exo_get {P : Program} {w : World} {H : Hp} {h : Heap} {d : Addr} {o : Obj} (ok : HOk P w H h) (e : H d = some (exo d o)) : h.get? d = some o :=
  (show ObjOk P w H h d (exo d o) from ok d _ e).1
theorem DN.ofH {P : Program} {w : World} {H : Hp} {h : Heap} {d : Addr} {kvs : List (Dt × V)} (x : DN w H d kvs) (ok : HOk P w H h) :
    ∃ xs, KN H kvs xs ∧ h.DictOfH (nestedKind P w) d xs ∧ (d == sysModules) = false ∧ xs.length ≤ sizeLine := by
  obtain ⟨o, es, ep, xs, h1, h2, h3, h4, h5, h6, h7, h8, h9⟩ := x
  refine ⟨xs, h9, ⟨o, es, ep, exo_get ok h1, h2, h3, h4, ?_, by rw [← h9.keys]; exact h5⟩, h6, by rw [← Paired.length h9]; exact h7⟩
  have all : ∀ {l : List (Dt × V)} {m : List (Dt × Addr × Value)}, KN H l m → (∀ p ∈ l, p.1.depth ≤ 8) → ∀ y ∈ m, (nestedKind P w).is h y.1 y.2.1 := by
    intro l m r
    induction r with
    | nil => intro _ y hy; exact nomatch hy
    | @cons p q ps qs hq t ih =>
      intro hp y hy
      rcases List.mem_cons.mp hy with e | hy
      · subst e
        have d8 := hp p List.mem_cons_self
        rw [hq.1] at d8
        exact ⟨Rep.nested ok y.1 (V.ref y.2.1) (Value.ref y.2.1) (by rw [← hq.1]; exact hq.2.1) rfl, d8⟩
      · exact ih (fun z hz => hp z (List.mem_cons_of_mem _ hz)) y hy
  exact all h9 h8
/-- behind a store -/
theorem DN.made {P : Program} {w : World} {H' : Hp} {h : Heap} {d : Addr} {kvs : List (Dt × V)} {xs : List (Dt × Addr × Value)} (dd : h.DictOfH (nestedKind P w) d xs) (r : KN H' kvs xs) (hl : kvs.length ≤ sizeLine) (hd : (d == sysModules) = false)
    (h8 : ∀ p ∈ kvs, p.1.depth ≤ 8) : ∃ o, h.get? d = some o ∧ ∀ H'', TupK H' H'' → H'' d = some (exo d o) → DN w H'' d kvs := by
  obtain ⟨o, es, ep, h1, h2, h3, h4, _, h6⟩ := dd
  exact ⟨o, h1, fun H'' t e => ⟨o, es, ep, xs, e, h2, h3, h4, by rw [r.keys]; exact h6, hd, hl, h8, r.keeps t⟩⟩

section
variable {X : Cx} {pins : List (Addr × Obj)} {σ : L2.St} {H : Hp} {s : Shared} {d b : Addr} {k : Dt} {kvs : List (Dt × V)} {A : Around} {E : Value → Shared → Prop}
theorem key_at (I : Inv X pins σ H s) (hk : Rep H k (.ref b)) (h8 : k.depth ≤ 8) : (nestedKind X.prog X.w).is s.heap k b := ⟨Rep.nested I.hok k _ _ hk rfl, h8⟩
theorem n_in {Q : Value → Shared → Prop} (hu : A.units + 64 < cLine) (I : Inv X pins σ H s) (g : DN X.w H d kvs) (hk : Rep H k (.ref b)) (h8 : k.depth ≤ 8) (h : ∀ s', Inv X pins σ H s' → Q (.bool (valV kvs k).isSome) s') :
    wpAny (model X.prog X.w) A (compareOp .In (.ref b) (.ref d)) Q E s := by
  obtain ⟨xs, r, dd, hd, hz⟩ := g.ofH I.hok
  refine wpAny_in_heap (knd := nestedKind X.prog X.w) (by show A.units + 1 + 8 < cLine; omega) (key_at I hk h8) hd dd ?_
  have q := (r.val k).isSome_eq
  rw [Option.isSome_map] at q
  rw [← q]
  exact h _ (I.tok _)
theorem n_notIn {Q : Value → Shared → Prop} (hu : A.units + 64 < cLine) (I : Inv X pins σ H s) (g : DN X.w H d kvs) (hk : Rep H k (.ref b)) (h8 : k.depth ≤ 8) (h : ∀ s', Inv X pins σ H s' → Q (.bool (!(valV kvs k).isSome)) s') :
    wpAny (model X.prog X.w) A (compareOp .NotIn (.ref b) (.ref d)) Q E s := by
  obtain ⟨xs, r, dd, hd, hz⟩ := g.ofH I.hok
  refine wpAny_notIn_heap (knd := nestedKind X.prog X.w) (by show A.units + 1 + 8 < cLine; omega) (key_at I hk h8) hd dd ?_
  have q := (r.val k).isSome_eq
  rw [Option.isSome_map] at q
  rw [← q]
  exact h _ (I.tok _)
theorem n_getItem {v : V} {Q : Value → Shared → Prop} (hu : A.units + 64 < cLine) (I : Inv X pins σ H s) (g : DN X.w H d kvs) (hk : Rep H k (.ref b)) (h8 : k.depth ≤ 8) (hv : valV kvs k = some v) (h : ∀ w' s', Inv X pins σ H s' → RelV v w' → Q w' s') :
    wpAny (model X.prog X.w) A (getItem (.ref d) (.ref b)) Q E s := by
  obtain ⟨xs, r, dd, hd, hz⟩ := g.ofH I.hok
  obtain ⟨w', hw, rw'⟩ := RelO.some_of (v := v) (o := (atKey xs k).map (·.2)) (by rw [← hv]; exact r.val k)
  obtain ⟨p, hp, hp2⟩ := Option.map_eq_some_iff.mp hw
  refine wpAny_getItem_heap (knd := nestedKind X.prog X.w) (by show A.units + 1 + 8 < cLine; omega) (key_at I hk h8) dd hp ?_
  rw [hp2]
  exact h w' _ (I.tok _) rw'
theorem n_write {h' : Heap} {t' : Nat} {o : Obj} (I : Inv X pins σ H s) (g : DN X.w H d kvs) (hs : Heap.SameBut d s.heap h') (ho : h'.get? d = some o) : Inv X pins σ (upd H d (exo d o)) { s with heap := h', toks := t' } := by
  obtain ⟨o0, e0⟩ := g.at
  exact d_write I (by rw [e0]; exact True.intro) hs ⟨o, ho⟩ (exo_ok ho)
theorem n_setItem {v : V} {r : Value} {Q : Unit → Shared → Prop} (hu : A.units + 64 < cLine) (I : Inv X pins σ H s) (g : DN X.w H d kvs) (hk : Rep H k (.ref b)) (h8 : k.depth ≤ 8) (hl : kvs.length < sizeLine) (rv : RelV v r)
    (h : ∀ o s', DN X.w (upd H d (exo d o)) d (putK kvs k v) → Inv X pins σ (upd H d (exo d o)) s' → Q () s') : wpAny (model X.prog X.w) A (setItem (.ref d) (.ref b) r) Q E s := by
  obtain ⟨xs, rr, dd, hd, hz⟩ := id g |>.ofH I.hok
  obtain ⟨_, _, _, _, _, _, _, _, _, _, _, a8, _⟩ := id g
  refine wpAny_setItem_heap (knd := nestedKind X.prog X.w) (hsz := hz) (by show A.units + 1 + 8 < cLine; omega) (key_at I hk h8) dd fun h' dd' hs => ?_
  have hlk := length_putK kvs k v
  obtain ⟨o, ho, mk⟩ := DN.made (H' := H) dd' (rr.put k hk rv) (by omega) hd (putK_all (p := fun z : Dt => z.depth ≤ 8) a8 h8)
  obtain ⟨o0, e0⟩ := g.at
  exact h o _ (mk _ (TupK.upd_old e0 True.intro) upd_same) (n_write I g hs ho)
theorem n_setdefault {v : V} {r : Value} {Q : Value → Shared → Prop} (hu : A.units + 64 < cLine) (I : Inv X pins σ H s) (g : DN X.w H d kvs) (hk : Rep H k (.ref b)) (h8 : k.depth ≤ 8) (hl : kvs.length < sizeLine) (rv : RelV v r)
    (h1 : ∀ y w' s', valV kvs k = some y → Inv X pins σ H s' → RelV y w' → Q w' s')
    (h2 : ∀ o s', valV kvs k = none → DN X.w (upd H d (exo d o)) d (putK kvs k v) → Inv X pins σ (upd H d (exo d o)) s' → Q r s') : wpAny (model X.prog X.w) A (call (.builtin "dict.setdefault") [.ref d, .ref b, r]) Q E s := by
  obtain ⟨xs, rr, dd, hd, hz⟩ := id g |>.ofH I.hok
  obtain ⟨_, _, _, _, _, _, _, _, _, _, _, a8, _⟩ := id g
  have vr := rr.val k
  refine call_setdefault_heap (knd := nestedKind X.prog X.w) (hsz := hz) (by show A.units + 1 + 8 < cLine; omega) (key_at I hk h8) hd dd (fun p hp => ?_) (fun hn h' dd' hs => ?_)
  · rw [hp] at vr
    cases q : valV kvs k with
    | none =>
      rw [q] at vr
      exact False.elim vr
    | some y =>
      rw [q] at vr
      exact h1 y _ _ q (I.tok _) vr
  · rw [hn] at vr
    have q : valV kvs k = Option.none := by
      cases q : valV kvs k with
      | none => rfl
      | some y =>
        rw [q] at vr
        exact False.elim vr
    have hlk := length_putK kvs k v
    obtain ⟨o, ho, mk⟩ := DN.made (H' := H) dd' (rr.put k hk rv) (by omega) hd (putK_all (p := fun z : Dt => z.depth ≤ 8) a8 h8)
    obtain ⟨o0, e0⟩ := g.at
    exact h2 o _ q (mk _ (TupK.upd_old e0 True.intro) upd_same) (n_write I g hs ho)
theorem n_typeIs (I : Inv X pins σ H s) (g : DN X.w H d kvs) : s.TypeIs (.ref d) "dict" := by
  obtain ⟨xs, _, dd, _⟩ := g.ofH I.hok
  exact dd.typeIs
theorem n_noDict (I : Inv X pins σ H s) (g : DN X.w H d kvs) : ∀ b, Value.ref d = .ref b → ∃ ob, s.heap.get? b = some ob ∧ ob.dict = none := fun b q => by
  cases q
  obtain ⟨xs, _, ⟨ob, _, _, h1, h2, _⟩, _⟩ := g.ofH I.hok
  exact ⟨ob, h1, h2.2.1⟩
end
end R60

set_option Elab.async false
set_option linter.all false
set_option maxRecDepth 100000
set_option maxHeartbeats 1000000
/-! Dicts whose keys are None, ints, texts; rules for all kinds of dicts by values; walks over their keys. -/
namespace R60
open PySem PySem.Spec PyProof.Rows L2

/-! ### dicts with keys by value, None among them -/
def leafV : Leaf → V
  | .none => .non
  | .num i => .int i
  | .text x => .str x
/-- no bools -/
def leafIs : Leaf → Value → Bool
  | .none, .none => true
  | .none, _ => false
  | .num i, v => Value.isInt i v
  | .text x, v => Value.isStrOf x v
theorem leafIs_shape {k : Leaf} {u : Value} (h : leafIs k u = true) : RelV (leafV k) u := by
  cases k with
  | none => cases u <;> first | rfl | (cases h; done)
  | num i =>
    obtain ⟨t, e⟩ := Value.isInt_shape (k := i) (v := u) h
    exact ⟨t, e⟩
  | text x =>
    obtain ⟨t, e⟩ := Value.isStrOf_shape (x := x) (v := u) h
    exact ⟨t, e⟩
theorem leafV_is0 {k : Leaf} {u : Value} (r : RelV (leafV k) u) : leafIs k u = true := by
  cases k with
  | none =>
    have e : u = Value.none := r
    subst e
    rfl
  | num i =>
    obtain ⟨t, rfl⟩ := (show ∃ t, u = Value.int i t from r)
    simp [leafIs, Value.isInt]
  | text x =>
    obtain ⟨t, rfl⟩ := (show ∃ t, u = Value.str x t from r)
    simp [leafIs, Value.isStrOf]
theorem leafIs_of {k : Leaf} {u : Value} (h : leafIs k u = true) : Leaf.isOf k u = true := by
  have r := leafIs_shape h
  cases k with
  | none =>
    have e : u = Value.none := r
    subst e
    rfl
  | num i =>
    obtain ⟨t, rfl⟩ := (show ∃ t, u = Value.int i t from r)
    exact decide_eq_true rfl
  | text x => exact h
/-- keys None, ints, texts; no bools -/
def leafK (P : Program) (w : World) : KeyKind P w Leaf where
  is := leafIs
  hash := (leafKind P w).hash
  inj := fun v a b ha hb => (leafKind P w).inj v a b (leafIs_of ha) (leafIs_of hb)
  byValue := fun k v h => (leafKind P w).byValue k v (leafIs_of h)
  pyHash := fun hv h => (leafKind P w).pyHash (leafIs_of hv) h
  eqBool := fun hu hv h => (leafKind P w).eqBool (leafIs_of hu) (leafIs_of hv) h
  «strs» := fun k x t v h => by
    cases k with
    | none => cases h
    | num i => cases h
    | text y =>
      obtain ⟨u, hu⟩ := Value.isStrOf_shape (show Value.isStrOf y (.str x t) = true from h)
      cases hu
      cases v <;> rfl
theorem leafV_is {P : Program} {w : World} {k : Leaf} {u : Value} (r : RelV (leafV k) u) : (leafK P w).is k u = true := leafV_is0 r
theorem leafV_inj {a b : Leaf} (e : leafV a = leafV b) : a = b := by
  cases a <;> cases b <;> simp only [leafV] at e <;> first | rfl | (cases e; done) | (cases e; rfl)
/-- what stands at d is a dict of the pairs kvs -/
def LD (P : Program) (w : World) (H : Hp) (d : Addr) (kvs : List (Leaf × V)) : Prop := ∃ (o : Obj) (vs : List (Leaf × Value)) (es : Array DictEntry) (ep : Nat),
  H d = some (exo d o) ∧ KV kvs vs ∧ (o.ExactDict ∧ o.data = .dict es ep ∧ KeysOf (leafK P w) es ∧ Pairs (leafK P w) es.toList vs ∧ (vs.map (·.1)).Nodup) ∧ (d == sysModules) = false ∧ kvs.length ≤ sizeLine
theorem LD.keep {P : Program} {w : World} {H H' : Hp} {d : Addr} {kvs : List (Leaf × V)} (h : LD P w H d kvs) (hd : H' d = H d) : LD P w H' d kvs := by
  obtain ⟨o, vs, es, ep, h1, h2⟩ := h
  exact ⟨o, vs, es, ep, hd.trans h1, h2⟩
theorem LD.at {P : Program} {w : World} {H : Hp} {d : Addr} {kvs : List (Leaf × V)} (h : LD P w H d kvs) : ∃ o, H d = some (exo d o) := by
  obtain ⟨o, _, _, _, h1, _⟩ := h
  exact ⟨o, h1⟩
theorem LD.len {P : Program} {w : World} {H : Hp} {d : Addr} {kvs : List (Leaf × V)} (h : LD P w H d kvs) : kvs.length ≤ sizeLine := by
  obtain ⟨_, _, _, _, _, _, _, _, z⟩ := h
  exact z
theorem LD.nodup {P : Program} {w : World} {H : Hp} {d : Addr} {kvs : List (Leaf × V)} (h : LD P w H d kvs) : (kvs.map (·.1)).Nodup := by
  obtain ⟨_, _, _, _, _, r, ⟨_, _, _, _, n⟩, _⟩ := h
  rw [r.keys]
  exact n
theorem LD.of {P : Program} {w : World} {H : Hp} {h : Heap} {d : Addr} {kvs : List (Leaf × V)} (x : LD P w H d kvs) (ok : HOk P w H h) :
    ∃ vs, KV kvs vs ∧ h.DictOf (leafK P w) d vs ∧ (d == sysModules) = false ∧ vs.length ≤ sizeLine := by
  obtain ⟨o, vs, es, ep, h1, h2, ⟨a1, a2, a3, a4, a5⟩, h4, h5⟩ := x
  exact ⟨vs, h2, ⟨o, es, ep, exo_get ok h1, a1, a2, a3, a4, a5⟩, h4, by rw [← h2.length]; exact h5⟩
theorem LD.made {P : Program} {w : World} {h : Heap} {d : Addr} {kvs : List (Leaf × V)} {vs : List (Leaf × Value)} (dd : h.DictOf (leafK P w) d vs) (r : KV kvs vs) (hl : kvs.length ≤ sizeLine) (hd : (d == sysModules) = false) :
    ∃ o, h.get? d = some o ∧ ∀ H, H d = some (exo d o) → LD P w H d kvs := by
  obtain ⟨o, es, ep, h1, h2, h3, h4, h5, h6⟩ := dd
  exact ⟨o, h1, fun H e => ⟨o, vs, es, ep, e, r, ⟨h2, h3, h4, h5, h6⟩, hd, hl⟩⟩

section
variable {X : Cx} {pins : List (Addr × Obj)} {σ : L2.St} {H : Hp} {s : Shared} {d : Addr} {k : Leaf} {u : Value} {kvs : List (Leaf × V)} {A : Around} {E : Value → Shared → Prop}
theorem l_write {h' : Heap} {t' : Nat} {o o0 : Obj} (I : Inv X pins σ H s) (e0 : H d = some (exo d o0)) (hs : Heap.SameBut d s.heap h') (ho : h'.get? d = some o) : Inv X pins σ (upd H d (exo d o)) { s with heap := h', toks := t' } :=
  d_write I (by rw [e0]; exact True.intro) hs ⟨o, ho⟩ (exo_ok ho)
theorem l_getItem {v : V} {Q : Value → Shared → Prop} (I : Inv X pins σ H s) (g : LD X.prog X.w H d kvs) (ry : RelV (leafV k) u) (hv : valV kvs k = some v) (h : ∀ w' s', Inv X pins σ H s' → RelV v w' → Q w' s') :
    wpAny (model X.prog X.w) A (getItem (.ref d) u) Q E s := by
  obtain ⟨vs, rel, dd, hd, hz⟩ := g.of I.hok
  obtain ⟨w', hw, rw'⟩ := RelO.some_of (v := v) (o := valueAt vs k) (by rw [← hv]; exact rel.val k)
  exact wpAny_getItem_of (leafV_is ry) dd.mapOf hw (h w' _ (I.tok _) rw')
theorem l_in {Q : Value → Shared → Prop} (I : Inv X pins σ H s) (g : LD X.prog X.w H d kvs) (ry : RelV (leafV k) u) (h : ∀ s', Inv X pins σ H s' → Q (.bool (valV kvs k).isSome) s') :
    wpAny (model X.prog X.w) A (compareOp .In u (.ref d)) Q E s := by
  obtain ⟨vs, rel, dd, hd, hz⟩ := g.of I.hok
  refine wpAny_in_of (leafV_is ry) hd dd.mapOf ?_
  rw [← (rel.val k).isSome_eq]
  exact h _ (I.tok _)
theorem l_notIn {Q : Value → Shared → Prop} (I : Inv X pins σ H s) (g : LD X.prog X.w H d kvs) (ry : RelV (leafV k) u) (h : ∀ s', Inv X pins σ H s' → Q (.bool (!(valV kvs k).isSome)) s') :
    wpAny (model X.prog X.w) A (compareOp .NotIn u (.ref d)) Q E s := by
  obtain ⟨vs, rel, dd, hd, hz⟩ := g.of I.hok
  refine wpAny_notIn_of (leafV_is ry) hd dd.mapOf ?_
  rw [← (rel.val k).isSome_eq]
  exact h _ (I.tok _)
theorem l_setItem {v : V} {r : Value} {Q : Unit → Shared → Prop} (I : Inv X pins σ H s) (g : LD X.prog X.w H d kvs) (ry : RelV (leafV k) u) (hl : kvs.length < sizeLine) (rv : RelV v r)
    (h : ∀ o s', LD X.prog X.w (upd H d (exo d o)) d (putK kvs k v) → Inv X pins σ (upd H d (exo d o)) s' → Q () s') : wpAny (model X.prog X.w) A (setItem (.ref d) u r) Q E s := by
  obtain ⟨vs, rel, dd, hd, hz⟩ := g.of I.hok
  refine wpAny_setItem_pairs (hsz := hz) (leafV_is ry) dd fun h' dd' hs => ?_
  have hlk := length_putK kvs k v
  obtain ⟨o, ho, mk⟩ := LD.made dd' (rel.put k rv) (by omega) hd
  obtain ⟨o0, e0⟩ := g.at
  exact h o _ (mk _ upd_same) (l_write I e0 hs ho)
theorem l_get2 {y : V} {r : Value} {Q : Value → Shared → Prop} (I : Inv X pins σ H s) (g : LD X.prog X.w H d kvs) (ry : RelV (leafV k) u) (rd : RelV y r) (h : ∀ w' s', Inv X pins σ H s' → RelV ((valV kvs k).getD y) w' → Q w' s') :
    wpAny (model X.prog X.w) A (call (.builtin "dict.get") [.ref d, u, r]) Q E s := by
  obtain ⟨vs, rel, dd, hd, hz⟩ := g.of I.hok
  exact call_meetsIn PySem.F.slot_dict_get dd.typeIs PySem.F.entry_dict_get (PySem.F.args_dict_get_3 _ _ _) (meets_dict_get_default (leafK X.prog X.w) d (leafV_is ry) hd r) ⟨_, dd.mapOf, h _ _ (I.tok _) ((rel.val k).getD rd)⟩
theorem l_typeIs (I : Inv X pins σ H s) (g : LD X.prog X.w H d kvs) : s.TypeIs (.ref d) "dict" := by
  obtain ⟨vs, _, dd, _⟩ := g.of I.hok
  exact dd.typeIs
theorem l_noDict (I : Inv X pins σ H s) (g : LD X.prog X.w H d kvs) : ∀ b, Value.ref d = .ref b → ∃ ob, s.heap.get? b = some ob ∧ ob.dict = none := fun b q => by
  cases q
  obtain ⟨vs, _, ⟨ob, _, _, h1, h2, _⟩, _⟩ := g.of I.hok
  exact ⟨ob, h1, h2.2.1⟩
end

/-! ### any of the three kinds -/
/-- what the dict at a holds at y -/
def GG (P : Program) (w : World) (H : Hp) (a : Addr) (y : V) (r : Option V) : Prop :=
  DGet H a y r ∨ (∃ kvs k b, DN w H a kvs ∧ y = .ref b ∧ Rep H k (.ref b) ∧ k.depth ≤ 8 ∧ r = valV kvs k) ∨ ∃ kvs k, LD P w H a kvs ∧ y = leafV k ∧ r = valV kvs k
theorem GG.n {P : Program} {w : World} {H : Hp} {a : Addr} {y : V} {kvs : List (Dt × V)} {ks : List Dt} (g : DN w H a kvs) (r : Rep H (.tup ks) y) (h8 : (NestedKey.tup ks).depth ≤ 8) : GG P w H a y (valV kvs (.tup ks)) := by
  obtain ⟨b, xs, rfl, _, _⟩ := id r.tup_inv
  exact .inr (.inl ⟨kvs, _, b, g, rfl, r, h8, rfl⟩)
theorem GG.l {P : Program} {w : World} {H : Hp} {a : Addr} {y : V} {k : Leaf} {kvs : List (Leaf × V)} (g : LD P w H a kvs) (e : y = leafV k) : GG P w H a y (valV kvs k) := .inr (.inr ⟨kvs, k, g, e, rfl⟩)
theorem GG.k {P : Program} {w : World} {H : Hp} {a : Addr} {y : V} {k : Key} {kvs : List (Key × V)} (g : H a = some (.dK kvs)) (e : y = kV k) : GG P w H a y (valV kvs k) := by
  subst e
  exact .inl (DGet.k g)
/-- a[y] = v, then Q -/
def GP (P : Program) (w : World) (H : Hp) (a : Addr) (y v : V) (Q : Hp → Prop) : Prop :=
  (∃ H', DPut H a y v H' ∧ Q H') ∨ (∃ kvs k b, DN w H a kvs ∧ y = .ref b ∧ Rep H k (.ref b) ∧ k.depth ≤ 8 ∧ kvs.length < sizeLine ∧ ∀ o, DN w (upd H a (exo a o)) a (putK kvs k v) → Q (upd H a (exo a o))) ∨
  ∃ kvs k, LD P w H a kvs ∧ y = leafV k ∧ kvs.length < sizeLine ∧ ∀ o, LD P w (upd H a (exo a o)) a (putK kvs k v) → Q (upd H a (exo a o))
theorem GP.n {P : Program} {w : World} {H : Hp} {a : Addr} {y v : V} {Q : Hp → Prop} {kvs : List (Dt × V)} {ks : List Dt} (g : DN w H a kvs) (r : Rep H (.tup ks) y) (h8 : (NestedKey.tup ks).depth ≤ 8) (hl : kvs.length < sizeLine)
    (q : ∀ o, DN w (upd H a (exo a o)) a (putK kvs (.tup ks) v) → Q (upd H a (exo a o))) : GP P w H a y v Q := by
  obtain ⟨b, xs, rfl, _, _⟩ := id r.tup_inv
  exact .inr (.inl ⟨kvs, _, b, g, rfl, r, h8, hl, q⟩)
theorem GP.l {P : Program} {w : World} {H : Hp} {a : Addr} {y v : V} {Q : Hp → Prop} {k : Leaf} {kvs : List (Leaf × V)} (g : LD P w H a kvs) (e : y = leafV k) (hl : kvs.length < sizeLine)
    (q : ∀ o, LD P w (upd H a (exo a o)) a (putK kvs k v) → Q (upd H a (exo a o))) : GP P w H a y v Q := .inr (.inr ⟨kvs, k, g, e, hl, q⟩)
theorem GP.k {P : Program} {w : World} {H : Hp} {a : Addr} {y v : V} {Q : Hp → Prop} {k : Key} {kvs : List (Key × V)} (g : H a = some (.dK kvs)) (e : y = kV k) (hl : kvs.length < sizeLine) (q : Q (upd H a (.dK (putK kvs k v)))) : GP P w H a y v Q := by
  subst e
  exact .inl ⟨_, DPut.k g hl, q⟩
/-- a dict of n pairs -/
def GD (P : Program) (w : World) (H : Hp) (a : Addr) (n : Nat) : Prop := (∃ kvs, Rd H a (.dK kvs) ∧ n = kvs.length) ∨ (∃ kvs, DN w H a kvs ∧ n = kvs.length) ∨ ∃ kvs, LD P w H a kvs ∧ n = kvs.length

section
variable {X : Cx} {pins : List (Addr × Obj)} {σ : L2.St} {H : Hp} {s : Shared} {a : Addr} {y v : V} {u r : Value} {o : Option V} {A : Around} {E : Value → Shared → Prop}
theorem g_getItem {Q : Value → Shared → Prop} (hu : A.units + 64 < cLine) (I : Inv X pins σ H s) (g : GG X.prog X.w H a y (some v)) (ry : RelV y u) (h : ∀ w' s', Inv X pins σ H s' → RelV v w' → Q w' s') :
    wpAny (model X.prog X.w) A (getItem (.ref a) u) Q E s := by
  rcases g with g | ⟨kvs, k, b, g, rfl, rk, h8, e⟩ | ⟨kvs, k, g, rfl, e⟩
  · exact d_getItem (by omega) I g ry h
  · cases (show u = Value.ref b from ry)
    exact n_getItem hu I g rk h8 e.symm h
  · exact l_getItem I g ry e.symm h
theorem g_in {Q : Value → Shared → Prop} (hu : A.units + 64 < cLine) (I : Inv X pins σ H s) (g : GG X.prog X.w H a y o) (ry : RelV y u) (h : ∀ s', Inv X pins σ H s' → Q (.bool o.isSome) s') :
    wpAny (model X.prog X.w) A (compareOp .In u (.ref a)) Q E s := by
  rcases g with g | ⟨kvs, k, b, g, rfl, rk, h8, rfl⟩ | ⟨kvs, k, g, rfl, rfl⟩
  · exact d_in (by omega) I g ry h
  · cases (show u = Value.ref b from ry)
    exact n_in hu I g rk h8 h
  · exact l_in I g ry h
theorem g_notIn {Q : Value → Shared → Prop} (hu : A.units + 64 < cLine) (I : Inv X pins σ H s) (g : GG X.prog X.w H a y o) (ry : RelV y u) (h : ∀ s', Inv X pins σ H s' → Q (.bool (!o.isSome)) s') :
    wpAny (model X.prog X.w) A (compareOp .NotIn u (.ref a)) Q E s := by
  rcases g with g | ⟨kvs, k, b, g, rfl, rk, h8, rfl⟩ | ⟨kvs, k, g, rfl, rfl⟩
  · exact d_notIn (by omega) I g ry h
  · cases (show u = Value.ref b from ry)
    exact n_notIn hu I g rk h8 h
  · exact l_notIn I g ry h
theorem g_setItem {Q : Unit → Shared → Prop} {R : Hp → Prop} (hu : A.units + 64 < cLine) (I : Inv X pins σ H s) (g : GP X.prog X.w H a y v R) (ry : RelV y u) (rv : RelV v r) (h : ∀ H' s', R H' → Inv X pins σ H' s' → Q () s') :
    wpAny (model X.prog X.w) A (setItem (.ref a) u r) Q E s := by
  rcases g with ⟨H', g, q⟩ | ⟨kvs, k, b, g, rfl, rk, h8, hl, q⟩ | ⟨kvs, k, g, rfl, hl, q⟩
  · exact d_setItem (by omega) I g ry rv fun s' I' => h H' s' q I'
  · cases (show u = Value.ref b from ry)
    exact n_setItem hu I g rk h8 hl rv fun o s' dn I' => h _ s' (q o dn) I'
  · exact l_setItem I g ry hl rv fun o s' ld I' => h _ s' (q o ld) I'
theorem g_get2 {y2 : V} {Q : Value → Shared → Prop} (hu : A.units + 64 < cLine) (I : Inv X pins σ H s) (g : DGet H a y o ∨ ∃ kvs k, LD X.prog X.w H a kvs ∧ y = leafV k ∧ o = valV kvs k) (ry : RelV y u) (rd : RelV y2 r)
    (h : ∀ w' s', Inv X pins σ H s' → RelV (o.getD y2) w' → Q w' s') : wpAny (model X.prog X.w) A (call (.builtin "dict.get") [.ref a, u, r]) Q E s := by
  rcases g with g | ⟨kvs, k, g, rfl, rfl⟩
  · exact d_get2 (by omega) I g ry rd h
  · exact l_get2 I g ry rd h
theorem g_typeIs (I : Inv X pins σ H s) (g : GG X.prog X.w H a y o) : s.TypeIs (.ref a) "dict" := by
  rcases g with g | ⟨kvs, k, b, g, _⟩ | ⟨kvs, k, g, _⟩
  · exact dict_typeIs I g
  · exact n_typeIs I g
  · exact l_typeIs I g
theorem g_at {n : Nat} (I : Inv X pins σ H s) (g : GD X.prog X.w H a n) : s.TypeIs (.ref a) "dict" ∧ (∀ b, Value.ref a = .ref b → ∃ ob, s.heap.get? b = some ob ∧ ob.dict = none) := by
  rcases g with ⟨kvs, g, _⟩ | ⟨kvs, g, _⟩ | ⟨kvs, g, _⟩
  · obtain ⟨h1, h2, _⟩ := isD_at I (.inl ⟨kvs, g⟩)
    exact ⟨h1, h2⟩
  · exact ⟨n_typeIs I g, n_noDict I g⟩
  · exact ⟨l_typeIs I g, l_noDict I g⟩
end

/-! ### readings and rules, for any kind -/
def gGet (P : Program) (w : World) (td ty : TE) : TE := fun σ H Q => td σ H fun x H1 => ty σ H1 fun y H2 => ∃ a v, x = .ref a ∧ GG P w H2 a y (some v) ∧ Q v H2
def gIn (P : Program) (w : World) (ty td : TE) : TE := fun σ H Q => ty σ H fun y H1 => td σ H1 fun x H2 => ∃ a o, x = .ref a ∧ GG P w H2 a y o ∧ Q (.bl o.isSome) H2
def gNotIn (P : Program) (w : World) (ty td : TE) : TE := fun σ H Q => ty σ H fun y H1 => td σ H1 fun x H2 => ∃ a o, x = .ref a ∧ GG P w H2 a y o ∧ Q (.bl (!o.isSome)) H2
def gPut (P : Program) (w : World) (td ty tv : TE) : TS := fun D σ H => tv σ H fun v H1 => td σ H1 fun x H2 => ty σ H2 fun y H3 => ∃ a, x = .ref a ∧ GP P w H3 a y v fun H4 => D.nx σ H4
def gGet2 (P : Program) (w : World) (td ty tx : TE) : TE := fun σ H Q => td σ H fun x H1 => ∃ a n, x = .ref a ∧ GD P w H1 a n ∧ ty σ H1 fun y H2 => tx σ H2 fun z H3 => ∃ o, (DGet H3 a y o ∨ ∃ kvs k, LD P w H3 a kvs ∧ y = leafV k ∧ o = valV kvs k) ∧ Q (o.getD z) H3
/-- d.setdefault(y, v) as a statement; nested keys -/
def gSetd (P : Program) (w : World) (td ty tv : TE) : TE := fun σ H Q => td σ H fun x H1 => ∃ a n, x = .ref a ∧ GD P w H1 a n ∧ ty σ H1 fun y H2 => tv σ H2 fun v H3 => ∃ kvs ks, DN w H3 a kvs ∧ Rep H3 (.tup ks) y ∧ (NestedKey.tup ks).depth ≤ 8 ∧ kvs.length < sizeLine ∧
  (∀ z, valV kvs (.tup ks) = some z → Q z H3) ∧ (valV kvs (.tup ks) = none → ∀ o, DN w (upd H3 a (exo a o)) a (putK kvs (.tup ks) v) → Q v (upd H3 a (exo a o)))
section
variable {X : Cx} {o i e f value : Expr} {pos pos' tpos apos cpos : Pos} {td ty tv tx : TE}
theorem xe_get {P : Program} {w : World} (ho : PE X o td) (hi : PE X i ty) (hs : NoSl i) (hu : X.A.units + 64 < cLine) (hP : X.prog = P := by rfl) (hw : X.w = w := by rfl) : PE X (.Subscript o i pos) (gGet P w td ty) := by
  subst hP hw
  refine ⟨fun pins s σ H Q I h => ?_⟩
  refine subD_of PySem.F.slot_dict_getitem.lookup hs (thn (ho.run pins s σ H _ I h) fun u s1 ⟨x, H1, I1, rx, q1⟩ => thn (hi.run pins s1 σ H1 _ I1 q1) fun iv s2 ⟨y, H2, I2, ry, a, v, ex, g, q2⟩ => ?_)
  subst ex
  obtain rfl : u = Value.ref a := rx
  exact ⟨g_typeIs I2 g, g_getItem hu I2 g ry fun w' s3 I3 rw' => ⟨v, H2, I3, rw', q2⟩⟩
theorem xc_in {P : Program} {w : World} (hi : PE X i ty) (ho : PE X o td) (hu : X.A.units + 64 < cLine) (hP : X.prog = P := by rfl) (hw : X.w = w := by rfl) : PC X .In i o (gIn P w ty td) := by
  subst hP hw
  refine ⟨fun pins s σ H Q I h => ?_⟩
  refine thn (hi.run pins s σ H _ I h) fun iv s1 ⟨y, H1, I1, ry, q1⟩ => thn (ho.run pins s1 σ H1 _ I1 q1) fun u s2 ⟨x, H2, I2, rx, a, ov, ex, g, q2⟩ => ?_
  subst ex
  obtain rfl : u = Value.ref a := rx
  exact g_in hu I2 g ry fun s3 I3 => ⟨.bl ov.isSome, H2, I3, rfl, q2⟩
theorem xc_notin {P : Program} {w : World} (hi : PE X i ty) (ho : PE X o td) (hu : X.A.units + 64 < cLine) (hP : X.prog = P := by rfl) (hw : X.w = w := by rfl) : PC X .NotIn i o (gNotIn P w ty td) := by
  subst hP hw
  refine ⟨fun pins s σ H Q I h => ?_⟩
  refine thn (hi.run pins s σ H _ I h) fun iv s1 ⟨y, H1, I1, ry, q1⟩ => thn (ho.run pins s1 σ H1 _ I1 q1) fun u s2 ⟨x, H2, I2, rx, a, ov, ex, g, q2⟩ => ?_
  subst ex
  obtain rfl : u = Value.ref a := rx
  exact g_notIn hu I2 g ry fun s3 I3 => ⟨.bl (!ov.isSome), H2, I3, rfl, q2⟩
theorem xs_put {P : Program} {w : World} (ho : PE X o td) (hi : PE X i ty) (hv : PE X value tv) (hu : X.A.units + 64 < cLine) (hs : swapsWith value (some (.Subscript o i pos')) pos.line X.env = pure false) (hP : X.prog = P := by rfl) (hw : X.w = w := by rfl) :
    PS X (.Assign [.Subscript o i pos'] value pos) (gPut P w td ty tv) := by
  subst hP hw
  refine ⟨fun pins s σ H D I h => ?_⟩
  refine wpAny_Assign_Subscript (thn (hv.run pins s σ H _ I h) fun r s1 ⟨v, H1, I1, rv, q1⟩ => thn (ho.run pins s1 σ H1 _ I1 q1) fun u s2 ⟨x, H2, I2, rx, q2⟩ => thn (hi.run pins s2 σ H2 _ I2 q2) fun iv s3 ⟨y, H3, I3, ry, a, ex, g⟩ => ?_) hs
  subst ex
  obtain rfl : u = Value.ref a := rx
  exact g_setItem hu I3 g ry rv fun H4 s4 q4 I4 => ⟨σ, H4, I4, q4⟩
theorem xe_get2 {P : Program} {w : World} (ho : PE X o td) (he : PE X e ty) (hf : PE X f tx) (hu : X.A.units + 64 < cLine) (m : M2 X o "get" apos e f cpos) (hP : X.prog = P := by rfl) (hw : X.w = w := by rfl) : PE X (.Call (.Attribute o "get" apos) [e, f] [] cpos) (gGet2 P w td ty tx) := by
  subst hP hw
  refine ⟨fun pins s σ H Q I h => ?_⟩
  refine wpAny_Call_method m.base m.few m.line PySem.F.plainAttrs_dict PySem.F.slot_dict_get PySem.F.type_dict_get (thn (ho.run pins s σ H _ I h) fun u s1 ⟨x, H1, I1, rx, a, n, ex, gd, q1⟩ => ?_)
  subst ex
  obtain rfl : u = Value.ref a := rx
  obtain ⟨t1, t2⟩ := g_at I1 gd
  refine ⟨t1, t2, ?_⟩
  rw [m.trees]
  refine Calls.callWith_builtin rfl (Calls.evalArgs_plain (Calls.spliced_cons (thn (he.run pins s1 σ H1 _ I1 q1) fun iv s2 ⟨y, H2, I2, ry, q2⟩ =>
    Calls.spliced_cons (thn (hf.run pins s2 σ H2 _ I2 q2) fun fv s3 ⟨z, H3, I3, rz, ov, g, q3⟩ => Calls.spliced_nil ?_))))
  exact g_get2 hu I3 g ry rz fun w' s4 I4 rw' => ⟨_, H3, I4, rw', q3⟩
theorem xe_setd {P : Program} {w : World} (ho : PE X o td) (he : PE X e ty) (hf : PE X f tv) (hu : X.A.units + 64 < cLine) (m : M2 X o "setdefault" apos e f cpos) (hP : X.prog = P := by rfl) (hw : X.w = w := by rfl) : PE X (.Call (.Attribute o "setdefault" apos) [e, f] [] cpos) (gSetd P w td ty tv) := by
  subst hP hw
  refine ⟨fun pins s σ H Q I h => ?_⟩
  refine wpAny_Call_method m.base m.few m.line PySem.F.plainAttrs_dict PySem.F.slot_dict_setdefault PySem.F.type_dict_setdefault (thn (ho.run pins s σ H _ I h) fun u s1 ⟨x, H1, I1, rx, a, n, ex, gd, q1⟩ => ?_)
  subst ex
  obtain rfl : u = Value.ref a := rx
  obtain ⟨t1, t2⟩ := g_at I1 gd
  refine ⟨t1, t2, ?_⟩
  rw [m.trees]
  refine Calls.callWith_builtin rfl (Calls.evalArgs_plain (Calls.spliced_cons (thn (he.run pins s1 σ H1 _ I1 q1) fun iv s2 ⟨y, H2, I2, ry, q2⟩ =>
    Calls.spliced_cons (thn (hf.run pins s2 σ H2 _ I2 q2) fun fv s3 ⟨z, H3, I3, rz, kvs, ks, g, rk, h8, hl, qa, qb⟩ => Calls.spliced_nil ?_))))
  obtain ⟨b, xs, rfl, _, _⟩ := id rk.tup_inv
  cases (show iv = Value.ref b from ry)
  exact n_setdefault hu I3 g rk h8 hl rz (fun y w' s4 e I4 r4 => ⟨y, H3, I4, r4, qa y e⟩) fun ob s4 e dn I4 => ⟨z, _, I4, rz, qb e ob dn⟩
/-- len(d) -/
theorem call_lenG {P : Program} {w : World} (hP : X.prog = P := by rfl) (hw : X.w = w := by rfl) : CallR X (.builtin "len") (fun xs H Q => ∃ a n, xs = [V.ref a] ∧ GD P w H a n ∧ Q (.int (n : Int)) H) := by
  subst hP hw
  intro pins s σ H xs us Q I r h
  obtain ⟨a, n, rfl, g, q⟩ := h
  obtain ⟨u, rfl, ru⟩ := vals1 r
  cases ru
  rcases g with ⟨kvs, g, rfl⟩ | ⟨kvs, g, rfl⟩ | ⟨kvs, g, rfl⟩
  · exact d_len I g fun t s' I' => ⟨.int kvs.length, H, I', ⟨t, rfl⟩, q⟩
  · obtain ⟨xs, rel, dd, hd, hz⟩ := g.ofH I.hok
    have e : kvs.length = xs.length := Paired.length rel
    refine PyProof.Rows.call_len_slot (n := (kvs.length : Int)) dd.typeIs PySem.F.slot_dict_len (fun Q' hq => len_keyed hd ⟨xs, dd, rfl⟩ (by rw [pairsH_length, ← e]; exact hq)) (by omega) (by rw [sizeLine_eq] at hz; omega) ?_
    exact ⟨.int kvs.length, H, I.tok _, ⟨_, rfl⟩, q⟩
  · obtain ⟨vs, rel, dd, hd, hz⟩ := g.of I.hok
    have e := rel.length
    refine call_len_dict hd dd (by rw [sizeLine_eq] at hz; omega) ?_
    rw [← e]
    exact ⟨.int kvs.length, H, I.tok _, ⟨_, rfl⟩, q⟩
end

/-! ### the keys walked -/
/-- the keys us of the dict object o at d -/
def ItX (d : Addr) (o : Obj) (us : List V) : It :=
  ⟨fun i H => H d = some (exo d o) ∧ i < us.length, fun i H x H' => H' = H ∧ us[i]? = some x, fun i H => H d = some (exo d o) ∧ us.length ≤ i⟩
/-- the object's entries have the keys us -/
def KeysO (o : Obj) (us : List V) : Prop := o.ExactDict ∧ ∃ (es : Array DictEntry) (ep : Nat), o.data = .dict es ep ∧ es.size = us.length ∧ ∀ (i : Nat) (x : V), us[i]? = some x → ∃ en : DictEntry, es[i]? = some en ∧ RelV x en.key
section
variable {P : Program} {w : World} {K : PySem.W.Frag} {tg : Expr} {d : Addr} {o : Obj}
theorem turn_keysX {us : List V} {es : Array DictEntry} {ep : Nat} (it : Addr) (hod : o.data = .dict es ep) (hn : es.size = us.length) (hk : ∀ (i : Nat) (x : V), us[i]? = some x → ∃ en : DictEntry, es[i]? = some en ∧ RelV x en.key) :
    Turn P w K tg (ItX d o us) [it] it (fun i h => h.IsKeyIter it d i us.length ep) where
  mem := by simp
  obj := fun i h st b hb => by
    have e : b = it := by simpa using hb
    subst e
    obtain ⟨oi, e, c, dd⟩ := st
    exact ⟨oi, e, fun v z => by rw [dd] at z; cases z⟩
  keep := fun i h h' st k => st.at fun oi e => k it (by simp) oi e
  item := by
    intro X hP hw hK hc i pins s σ H E I hf st hg
    subst hP hw hK
    obtain ⟨hd, hi⟩ := hg
    obtain ⟨f0, f1, f2, f3, f4, f5⟩ := hf it (by simp)
    have hgd := exo_get I.hok hd
    obtain ⟨x, hx⟩ : ∃ x, us[i]? = some x := ⟨us[i], List.getElem?_eq_getElem hi⟩
    obtain ⟨en, hen, hkey⟩ := hk i x hx
    refine next_key_item st hgd hod hn hen fun h' st' sb => ?_
    have I1 : Inv X pins σ H { s with heap := h' } := I.turned (t' := s.toks) (fun b ob hb e => (sb.2 b hb).trans e) f0 f1 f3 f4 f5
    obtain ⟨oi, e, c, dd⟩ := id st'
    exact ⟨en.key, rfl, go_of (s := { s with heap := h' }) e c dd (by decide) ⟨x, H, I1, hkey, ⟨rfl, hx⟩, st', fun b hb => (hf b hb).1⟩⟩
  done := by
    intro X hP hw hK hc i pins s σ H E I hf st hg
    subst hP hw hK
    obtain ⟨hd, hi⟩ := hg
    obtain ⟨f0, f1, f2, f3, f4, f5⟩ := hf it (by simp)
    have hgd := exo_get I.hok hd
    exact next_key_end (I.ok.hd hc) st hgd hod hn hi fun h' eb => ⟨rfl, I.turned (t' := s.toks) (fun b ob hb e => eb b ob hb e) f0 f1 f3 f4 f5⟩
  self := fun A i s Q E st h => by
    refine wpAny_pyIter_slot st.typeIs F.slot_dict_keyiterator_iter (wpAny_call_entry F.slot_dict_keyiterator_iter st.typeIs F.entry_dict_keyiterator_iter ?_ (F.args_dict_keyiterator_iter_1 _))
    show wpAny _ _ (ret (.ref it)) _ _ s
    exact wpAny_pure ⟨_, rfl, "dict_keyiterator", _, st.typeIs, F.slot_dict_keyiterator_next.lookup, h⟩
end
/-- for k in d: d nested or by value; its object stays -/
def iKeysX (td : TE) : TI := fun σ H R => td σ H fun x H1 => ∃ d o us, x = .ref d ∧ H1 d = some (exo d o) ∧ (d == sysModules) = false ∧ KeysO o us ∧ R (ItX d o us) H1
theorem pi_keysX {X : Cx} {tg e : Expr} {td : TE} (he : PE X e td) : PI X tg e (iKeysX td) := by
  refine ⟨fun pins s σ H R I h => ?_⟩
  refine thn (he.run pins s σ H _ I h) fun u s1 ⟨x, H1, I1, rx, d, o, us, ex, hd, hs, ⟨hx, es, ep, hdt, hn, hk⟩, q⟩ => ?_
  subst ex
  obtain rfl : u = Value.ref d := rx
  have hgd := exo_get I1.hok hd
  refine iter_keys hs hgd hx hdt (pi_one (tk := s1.toks) I1 _ (turn_keysX (d := d) (o := o) _ hdt hn hk) ⟨_, Heap.get?_push_size _ rfl, rfl, ?_⟩ q)
  rw [hn] <;> rfl
/-- the keys of a nested dict: the very tuples -/
theorem DN.keysO {w : World} {H : Hp} {d : Addr} {kvs : List (Dt × V)} (g : DN w H d kvs) : ∃ o us, H d = some (exo d o) ∧ (d == sysModules) = false ∧ KeysO o us ∧ Reps H (kvs.map (·.1)) us ∧ us.length = kvs.length := by
  obtain ⟨o, es, ep, xs, h1, h2, h3, h4, h5, h6, h7, h8, h9⟩ := g
  have len : kvs.length = xs.length := Paired.length h9
  have hes : es.size = xs.length := by
    have := congrArg List.length h4
    simpa using this
  refine ⟨o, xs.map (fun x => V.ref x.2.1), h1, h6, ⟨h2, es, ep, h3, by rw [List.length_map]; exact hes, fun i x hx => ?_⟩, ?_, by rw [List.length_map]; exact len.symm⟩
  · rw [List.getElem?_map] at hx
    cases q : xs[i]? with
    | none => rw [q] at hx; cases hx
    | some y =>
      rw [q] at hx
      have e := Option.some.inj hx
      subst e
      refine ⟨⟨y.1.hash w, .ref y.2.1, y.2.2⟩, ?_, rfl⟩
      rw [← Array.getElem?_toList, h4, List.getElem?_map, q]
      rfl
  · have all : ∀ {l : List (Dt × V)} {m : List (Dt × Addr × Value)}, KN H l m → Reps H (l.map (·.1)) (m.map (fun x => V.ref x.2.1)) := by
      intro l m r
      induction r with
      | nil => exact .nil
      | cons h t ih => exact .cons h.2.1 ih
    exact all h9
/-- the keys of a dict by value -/
theorem LD.keysO {P : Program} {w : World} {H : Hp} {d : Addr} {kvs : List (Leaf × V)} (g : LD P w H d kvs) :
    ∃ o, H d = some (exo d o) ∧ (d == sysModules) = false ∧ KeysO o (kvs.map fun p => leafV p.1) := by
  obtain ⟨o, vs, es, ep, h1, h2, ⟨a1, a2, a3, a4, a5⟩, h4, h5⟩ := g
  have hsz : es.size = vs.length := by
    rw [← a4.length]
    simp
  refine ⟨o, h1, h4, a1, es, ep, a2, by rw [List.length_map, hsz, h2.length], fun i x hxi => ?_⟩
  rw [List.getElem?_map] at hxi
  cases q : kvs[i]? with
  | none => rw [q] at hxi; cases hxi
  | some y =>
    rw [q] at hxi
    have e := Option.some.inj hxi
    subst e
    obtain ⟨u, hu, ru⟩ := kv_get h2 (k := y.1) (v := y.2) q
    have hi : i < es.size := by
      rw [hsz]
      exact (List.getElem?_eq_some_iff.mp hu).1
    exact ⟨es[i], by simp [hi], leafIs_shape (a4.get? (e := es[i]) (by simp [hi]) hu).1⟩
end R60

set_option Elab.async false
set_option linter.all false
set_option maxRecDepth 100000
set_option maxHeartbeats 1000000
/-! Tuples whose object is known; new dicts, copies, dicts of pairs, lists of dicts. -/
namespace R60
open PySem PySem.Spec PyProof.Rows L2

/-! ### tuples, their object known -/
def PlainT (o : Obj) : Prop := o.cls = .type "tuple" ∧ o.dict = Option.none ∧ ∃ its n, o.data = .seq its n
/-- a plain tuple of xs at a -/
def TF (H : Hp) (a : Addr) (xs : List V) : Prop := ∃ o, H a = some (.frz o (.tup xs)) ∧ PlainT o
theorem TF.rd {H : Hp} {a : Addr} {xs : List V} (t : TF H a xs) : Rd H a (.tup xs) := let ⟨o, h, _⟩ := t; .inr ⟨o, h⟩
def tTupF (t : TA) : TE := fun σ H Q => t σ H fun xs H1 => xs.length ≤ sizeLine ∧ ∀ p o, H1 p = none → PlainT o → Q (.ref p) (upd H1 p (.frz o (.tup xs)))
section
variable {X : Cx} {es : List Expr} {t : TA} {pos : Pos}
theorem pe_tupF {x1} (h : PA X es t) : PE X (.Tuple es x1 pos) (tTupF t) := by
  refine ⟨fun pins s σ H Q I hq => ?_⟩
  refine wpAny_Tuple_spliced (thn (h.run pos pins s σ H _ I hq) fun us s1 ⟨xs, H1, I1, r, z, q⟩ => ⟨by rw [← r.length]; exact z, ?_⟩)
  have hf : H1 s1.heap.objs.size = none := I1.hok.fresh (Nat.le_refl _)
  have g := Heap.get?_push_size s1.heap (o := ({ cls := .type "tuple", data := .seq us.toArray } : Obj)) rfl
  refine ⟨.ref s1.heap.objs.size, _, I1.laid (a := s1.heap.objs.size) (o := .frz { cls := .type "tuple", data := .seq us.toArray } (.tup xs)) (t' := s1.toks) (fun b u e => Heap.get?_push_of_some _ e) (Nat.le_refl _) ?_, rfl, q _ _ hf ⟨rfl, rfl, _, _, rfl⟩⟩
  exact ⟨g, z, us, r, ⟨_, g, rfl, _, rfl⟩⟩
/-- tuple(list), the new tuple's object known -/
theorem call_tupleF : CallR X (.type "tuple") (fun xs H Q => ∃ p ys, xs = [.ref p] ∧ SqL X.K H p ys ∧ ∀ l o, H l = none → PlainT o → Q (.ref l) (upd H l (.frz o (.tup ys)))) := by
  intro pins s σ H xs us Q I r h
  obtain ⟨p, ys, rfl, hq, q⟩ := h
  obtain ⟨u, rfl, rx⟩ := vals1 r
  cases rx
  obtain ⟨its, r', pl, hz⟩ := I.list hq
  have hlen := r'.length
  refine call_tuple_list pl.isList (fun h' kp => ?_) (by simp only [List.size_toArray] <;> omega)
  have I1 : Inv X pins σ H { s with heap := h' } := I.kept (t' := s.toks) kp
  have g := Heap.get?_push_size h' (o := ({ cls := .type "tuple", data := .seq its.toArray } : Obj)) rfl
  refine ⟨.ref h'.objs.size, _, I1.laid (a := h'.objs.size) (o := .frz { cls := .type "tuple", data := .seq its.toArray } (.tup ys)) (t' := s.toks) (fun b o e => Heap.get?_push_of_some _ e) (Nat.le_refl _) ?_, rfl, q _ _ (I1.hok.fresh (Nat.le_refl _)) ⟨rfl, rfl, _, _, rfl⟩⟩
  exact ⟨g, hz, its, r', ⟨_, g, rfl, _, rfl⟩⟩
end

/-! ### new dicts -/
theorem size_sys {X : Cx} {pins : List (Addr × Obj)} {σ : L2.St} {H : Hp} {s : Shared} (I : Inv X pins σ H s) : (s.heap.objs.size == sysModules) = false := beq_eq_false_iff_ne.mpr (Ne.symm (Nat.ne_of_lt I.big))
def tNewN (w : World) : TE := fun _ H Q => ∀ p o, H p = none → DN w (upd H p (exo p o)) p [] → Q (.ref p) (upd H p (exo p o))
def tNewL (P : Program) (w : World) : TE := fun _ H Q => ∀ p o, H p = none → LD P w (upd H p (exo p o)) p [] → Q (.ref p) (upd H p (exo p o))
theorem ld_empty {P : Program} {w : World} (h : Heap) (hs : (h.objs.size == sysModules) = false) : ∀ H, H h.objs.size = some (exo h.objs.size { cls := .type "dict", data := .dict #[] }) → LD P w H h.objs.size [] := fun H e =>
  ⟨_, [], #[], 0, e, .nil, ⟨⟨rfl, rfl, rfl⟩, rfl, (fun _ z => by simp at z), .nil, List.nodup_nil⟩, hs, Nat.zero_le _⟩
section
variable {X : Cx} {pos : Pos}
theorem pe_newN {w : World} (hw : X.w = w := by rfl) : PE X (.Dict [] [] pos) (tNewN w) := hw ▸ ⟨fun pins s σ H Q I h => by
  refine wpAny_Dict_empty ?_
  have g := Heap.get?_push_size s.heap (o := ({ cls := .type "dict", data := .dict #[] } : Obj)) rfl
  refine ⟨.ref s.heap.objs.size, _, I.laid (a := s.heap.objs.size) (o := exo s.heap.objs.size { cls := .type "dict", data := .dict #[] }) (t' := s.toks) (fun _ _ q => Heap.get?_push_of_some _ q) (Nat.le_refl _) (exo_ok g), rfl, h _ _ (I.hok.fresh (Nat.le_refl _)) ?_⟩
  exact ⟨_, #[], 0, [], upd_same, ⟨rfl, rfl, rfl⟩, rfl, rfl, List.nodup_nil, size_sys I, Nat.zero_le _, (fun _ z => nomatch z), .nil⟩⟩
theorem pe_newL {P : Program} {w : World} (hP : X.prog = P := by rfl) (hw : X.w = w := by rfl) : PE X (.Dict [] [] pos) (tNewL P w) := hP ▸ hw ▸ ⟨fun pins s σ H Q I h => by
  refine wpAny_Dict_empty ?_
  have g := Heap.get?_push_size s.heap (o := ({ cls := .type "dict", data := .dict #[] } : Obj)) rfl
  exact ⟨.ref s.heap.objs.size, _, I.laid (a := s.heap.objs.size) (o := exo s.heap.objs.size { cls := .type "dict", data := .dict #[] }) (t' := s.toks) (fun _ _ q => Heap.get?_push_of_some _ q) (Nat.le_refl _) (exo_ok g), rfl, h _ _ (I.hok.fresh (Nat.le_refl _)) (ld_empty s.heap (size_sys I) _ upd_same)⟩⟩
end
/-- {k: v}: one pair; the new dict stands empty at p meanwhile -/
def tDisp1 (P : Program) (w : World) (tk tv : TE) : TE := fun σ H Q => ∀ p o, H p = none → LD P w (upd H p (exo p o)) p [] → tPairs [(tk, tv)] σ (upd H p (exo p o)) fun ps H2 => ∃ k y, ps = [(leafV k, y)] ∧ H2 p = some (exo p o) ∧
  ∀ o', LD P w (upd H2 p (exo p o')) p [(k, y)] → Q (.ref p) (upd H2 p (exo p o'))
section
variable {X : Cx} {pos : Pos} {k v : Expr} {tk tv : TE}
theorem pe_disp1 {P : Program} {w : World} (hk : PE X k tk) (hv : PE X v tv) (hP : X.prog = P := by rfl) (hw : X.w = w := by rfl) : PE X (.Dict [some k] [v] pos) (tDisp1 P w tk tv) := by
  subst hP hw
  refine ⟨fun pins s σ H Q I q => ?_⟩
  have hn := I.hok.fresh (Nat.le_refl s.heap.objs.size)
  have g := Heap.get?_push_size s.heap (o := ({ cls := .type "dict", data := .dict #[] } : Obj)) rfl
  have I1 := I.laid (a := s.heap.objs.size) (o := exo s.heap.objs.size { cls := .type "dict", data := .dict #[] }) (h' := s.heap.push { cls := .type "dict", data := .dict #[] }) (t' := s.toks) (fun _ _ q => Heap.get?_push_of_some _ q) (Nat.le_refl _) (exo_ok g)
  have L0 : LD X.prog X.w (upd H s.heap.objs.size (exo s.heap.objs.size { cls := .type "dict", data := .dict #[] })) s.heap.objs.size [] := ld_empty s.heap (size_sys I) _ upd_same
  refine wpAny_Dict_walk (knd := leafK X.prog X.w) rfl rfl (by simp) (by simp) ?_
  have run : PPs X pos [some k] [v] [(tk, tv)] := pps_cons hk hv pps_nil
  refine thn (run.run pins _ σ _ _ I1 (q _ _ hn L0)) fun ws s2 ⟨ps, H2, I2, rel, kk, y, ep, e2, q2⟩ => ?_
  subst ep
  cases rel with
  | @cons a b as bs h t =>
    cases t
    obtain ⟨b1, b2⟩ := b
    have h2 := exo_get I2.hok e2
    refine ⟨[(kk, b2)], ⟨leafV_is h.1, rfl, True.intro⟩, ⟨_, #[], 0, h2, ⟨rfl, rfl, rfl⟩, rfl, (fun _ z => by simp at z), .nil, List.nodup_nil⟩, fun h' dd' hs => ?_⟩
    have e : merged ([] : List (Leaf × Value)) [(kk, b2)] = [(kk, b2)] := by simp [merged, stored]
    rw [e] at dd'
    obtain ⟨o', ho', mk⟩ := LD.made (kvs := [(kk, y)]) dd' (.cons ⟨rfl, h.2⟩ .nil) (by rw [sizeLine_eq]; simp) (size_sys I)
    exact ⟨.ref s.heap.objs.size, _, l_write I2 e2 hs ho', rfl, q2 o' (mk _ upd_same)⟩
end

/-! ### copies -/
theorem kv_refl_len {vs : List (Leaf × Value)} {kvs : List (Leaf × V)} (r : KV kvs vs) (h : kvs.length ≤ sizeLine) : vs.length ≤ sizeLine := by rw [← r.length]; exact h
section
variable {X : Cx}
/-- dict(d) -/
def rDictOf (P : Program) (w : World) : List V → Hp → VK → Prop := fun xs H Q => ∃ a, xs = [.ref a] ∧
  ((∃ kvs, Rd H a (.dK kvs) ∧ ∀ p, H p = none → Q (.ref p) (upd H p (.dK kvs))) ∨ ∃ kvs, LD P w H a kvs ∧ ∀ p o, H p = none → LD P w (upd H p (exo p o)) p kvs → Q (.ref p) (upd H p (exo p o)))
theorem call_dictOf {P : Program} {w : World} (hP : X.prog = P := by rfl) (hw : X.w = w := by rfl) : CallR X (.type "dict") (rDictOf P w) := by
  subst hP hw
  intro pins s σ H xs us Q I r h
  obtain ⟨a, rfl, h⟩ := h
  obtain ⟨u, rfl, ru⟩ := vals1 r
  cases ru
  rcases h with ⟨kvs, g, q⟩ | ⟨kvs, g, q⟩
  · exact d_copyOf I g fun p s' hp I' => ⟨.ref p, _, I', rfl, q p hp⟩
  · obtain ⟨vs, rel, dd, hd, hz⟩ := g.of I.hok
    refine kt_call_dict hd dd hz fun h' dd' hs => ?_
    obtain ⟨o', ho', mk⟩ := LD.made dd' rel g.len (size_sys I)
    have hf := I.hok.fresh (Nat.le_refl s.heap.objs.size)
    refine ⟨.ref s.heap.objs.size, _, I.laid (a := s.heap.objs.size) (o := exo s.heap.objs.size o') (t' := s.toks) (fun b q hq => ?_) (Nat.le_refl _) (exo_ok ho'), rfl, q _ _ hf (mk _ upd_same)⟩
    exact (hs.2 b (Nat.ne_of_lt (Heap.lt_size hq))).trans (Heap.get?_push_of_some _ hq)

/-! ### dict of pairs -/
/-- the pairs ps at the addresses ts -/
abbrev PrT (H : Hp) : List Addr → List (V × V) → Prop := Paired fun t p => Rd H t (.tup [p.1, p.2])
theorem prT_len {H : Hp} {ts : List Addr} {ps : List (V × V)} (r : PrT H ts ps) : ts.length = ps.length := Paired.length r
theorem prT_vals {P : Program} {w : World} {H : Hp} {h : Heap} (ok : HOk P w H h) : ∀ {ts : List Addr} {ps : List (V × V)}, PrT H ts ps → ∃ rs : List (Value × Value), Paired (fun (p : V × V) (r : Value × Value) => RelV p.1 r.1 ∧ RelV p.2 r.2) ps rs ∧
    Paired (fun (t : Addr) (r : Value × Value) => h.IsTuple t #[r.1, r.2]) ts rs
  | _, _, .nil => ⟨[], .nil, .nil⟩
  | _, _, .cons (a := t) (b := p) h t' => by
    obtain ⟨rs, r1, r2⟩ := prT_vals ok t'
    obtain ⟨_, its, rv, o, h1, h2, n, h3⟩ := (show ObjOk P w H _ t (.tup [p.1, p.2]) from h.ok ok)
    obtain ⟨u1, u2, rfl, ra, rb⟩ := vals2 rv
    exact ⟨(u1, u2) :: rs, .cons ⟨ra, rb⟩ r1, .cons ⟨o, h1, h2, n, h3⟩ r2⟩
theorem paired_getL {α β : Type} {F : α → β → Prop} : ∀ {xs : List α} {ys : List β}, Paired F xs ys → ∀ {i : Nat} {y : β}, ys[i]? = some y → ∃ x, xs[i]? = some x ∧ F x y
  | _, _, .nil, i, x, h => by cases h
  | _, _, .cons r t, 0, x, h => by
    have e := Option.some.inj h
    subst e
    exact ⟨_, rfl, r⟩
  | _, _, .cons r t, i + 1, x, h => paired_getL t h
/-- the items at the addresses ts are the pairs rs -/
theorem pairItems_of {h : Heap} {ts : List Addr} {rs : List (Value × Value)} (r : Paired (fun (t : Addr) (r : Value × Value) => h.IsTuple t #[r.1, r.2]) ts rs) :
    PairItems h (ts.map Value.ref).toArray (fun j => ts.getD j 0) rs := by
  refine ⟨by simp [Paired.length r], fun j k v e => ?_⟩
  obtain ⟨t, ht, hx⟩ := paired_getL r e
  refine ⟨by simp [ht], .inl ?_⟩
  show h.IsTuple (ts.getD j 0) #[k, v]
  have e' : ts.getD j 0 = t := by simp [ht]
  rw [e']
  exact hx
def mergeL (kvs more : List (Leaf × V)) : List (Leaf × V) := more.foldl (fun acc kv => putK acc kv.1 kv.2) kvs
theorem kv_mergeL : ∀ {more : List (Leaf × V)} {rs : List (Leaf × Value)} {kvs : List (Leaf × V)} {vs : List (Leaf × Value)}, KV more rs → KV kvs vs → KV (mergeL kvs more) (merged vs rs) := by
  intro more rs kvs vs r
  unfold KV at r
  induction r generalizing kvs vs with
  | nil => intro q; exact q
  | @cons p q ps qs h t ih =>
    intro r0
    have e : KV (putK kvs p.1 p.2) (stored vs q.1 q.2) := by
      rw [← h.1]
      exact r0.put p.1 h.2
    exact ih e
theorem len_mergeL : ∀ (more kvs : List (Leaf × V)), (mergeL kvs more).length ≤ kvs.length + more.length
  | [], kvs => by show kvs.length ≤ kvs.length + 0; omega
  | p :: r, kvs => by
    have h1 := len_mergeL r (putK kvs p.1 p.2)
    have h2 := length_putK kvs p.1 p.2
    show (mergeL (putK kvs p.1 p.2) r).length ≤ _
    rw [List.length_cons]
    omega
/-- dict(xs), xs a list of pairs with keys by value -/
def rDictL (P : Program) (w : World) : List V → Hp → VK → Prop := fun xs H Q => ∃ (a : Addr) (ts : List Addr) (kvs : List (Leaf × V)), xs = [.ref a] ∧ H a = some (.lst (ts.map V.ref)) ∧ PrT H ts (kvs.map fun p => (leafV p.1, p.2)) ∧
  ∀ p o, H p = none → LD P w (upd H p (exo p o)) p (mergeL [] kvs) → Q (.ref p) (upd H p (exo p o))
theorem call_dictL {P : Program} {w : World} (hc : X.calm = true) (hP : X.prog = P := by rfl) (hw : X.w = w := by rfl) : CallR X (.type "dict") (rDictL P w) := by
  subst hP hw
  intro pins s σ H xs us Q I r h
  obtain ⟨a, ts, kvs, rfl, ha, hp, q⟩ := h
  obtain ⟨u, rfl, ru⟩ := vals1 r
  cases ru
  obtain ⟨z, its, n, rv, ho⟩ := (show ObjOk X.prog X.w H s.heap a (.lst (ts.map V.ref)) from I.hok a _ ha)
  have ei := refs_at rv
  subst ei
  obtain ⟨rs, r1, r2⟩ := prT_vals I.hok hp
  have pi := pairItems_of r2
  -- the pairs by their keys
  have kx : ∀ {l : List (Leaf × V)} {m : List (Value × Value)}, Paired (fun (p : V × V) (r : Value × Value) => RelV p.1 r.1 ∧ RelV p.2 r.2) (l.map fun p => (leafV p.1, p.2)) m →
      ∃ vs : List (Leaf × Value), KV l vs ∧ Paired (fun (v : Leaf × Value) (r : Value × Value) => (leafK X.prog X.w).is v.1 r.1 = true ∧ v.2 = r.2) vs m := by
    intro l
    induction l with
    | nil =>
      intro m r
      rw [List.map_nil] at r
      cases r
      exact ⟨[], .nil, .nil⟩
    | cons p l ih =>
      intro m r
      rw [List.map_cons] at r
      cases r with
      | @cons a b as bs h t =>
        obtain ⟨vs, q1, q2⟩ := ih t
        exact ⟨(p.1, b.2) :: vs, .cons ⟨rfl, h.2⟩ q1, .cons ⟨leafV_is h.1, rfl⟩ q2⟩
  obtain ⟨vs, kv, kr⟩ := kx r1
  have hlen : rs.length = vs.length := (Paired.length kr).symm
  have hlk : kvs.length = vs.length := kv.length
  have htl : ts.length = rs.length := Paired.length r2
  have hts : ts.length ≤ sizeLine := by simpa using z
  refine call_dict_pairs (knd := leafK X.prog X.w) (kvs := vs) (PairArg.list a (ts.map Value.ref).toArray (fun j => ts.getD j 0) rs) (I.ok.hd hc) ⟨⟨_, n, ho, rfl, rfl, rfl⟩, pi⟩ ⟨by rw [hlen], fun i key x e => ?_⟩ (by omega) fun h' tk dd' kp => ?_
  · obtain ⟨v, hv, h1, h2⟩ := paired_getL kr e
    refine ⟨v.1, ?_, h1⟩
    rw [hv]
    exact congrArg some (Prod.ext rfl h2)
  · obtain ⟨o', ho', mk⟩ := LD.made (kvs := mergeL [] kvs) dd' (kv_mergeL kv .nil) (by
      have := len_mergeL kvs []
      simp at this
      omega) (size_sys I)
    have hf := I.hok.fresh (Nat.le_refl s.heap.objs.size)
    exact ⟨.ref s.heap.objs.size, _, I.laid (a := s.heap.objs.size) (o := exo s.heap.objs.size o') (t' := tk) (fun b q hq => kp b q (by simp) hq) (Nat.le_refl _) (exo_ok ho'), rfl, q _ _ hf (mk _ upd_same)⟩
/-- dict(t), t a tuple of pairs of ints (its object known) -/
def rDictT : List V → Hp → VK → Prop := fun xs H Q => ∃ (a : Addr) (ts : List Addr) (kvs : List (Key × V)), xs = [.ref a] ∧ TF H a (ts.map V.ref) ∧ PrT H ts (kvs.map fun p => (kV p.1, p.2)) ∧ ∀ p, H p = none → Q (.ref p) (upd H p (.dK (mergeK [] kvs)))
theorem call_dictT (hc : X.calm = true) : CallR X (.type "dict") rDictT := by
  intro pins s σ H xs us Q I r h
  obtain ⟨a, ts, kvs, rfl, ⟨o, ha, pt1, pt2, its0, n0, pt3⟩, hp, q⟩ := h
  obtain ⟨u, rfl, ru⟩ := vals1 r
  cases ru
  obtain ⟨hg, z, its, rv, o', ho', hc', n, hd'⟩ := (show s.heap.get? a = some o ∧ ObjOk X.prog X.w H s.heap a (.tup (ts.map V.ref)) from I.hok a _ ha)
  rw [hg] at ho'
  have e := Option.some.inj ho'
  subst e
  have ei := refs_at rv
  subst ei
  obtain ⟨rs, r1, r2⟩ := prT_vals I.hok hp
  have pi := pairItems_of r2
  have kx : ∀ {l : List (Key × V)} {m : List (Value × Value)}, Paired (fun (p : V × V) (r : Value × Value) => RelV p.1 r.1 ∧ RelV p.2 r.2) (l.map fun p => (kV p.1, p.2)) m →
      ∃ vs : List (Key × Value), KV l vs ∧ Paired (fun (v : Key × Value) (r : Value × Value) => (mixKind X.prog X.w).is v.1 r.1 = true ∧ v.2 = r.2) vs m := by
    intro l
    induction l with
    | nil =>
      intro m r
      rw [List.map_nil] at r
      cases r
      exact ⟨[], .nil, .nil⟩
    | cons p l ih =>
      intro m r
      rw [List.map_cons] at r
      cases r with
      | @cons a b as bs h t =>
        obtain ⟨vs, q1, q2⟩ := ih t
        exact ⟨(p.1, b.2) :: vs, .cons ⟨rfl, h.2⟩ q1, .cons ⟨kV_is h.1, rfl⟩ q2⟩
  obtain ⟨vs, kv, kr⟩ := kx r1
  have hlen : rs.length = vs.length := (Paired.length kr).symm
  have hlk : kvs.length = vs.length := kv.length
  have htl : ts.length = rs.length := Paired.length r2
  have hts : ts.length ≤ sizeLine := by simpa using z
  refine call_dict_pairs (knd := mixKind X.prog X.w) (kvs := vs) (PairArg.tuple a (ts.map Value.ref).toArray (fun j => ts.getD j 0) rs) (I.ok.hd hc) ⟨⟨_, n, hg, pt1, pt2, hd'⟩, pi⟩ ⟨by rw [hlen], fun i key x e => ?_⟩ (by omega) fun h' tk dd' kp => ?_
  · obtain ⟨v, hv, h1, h2⟩ := paired_getL kr e
    refine ⟨v.1, ?_, h1⟩
    rw [hv]
    exact congrArg some (Prod.ext rfl h2)
  · have hz : (mergeK [] kvs).length ≤ sizeLine := by
      have := length_mergeK kvs []
      simp at this
      omega
    have hf := I.hok.fresh (Nat.le_refl s.heap.objs.size)
    exact ⟨.ref s.heap.objs.size, _, I.laid (a := s.heap.objs.size) (o := .dK (mergeK [] kvs)) (t' := tk) (fun b q hq => kp b q (by simp) hq) (Nat.le_refl _) (dk_new hz (size_sys I) (kv.merge .nil) dd'), rfl, q _ hf⟩
end

/-! ### list(d), list(d.items()) of a dict of one pair -/
theorem vals_by : ∀ {xs : List V} {us : List Value}, us.length = xs.length → (∀ (i : Nat) (x : V), xs[i]? = some x → ∃ u, us[i]? = some u ∧ RelV x u) → Vals xs us
  | [], [], _, _ => .nil
  | [], _ :: _, h, _ => by simp at h
  | _ :: _, [], h, _ => by simp at h
  | x :: xs, u :: us, h, f => by
    obtain ⟨u', e, r⟩ := f 0 x rfl
    have e' : u = u' := Option.some.inj e
    subst e'
    exact .cons r (vals_by (Nat.succ.inj h) fun i y hy => f (i + 1) y hy)
section
variable {X : Cx} {e : Expr} {te : TE} {p apos cpos pos : Pos}
/-- list(d) -/
def rListL (P : Program) (w : World) : List V → Hp → VK → Prop := fun xs H Q => ∃ a kvs, xs = [.ref a] ∧ LD P w H a kvs ∧ ∀ q, H q = none → Q (.ref q) (upd H q (.lst (kvs.map fun p => leafV p.1)))
theorem call_listL {P : Program} {w : World} (hc : X.calm = true) (hP : X.prog = P := by rfl) (hw : X.w = w := by rfl) : CallR X (.type "list") (rListL P w) := by
  subst hP hw
  intro pins s σ H xs us Q I r h
  obtain ⟨a, kvs, rfl, g, q⟩ := h
  obtain ⟨u, rfl, ru⟩ := vals1 r
  cases ru
  obtain ⟨o, h1, h4, a1, es, ep, a2, hsz, hk⟩ := g.keysO
  have hg := exo_get I.hok h1
  have hn : es.size ≤ sizeLine := by
    rw [hsz, List.length_map]
    exact g.len
  refine PySem.W.kdl_call (KdlSrc.rawDict (es := es) (ep := ep) h4) (I.ok.hd hc) ⟨o, hg, a1, a2⟩ hn fun h' tk acc c kp hS hacc => ?_
  have hf := I.hok.fresh (Nat.le_refl s.heap.objs.size)
  have hlen : acc.toList.length = (kvs.map fun p => leafV p.1).length := by
    have := hacc.1
    simp only [Array.length_toList]
    omega
  have rv : Vals (kvs.map fun p => leafV p.1) acc.toList := vals_by hlen fun i x hx => by
    obtain ⟨en, hen, re⟩ := hk i x hx
    have hi : i < acc.size := by
      have := (List.getElem?_eq_some_iff.mp hx).1
      have h2 := hacc.1
      omega
    obtain ⟨hj, e⟩ := hacc.2 i acc[i] (by simp [hi])
    refine ⟨acc[i], by simp [hi], ?_⟩
    rw [e]
    have e2 : es[i] = en := by
      rw [Array.getElem?_eq_getElem hj] at hen
      exact Option.some.inj hen
    rw [e2]
    exact re
  refine ⟨.ref s.heap.objs.size, _, I.laid (a := s.heap.objs.size) (o := .lst (kvs.map fun p => leafV p.1)) (t' := tk) kp (Nat.le_refl _) ⟨by rw [List.length_map]; exact g.len, acc.toList, c, rv, ?_⟩, rfl, q _ hf⟩
  rw [Array.toArray_toList]
  exact hS
/-- list(d.items()), d of one pair: a list of one new tuple -/
def tListItems1 (P : Program) (w : World) (te : TE) : TE := fun σ H Q => te σ H fun x H1 => ∃ (d : Addr) (k : Leaf) (v : V), x = .ref d ∧ LD P w H1 d [(k, v)] ∧
  ∀ q t, H1 q = none → H1 t = none → t ≠ q → Q (.ref q) (upd (upd H1 q (.lst [.ref t])) t (.tup [leafV k, v]))
theorem pe_listItems1 {P : Program} {w : World} (hc : X.calm = true) (he : PE X e te) (hg : Gl X "list") (hm : X.mg "list" = none) (hv : bootBuiltins "list" = some (.type "list")) (hbase : attributeBase e "items" X.env (eval e X.env) = eval e X.env := by rfl) (hline : (apos.endLine == cpos.line) = true := by rfl)
    (hs : starEach [.Call (.Attribute e "items" apos) [] [] cpos] X.env = (false, eval (.Call (.Attribute e "items" apos) [] [] cpos) X.env) :: starEach [] X.env := by rfl) (hP : X.prog = P := by rfl) (hw : X.w = w := by rfl) :
    PE X (.Call (.Name "list" p) [.Call (.Attribute e "items" apos) [] [] cpos] [] pos) (tListItems1 P w te) := by
  subst hP hw
  refine ⟨fun pins s σ H Q I hq => ?_⟩
  refine wpAny_Call_Name_kw (ld_blt I hg hm hv ?_)
  refine PyProof.Rows.callWith_type1 ?_ hs rfl
  rw [hs]
  show wpAny _ _ (spliced ((false, eval (.Call (.Attribute e "items" apos) [] [] cpos) X.env) :: backTo pos (starEach [] X.env))) _ _ s
  refine Calls.spliced_cons ?_
  refine wpAny_Call_method (T := "dict") (id := "dict.items") hbase rfl hline F.plainAttrs_dict F.slot_dict_items F.type_dict_items (thn (he.run pins s σ H _ I hq) fun u s1 ⟨x, H1, I1, rx, d, k, v, ex, g, q⟩ => ?_)
  subst ex
  obtain rfl : u = Value.ref d := rx
  obtain ⟨vs, kv, hdo, hs0, hz⟩ := g.of I1.hok
  obtain ⟨ep, hat⟩ := hdo.dictAt
  have lk : [(k, v)].length = vs.length := Paired.length kv
  have I2 : Inv X pins σ H1 { s1 with heap := s1.heap.push { cls := .type "dict_items", data := .fields #[.ref d] } } := I1.kept (t' := s1.toks) fun b ob q => Heap.get?_push_of_some _ q
  refine ⟨hdo.typeIs, hdo.mapOf.noDict, ?_⟩
  show wpAny _ _ (callWith cpos (.builtin "dict.items") [.ref d] [] []) _ X.xe s1
  refine method_meetsIn F.slot_dict_items F.entry_dict_items rfl (PySem.evalArgs_none ⟨rfl, hdo.typeIs, F.args_dict_items_1 _, _, meets_dict_items (leafK X.prog X.w) d hs0, ⟨vs, hdo⟩, ?_⟩)
  refine Calls.spliced_nil ?_
  refine PySem.W.kdx_call (knd := leafK X.prog X.w) (kvs := vs) (ep := ep) (I1.ok.hd hc) ⟨_, Heap.get?_push_size _ rfl, rfl, rfl⟩ (hat.push _) (by omega) fun h' tk acc c as hk hS hl hG hacc => ?_
  -- one tuple
  match as, hl with
  | [], hl => simp at hl lk; omega
  | _ :: _ :: _, hl => simp at hl lk; omega
  | [t], hl =>
    obtain ⟨key, kk, x, f1, f2, f3⟩ := hG.pairs 0 t rfl
    obtain ⟨u, hu, ru⟩ := kv_get kv (i := 0) (k := k) (v := v) rfl
    rw [hu] at f1
    cases f1
    have rk : RelV (leafV k) key := leafIs_shape f2
    have es2 : (s1.heap.push { cls := .type "dict_items", data := .fields #[.ref d] }).objs.size = s1.heap.objs.size + 1 := by simp
    have ht : s1.heap.objs.size + 1 < t := by
      have := hG.above t (by simp)
      rw [← es2]
      exact this
    have n1 : H1 (s1.heap.objs.size + 1) = none := I1.hok.fresh (by show s1.heap.objs.size ≤ s1.heap.objs.size + 1; omega)
    have n2 : H1 t = none := I1.hok.fresh (by show s1.heap.objs.size ≤ t; exact Nat.le_of_lt (Nat.lt_of_succ_lt ht))
    have hS' : h'.get? (s1.heap.objs.size + 1) = some { cls := .type "list", dict := none, data := .seq acc c, slots := #[] } := by
      rw [← es2]
      exact hS
    generalize hq0 : s1.heap.objs.size + 1 = q0 at *
    have tq : t ≠ q0 := Nat.ne_of_gt ht
    have ea : acc = ([Value.ref t] : List Value).toArray := by
      rw [← Array.toArray_toList (xs := acc), hacc]
      rfl
    have n3 : upd H1 q0 (.lst [.ref t]) t = none := by
      rw [upd_ne tq]
      exact n2
    have kp : ∀ b w', H1 b = some w' → upd (upd H1 q0 (.lst [.ref t])) t (.tup [leafV k, v]) b = some w' := fun b w' e => by
      rw [upd_ne (ne_of_none e n2), upd_ne (ne_of_none e n1)]
      exact e
    have low : ∀ b ob, (s1.heap.push { cls := .type "dict_items", data := .fields #[.ref d] }).get? b = some ob → b ≠ t ∧ b ≠ q0 := fun b ob e => by
      have lt := Heap.lt_size e
      rw [es2] at lt
      exact ⟨Nat.ne_of_lt (Nat.lt_trans lt ht), Nat.ne_of_lt lt⟩
    rw [es2]
    refine ⟨.ref q0, upd (upd H1 q0 (.lst [.ref t])) t (.tup [leafV k, v]), ?_, rfl, q q0 t n1 n2 tq⟩
    refine I2.call' (ch := []) rfl ⟨fun b ob q _ _ _ => hk b ob q, fun b ob q _ _ _ => ⟨ob.slots, hk b ob q⟩, fun b ob q n _ => ?_, fun b ob q _ => ⟨ob, hk b ob q⟩, fun b xs q => kp b _ q, fun b ob w' q => kp b _ q, fun b ps q => ⟨#[], by rw [kp b _ q]; simp⟩⟩ (fun b w' q => ?_) I2.bare fun b z => by simp at z
    · obtain ⟨z1, z2⟩ := low b ob q
      rw [upd_ne z1, upd_ne z2]
      exact n
    · by_cases hb : b = t
      · subst hb
        rw [upd_same] at q
        cases q
        exact ⟨by show 2 ≤ sizeLine; decide, [key, x], .cons rk (.cons ru .nil), ⟨_, f3, rfl, _, rfl⟩⟩
      · rw [upd_ne hb] at q
        by_cases hb2 : b = q0
        · subst hb2
          rw [upd_same] at q
          cases q
          refine ⟨by show 1 ≤ sizeLine; decide, [.ref t], c, .cons rfl .nil, ?_⟩
          rw [← ea]
          exact hS'
        · rw [upd_ne hb2] at q
          exact (I2.hok b w' q).stay (fun d v _ y => hk d v y) (fun d y => kp d _ y) fun d xs y => kp d _ y
end

/-! ### the keys walked, as a Walk -/
theorem walk_X {d : Addr} {o : Obj} {us : List V} : Walk (ItX d o us) us.length (fun H => H d = some (exo d o)) (YAt us) :=
  ⟨fun i H hi h => ⟨h, hi⟩, fun H h => ⟨h, Nat.le_refl _⟩, fun i H x H' _ _ y => y⟩
end R60

set_option Elab.async false
set_option linter.all false
set_option maxRecDepth 100000
set_option maxHeartbeats 1000000
/-! Defs that run where no repr is under way. -/
namespace R60
open PySem PySem.Spec PyProof.Rows L2

/-- as FnOk, where no guard is on the stack -/
structure FnG (P : Program) (w : World) (K : PySem.W.Frag) (mg : Str → Option Value) (base : Heap) (k : Nat) (f : Addr) (fd : FuncData) (ps : List Str) (sp : Sp) : Prop where
  len : ∀ vs H Q E, sp vs H Q E → vs.length = ps.length
  run : ∀ (A : Around) (outer : List Env) (s : Shared) (H : Hp) (args : Args) (us : List Value) (vs : List V) (Q : VK) (E : XK), A.guards = some [] → Room k A → Env0 P w K mg base A outer s H → BindsTo s fd args (ps.zip us) → Vals vs us → sp vs H Q E →
    codeAny (model P w) A (.call (.ref f) args) (CR CX0 outer P w H s Q E) s
section
variable {P : Program} {w : World} {K : PySem.W.Frag} {mg : Str → Option Value} {base : Heap}
theorem okG {x qual : Str} {st : Stmt} {f : Addr} {fd : FuncData} {N ps : List Str} {k : Nat} {sp : Sp} (F : Fun K x qual st f fd) (S : FnScope N ps (defScope st)) (len : ∀ vs H Q E, sp vs H Q E → vs.length = ps.length)
    (hbody : ∀ (cdv : Value) (A : Around) (outer : List Env) (s : Shared) (H : Hp) (vs : List V) (Q : VK) (E : XK), A.guards = some [] → Room k (A.deeper (envOfC qual (defScope st) s.heap.objs.size f cdv)) → sp vs H Q E →
      ∃ t, PSs (cxOf CX0 P w K mg base N qual (defScope st) f cdv A outer s H E).nox (defBody st) t ∧ t { nx := fun _ H' => Q .non H', rt := Q } (start N vs) H) : FnG P w K mg base (k + 1) f fd ps sp := by
  obtain ⟨oc, od, kV, doc, pm, an, cdv, ct, osl, rfl, lk, hcd⟩ := F.ex
  refine ⟨len, fun A outer s H args us vs Q E hg hr e0 hb r hsp => ?_⟩
  have hl := len _ _ _ _ hsp
  have stays : ∀ b o, base.get? b = some o → s.heap.get? b = some o := fun b o e => (e0.bs b o e).1
  have KX : K.In s.heap := e0.mod.kin.keeps stays
  have lim : s.heap.NoLimit := e0.mod.nolimit.keeps stays
  refine codeAny_call_function hr.depth (KX _ _ lk) rfl S.co S.gen rfl (PySem.W.codeRec_of KX hcd) (hb _ _ _ _ ?_)
  refine wpAny_newFunctionEnv_cells S.kind (fun y hy => ?_) fun env he s1 x => ?_
  · obtain ⟨n, v⟩ := y
    rcases S.par n (List.of_mem_zip hy).1 with q | q
    · exact .inl q
    · exact .inr ⟨q, PySem.W.cellsFrom_some _ _ _ (.inl q)⟩
  subst he
  refine ⟨lim.keeps x.toInCall.keep, codeAny_func ?_⟩
  obtain ⟨t, ht, hq⟩ := hbody cdv A outer s H vs Q E hg (hr.deeper _) hsp
  have I := inv_start (CX := CX0) (E := E) S hr.hd e0 hl r x
  refine wpAny_mono (ht.nox.run [] s1 (start N vs) H _ I hq) (fun fl s' hs => ?_) fun e s' hs => hs
  cases fl with
  | ret u =>
    obtain ⟨v, σ', H', J, rv, q⟩ := hs
    exact ⟨v, H', J.os, J.bare, J.base, J.hok, rv, q⟩
  | next =>
    obtain ⟨σ', H', J, q⟩ := hs
    exact ⟨V.non, H', J.os, J.bare, J.base, J.hok, rfl, q⟩
  | brk =>
    obtain ⟨_, _, _, q⟩ := hs
    exact False.elim q
  | cont =>
    obtain ⟨_, _, _, q⟩ := hs
    exact False.elim q
end
section
variable {X : Cx} {k : Nat} {f : Addr} {fd : FuncData} {ps : List Str} {sp : Sp} {x : Str} {p pos : Pos} {e : Expr} {es : List Expr} {t : TA}
/-- f(e, ..) -/
theorem pe_callG (F : FnG X.prog X.w X.K X.mg X.base k f fd ps sp) (hgd : X.A.guards = some []) (hr : Room k X.A) (hg : Gl X x) (hm : X.mg x = some (.ref f)) (hk : PySem.W.keepIn X.K (.ref f) = true) (hb : Binds X.K fd ps [])
    (ha : PA X (e :: es) t) (hdb : (x == ("__debug__" : Str)) = false := by decide) (he : starEach (e :: es) X.env = (false, eval e X.env) :: starEach es X.env := by rfl) (hpl : (backTo pos (starEach es X.env)).any (·.1) = false := by rfl) :
    PE X (.Call (.Name x p) (e :: es) [] pos) (tCall sp [] E0 t) := by
  refine ⟨fun pins s σ H Q I h => ?_⟩
  refine wpAny_Call_Name_kw (ld_glob I hg hm ?_ hdb)
  refine PySem.W.callWith_K (h₀ := X.base) I.ok.mod.kin hk (thn (ha.run pos pins s σ H _ I h) fun us s1 ⟨vs, H1, I1, r, q⟩ => ⟨I1.kIn, ?_⟩) he hpl
  have q : sp (vs ++ []) H1 Q E0 := q
  have hl : (us ++ []).length = ps.length := by
    have a := F.len _ _ _ _ q
    have b := r.length
    simp at a ⊢
    omega
  have r2 : Vals (vs ++ []) (us ++ []) := r.append .nil
  refine wpAny_call (codeAny_mono (F.run X.A X.stack s1 H1 ⟨us, []⟩ (us ++ []) (vs ++ []) Q E0 hgd hr I1.env0 (hb s1 us I1.kIn hl) r2 q) fun res s' hq => ?_)
  cases res with
  | error e => exact False.elim hq
  | ok fl =>
    cases fl with
    | ret u => exact I1.after hq
    | next => exact False.elim hq
    | brk => exact False.elim hq
    | cont => exact False.elim hq
end

/-! ### the end of a law row -/
theorem lawG {P : Program} {w : World} {K : PySem.W.Frag} {mg mb : Str → Option Value} {k : Nat} {fa a : Addr} {fd : FuncData} {x : Str} {sp : Sp} {s₁ : Shared} {vs : List Value} {ns : List Int}
    (KX : K.In s₁.heap) (hns : s₁.heap.Ns mainGlobals mg) (hb : s₁.heap.Ns builtinsNs mb) (hbb : ∀ x : Str, x ≠ "__name__" → mb x = bootBuiltins x) (hlim : s₁.heap.NoLimit) (hg : s₁.gens = #[])
    (ha : s₁.heap.get? a = some { cls := .type "list", data := .seq vs.toArray }) (hi : IntsAre vs ns) (hl : ns.length ≤ sizeLine) (hr : Room k callerA)
    (F : ∀ base : Heap, K.In base → base.Ns mainGlobals mg → FnG P w K mg base k fa fd [x] sp) (hbind : ∀ (s : Shared) (u : Value), BindsTo s fd ⟨[u], []⟩ [(x, u)])
    (hsp : ∀ H : Hp, Only H → SqL K H a (ns.map V.int) → sp [.ref a] H (fun v _ => v = .bl true) fun _ _ _ => False) :
    codeAny (model P w) callerA (.call (.ref fa) ⟨[.ref a], []⟩) (fun r s' => r = .ok (.ret (.bool true)) ∧ OldK s₁.heap s'.heap ∧ s'.os = s₁.os ∧ AllBare s'.gens) s₁ := by
  have rv := vals_ints hi
  have lenV := hi.length
  -- whatever is tracked: the script alone, or nothing
  have go : ∀ H : Hp, Only H → SqL K H a (ns.map V.int) → HOk P w H s₁.heap → (∀ b, H b ≠ none → b = a ∧ K.lookup a = none) →
      codeAny (model P w) callerA (.call (.ref fa) ⟨[.ref a], []⟩) (fun r s' => r = .ok (.ret (.bool true)) ∧ OldK s₁.heap s'.heap ∧ s'.os = s₁.os ∧ AllBare s'.gens) s₁ := by
    intro H hO hS hok hA
    have keepB : ∀ {b : Addr} {o : Obj}, s₁.heap.get? b = some o → b ≠ a ∨ K.lookup a ≠ none → (hidT s₁.heap H).get? b = some o := fun {b o} e n => hidT_get e (by
      cases q : H b with
      | none => rfl
      | some u =>
        obtain ⟨z1, z2⟩ := hA b (by rw [q]; simp)
        rcases n with n | n
        · exact absurd z1 n
        · exact absurd z2 n)
    have nsB : ∀ {b : Addr} {m : Str → Option Value}, s₁.heap.Ns b m → (hidT s₁.heap H).Ns b m := fun {b m} ⟨o, es, ep, e, d, r⟩ => ⟨o, es, ep, keepB e (.inl (by
      rintro rfl
      rw [ha] at e
      cases e
      cases (show Data.seq vs.toArray _ = Data.dict es ep from d))), d, r⟩
    have hKb : K.In (hidT s₁.heap H) := fun b o e => keepB (KX b o e) (by
      by_cases hb : b = a
      · subst hb
        right
        rw [e]
        simp
      · exact .inl hb)
    have hM : Mod K mg (hidT s₁.heap H) := ⟨hKb, nsB hns, ⟨mb, nsB hb, hbb⟩, let ⟨mc, h1, h2⟩ := hlim; ⟨mc, nsB h1, h2⟩⟩
    have e0 : Env0 P w K mg (hidT s₁.heap H) callerA [] s₁ H := ⟨rfl, hM, fun b o e => of_hidT e, Nat.le_of_eq (hidT_size _ _), trivial, fun b hb => absurd (show b ∈ ([] : List Addr) from hb) (by simp), hok, .of_eq hg⟩
    refine codeAny_mono ((F _ hKb (nsB hns)).run callerA [] s₁ H ⟨[.ref a], []⟩ [.ref a] [.ref a] _ _ rfl hr e0 (hbind s₁ (.ref a)) (.cons rfl .nil) (hsp H hO hS)) fun r s' h => ?_
    cases r with
    | error e => exact False.elim h
    | ok fl =>
      cases fl with
      | next => exact False.elim h
      | brk => exact False.elim h
      | cont => exact False.elim h
      | ret u =>
        obtain ⟨v, H', os, bare, un, hok', r', q⟩ := h
        obtain rfl : v = .bl true := q
        obtain rfl : u = Value.bool true := r'
        refine ⟨rfl, OldK.of_keep fun b o e => ?_, os, bare⟩
        rcases hO b with z | ⟨ob, xs, z⟩
        · exact un.keep b o e z (by intro z; exact absurd (show b ∈ ([] : List Addr) from z) (by simp)) (by simp)
        · obtain ⟨e1, _⟩ := hok b _ z
          obtain ⟨e2, _⟩ := hok' b _ (un.frzs b ob _ z)
          rw [e] at e1
          cases e1
          exact e2
  cases hk : K.lookup a with
  | some o =>
    have e := KX a o hk
    rw [ha] at e
    cases e
    refine go (fun _ => none) (fun _ => .inl rfl) (.inr ⟨_, vs.toArray, _, hk, rfl, rfl, rfl, by rw [List.size_toArray, lenV]; exact hl, by simpa using rv⟩) (fun b u z => by cases (show (none : Option HO) = some u from z)) (fun b z => absurd rfl z)
  | none =>
    have off : ∀ b, b ≠ a → (fun b => if b = a then some (HO.frz { cls := .type "list", data := .seq vs.toArray } (.lst (ns.map V.int))) else none : Hp) b = none := fun b h => if_neg h
    refine go (fun b => if b = a then some (.frz { cls := .type "list", data := .seq vs.toArray } (.lst (ns.map V.int))) else none) (fun b => ?_) (.inl (.inr ⟨{ cls := .type "list", data := .seq vs.toArray }, if_pos rfl⟩)) (fun b u z => ?_) (fun b z => ?_)
    · by_cases hb : b = a
      · exact .inr ⟨_, _, if_pos hb⟩
      · exact .inl (if_neg hb)
    · by_cases hb : b = a
      · subst hb
        cases (if_pos rfl).symm.trans z
        exact ⟨ha, by rw [List.length_map]; exact hl, vs, _, rv, ha⟩
      · rw [off b hb] at z
        cases z
    · by_cases hb : b = a
      · exact ⟨hb, hk⟩
      · exact absurd (off b hb) z
theorem walkG {l : PySem.W.OpenLaw} {n k : Nat} {q : Program} {loose : List Str} {XP : (Str → Option Value) → Heap → Prop} {YP : World → Heap → Prop} {d : DefRec} {K : Params → PySem.W.Frag} {sp : World → Sp} {x : Str}
    (hn : l.most = some n) (hn2 : n ≤ sizeLine) (hdf : d.params.defaults = []) (hr : Room k callerA) (hY : ∀ (w : World) (h : Heap), YP w h → (K w.params).In h)
    (F : ∀ (w : World) (mg : Str → Option Value) (fa : Addr) (h : Heap), (K w.params).In h → h.Ns mainGlobals mg → mg d.name = some (.ref fa) →
      ∃ fd : FuncData, (∀ (s : Shared) (u : Value), BindsTo s fd ⟨[u], []⟩ [(x, u)]) ∧ ∀ base : Heap, (K w.params).In base → base.Ns mainGlobals mg → FnG l.prog w (K w.params) mg base k fa fd [x] (sp w))
    (hsp : ∀ (w : World) (H : Hp) (a : Addr) (ns : List Int), ns.length ≤ n → Only H → SqL (K w.params) H a (ns.map V.int) → sp w [.ref a] H (fun v _ => v = .bl true) fun _ _ _ => False) :
    PySem.W.WalkO q loose XP YP l.row.toRowW d [] (fun f vs => PySem.call f vs) := by
  refine Att.attach_call hn hdf fun w s₀ s₁ mg mb fa o pm cd doc a vs ns G Y ho hd hcd hmg hobj hints hlen hg => ?_
  have KX := hY w _ Y
  obtain ⟨fd, hb, hF⟩ := F w mg fa _ KX G.T.g hmg
  exact lawG KX G.T.g G.T.b G.T.builtins G.T.nolimit hg hobj hints (Nat.le_trans hlen hn2) hr hF hb fun H hO hS => hsp w H a ns hlen hO hS
end R60

set_option Elab.async false
set_option linter.all false
set_option maxRecDepth 100000
/-! The mathematics: linears, atoms, trees. No program in sight. -/
namespace M60
open PySem

abbrev Lin := Int × List (Int × Int)

/-! ### tables of ints -/
def look (l : List (Int × Int)) (a : Int) : Int := match l with
  | [] => 0
  | p :: r => if p.1 = a then p.2 else look r a
theorem look_nil (a : Int) : look [] a = 0 := rfl
theorem look_pos {p : Int × Int} {r : List (Int × Int)} {a : Int} (h : p.1 = a) : look (p :: r) a = p.2 := by simp [look, h]
theorem look_neg {p : Int × Int} {r : List (Int × Int)} {a : Int} (h : ¬ p.1 = a) : look (p :: r) a = look r a := by simp [look, h]
theorem look_not {l : List (Int × Int)} {a : Int} (h : a ∉ l.map (·.1)) : look l a = 0 := by
  induction l with
  | nil => rfl
  | cons p r ih =>
    rw [List.map_cons, List.mem_cons, not_or] at h
    rw [look_neg (fun e => h.1 e.symm), ih h.2]
theorem look_mem {l : List (Int × Int)} (hn : (l.map (·.1)).Nodup) {p : Int × Int} (h : p ∈ l) : look l p.1 = p.2 := by
  induction l with
  | nil => cases h
  | cons q r ih =>
    rw [List.map_cons, List.nodup_cons] at hn
    rcases List.mem_cons.mp h with e | h
    · rw [e]; exact look_pos rfl
    · rw [look_neg (fun e => hn.1 (by rw [e]; exact List.mem_map.mpr ⟨p, h, rfl⟩)), ih hn.2 h]
theorem look_perm {l m : List (Int × Int)} (h : l.Perm m) (hn : (l.map (·.1)).Nodup) (a : Int) : look l a = look m a := by
  have hm : (m.map (·.1)).Nodup := (h.map _).nodup_iff.mp hn
  by_cases q : a ∈ l.map (·.1)
  · obtain ⟨p, hp, e⟩ := List.mem_map.mp q
    subst e
    rw [look_mem hn hp, look_mem hm (h.mem_iff.mp hp)]
  · rw [look_not q, look_not (fun z => q ((h.map _).mem_iff.mpr z))]
theorem look_filter {l : List (Int × Int)} (a : Int) (hn : (l.map (·.1)).Nodup) : look (l.filter fun p => decide (p.2 ≠ 0)) a = look l a := by
  induction l with
  | nil => rfl
  | cons p r ih =>
    rw [List.map_cons, List.nodup_cons] at hn
    by_cases z : p.2 = 0
    · rw [List.filter_cons_of_neg (by simp [z]), ih hn.2]
      by_cases e : p.1 = a
      · rw [look_pos e, z, look_not (by rw [← e]; exact hn.1)]
      · rw [look_neg e]
    · rw [List.filter_cons_of_pos (by simp [z])]
      by_cases e : p.1 = a
      · rw [look_pos e, look_pos e]
      · rw [look_neg e, look_neg e, ih hn.2]
theorem look_append {l m : List (Int × Int)} (a : Int) : look (l ++ m) a = if a ∈ l.map (·.1) then look l a else look m a := by
  induction l with
  | nil => simp
  | cons p r ih =>
    rw [List.cons_append]
    by_cases e : p.1 = a
    · rw [look_pos e, look_pos e, if_pos (by rw [List.map_cons, e]; exact List.mem_cons_self)]
    · rw [look_neg e, look_neg e, ih]
      have e' : ¬ a = p.1 := fun z => e z.symm
      by_cases q : a ∈ r.map (·.1)
      · rw [if_pos q, if_pos (by rw [List.map_cons]; exact List.mem_cons_of_mem _ q)]
      · rw [if_neg q, if_neg (by rw [List.map_cons, List.mem_cons, not_or]; exact ⟨e', q⟩)]
theorem look_neg_map (l : List (Int × Int)) (f : Int) (a : Int) : look (l.map fun p => (p.1, p.2 * f)) a = look l a * f := by
  induction l with
  | nil => simp [look]
  | cons p r ih =>
    rw [List.map_cons]
    by_cases e : p.1 = a
    · rw [look_pos (p := (p.1, p.2 * f)) e, look_pos e]
    · rw [look_neg (p := (p.1, p.2 * f)) e, look_neg e, ih]

/-- ascending, no zero -/
def IsLin (l : List (Int × Int)) : Prop := l.Pairwise (fun p q => p.1 < q.1) ∧ ∀ p ∈ l, p.2 ≠ 0
theorem IsLin.nil : IsLin [] := ⟨.nil, fun _ h => nomatch h⟩
theorem IsLin.one (a : Int) {v : Int} (h : v ≠ 0) : IsLin [(a, v)] := ⟨List.pairwise_singleton _ _, fun p hp => by rw [List.mem_singleton.mp hp]; exact h⟩
theorem IsLin.tail {p : Int × Int} {l : List (Int × Int)} (h : IsLin (p :: l)) : IsLin l := ⟨(List.pairwise_cons.mp h.1).2, fun q hq => h.2 q (List.mem_cons_of_mem _ hq)⟩
theorem IsLin.head {p : Int × Int} {l : List (Int × Int)} (h : IsLin (p :: l)) : ∀ q ∈ l, p.1 < q.1 := (List.pairwise_cons.mp h.1).1
theorem IsLin.nodup {l : List (Int × Int)} (h : IsLin l) : (l.map (·.1)).Nodup := by
  induction l with
  | nil => exact List.nodup_nil
  | cons p r ih =>
    rw [List.map_cons, List.nodup_cons]
    refine ⟨fun m => ?_, ih h.tail⟩
    obtain ⟨q, hq, e⟩ := List.mem_map.mp m
    have := h.head q hq
    omega
theorem look_below {p : Int × Int} {l : List (Int × Int)} (h : ∀ q ∈ l, p.1 < q.1) {a : Int} (ha : a ≤ p.1) : look l a = 0 := look_not fun m => by
  obtain ⟨q, hq, e⟩ := List.mem_map.mp m
  have := h q hq
  omega
/-- one canonical list a function -/
theorem IsLin.uniq : ∀ {l m : List (Int × Int)}, IsLin l → IsLin m → (∀ a, look l a = look m a) → l = m
  | [], [], _, _, _ => rfl
  | [], q :: m, _, hm, h => by
    have e := h q.1
    rw [look_nil, look_pos rfl] at e
    exact absurd e.symm (hm.2 q List.mem_cons_self)
  | p :: l, [], hl, _, h => by
    have e := h p.1
    rw [look_nil, look_pos rfl] at e
    exact absurd e (hl.2 p List.mem_cons_self)
  | p :: l, q :: m, hl, hm, h => by
    have hp := h p.1
    have hq := h q.1
    rw [look_pos rfl] at hp
    rw [look_pos (p := q) rfl] at hq
    have e1 : p.1 = q.1 := by
      rcases Int.lt_trichotomy p.1 q.1 with c | c | c
      · rw [look_neg (by omega), look_below hm.head (by omega)] at hp
        exact absurd hp (hl.2 p List.mem_cons_self)
      · exact c
      · rw [look_neg (by omega), look_below hl.head (by omega)] at hq
        exact absurd hq.symm (hm.2 q List.mem_cons_self)
    rw [look_pos e1.symm] at hp
    have e2 : p = q := Prod.ext e1 hp
    subst e2
    rw [IsLin.uniq hl.tail hm.tail fun a => ?_]
    have ha := h a
    by_cases e : p.1 = a
    · subst e
      rw [look_below hl.head (Int.le_refl _), look_below hm.head (Int.le_refl _)]
    · rw [look_neg e, look_neg e] at ha
      exact ha

/-! ### canonical sums -/
/-- v added at a -/
def ins (a v : Int) : List (Int × Int) → List (Int × Int)
  | [] => if v = 0 then [] else [(a, v)]
  | p :: r => if a < p.1 then (if v = 0 then p :: r else (a, v) :: p :: r) else if a = p.1 then (if p.2 + v = 0 then r else (a, p.2 + v) :: r) else p :: ins a v r
theorem ins_low {a v b : Int} : ∀ {l : List (Int × Int)}, b < a → (∀ q ∈ l, b < q.1) → ∀ q ∈ ins a v l, b < q.1
  | [], h, _, q, hq => by
    unfold ins at hq
    split at hq
    · cases hq
    · rw [List.mem_singleton.mp hq]; exact h
  | p :: r, h, hl, q, hq => by
    have hp := hl p List.mem_cons_self
    have hr : ∀ q ∈ r, b < q.1 := fun q hq => hl q (List.mem_cons_of_mem _ hq)
    unfold ins at hq
    split at hq
    · split at hq
      · exact hl q hq
      · rcases List.mem_cons.mp hq with e | hq
        · rw [e]; exact h
        · exact hl q hq
    · split at hq
      · split at hq
        · exact hr q hq
        · rcases List.mem_cons.mp hq with e | hq
          · rw [e]; exact h
          · exact hr q hq
      · rcases List.mem_cons.mp hq with e | hq
        · rw [e]; exact hp
        · exact ins_low h hr q hq
theorem ins_lin {a v : Int} : ∀ {l : List (Int × Int)}, IsLin l → IsLin (ins a v l)
  | [], _ => by
    unfold ins
    split
    · exact .nil
    · exact .one a (by assumption)
  | p :: r, h => by
    unfold ins
    split
    · split
      · exact h
      · rename_i c z
        refine ⟨List.pairwise_cons.mpr ⟨fun q hq => ?_, h.1⟩, fun q hq => ?_⟩
        · rcases List.mem_cons.mp hq with e | hq
          · rw [e]; exact c
          · have := h.head q hq
            show a < q.1
            omega
        · rcases List.mem_cons.mp hq with e | hq
          · rw [e]; exact z
          · exact h.2 q hq
    · split
      · split
        · exact h.tail
        · rename_i c e z
          refine ⟨List.pairwise_cons.mpr ⟨fun q hq => ?_, h.tail.1⟩, fun q hq => ?_⟩
          · have := h.head q hq
            show a < q.1
            omega
          · rcases List.mem_cons.mp hq with e | hq
            · rw [e]; exact z
            · exact h.2 q (List.mem_cons_of_mem _ hq)
      · rename_i c e
        refine ⟨List.pairwise_cons.mpr ⟨ins_low (by omega) h.head, (ins_lin h.tail).1⟩, fun q hq => ?_⟩
        rcases List.mem_cons.mp hq with e | hq
        · rw [e]; exact h.2 p List.mem_cons_self
        · exact (ins_lin h.tail).2 q hq
theorem look_ins {a v : Int} (b : Int) : ∀ {l : List (Int × Int)}, IsLin l → look (ins a v l) b = look l b + if b = a then v else 0
  | [], _ => by
    unfold ins
    by_cases z : v = 0
    · rw [if_pos z, z]; simp [look]
    · rw [if_neg z]
      by_cases e : b = a
      · rw [look_pos e.symm, if_pos e, look_nil]; omega
      · rw [look_neg (fun x => e x.symm), if_neg e]; simp [look]
  | p :: r, h => by
    unfold ins
    by_cases c : a < p.1
    · rw [if_pos c]
      have e0 : look (p :: r) a = 0 := by
        rw [look_neg (by omega)]
        exact look_below h.head (by omega)
      by_cases z : v = 0
      · rw [if_pos z, z]
        split <;> omega
      · rw [if_neg z]
        by_cases e : b = a
        · rw [look_pos e.symm, if_pos e, e, e0]; omega
        · rw [look_neg (fun x => e x.symm), if_neg e]; omega
    · rw [if_neg c]
      by_cases e1 : a = p.1
      · rw [if_pos e1]
        have e0 : look r a = 0 := look_below h.head (by omega)
        by_cases z : p.2 + v = 0
        · rw [if_pos z]
          by_cases e : b = a
          · rw [e, e0, look_pos e1.symm, if_pos rfl]; omega
          · rw [look_neg (by omega), if_neg e]; omega
        · rw [if_neg z]
          by_cases e : b = a
          · rw [look_pos e.symm, e, look_pos e1.symm, if_pos rfl]
          · rw [look_neg (by show ¬ a = b; omega), look_neg (by omega), if_neg e]; omega
      · rw [if_neg e1]
        by_cases e : p.1 = b
        · rw [look_pos e, look_pos e, if_neg (by omega)]; omega
        · rw [look_neg e, look_neg e, look_ins b h.tail]
def addL (l m : List (Int × Int)) : List (Int × Int) := l.foldr (fun p acc => ins p.1 p.2 acc) m
theorem addL_lin : ∀ {l m : List (Int × Int)}, IsLin m → IsLin (addL l m)
  | [], m, h => h
  | p :: l, m, h => ins_lin (addL_lin (l := l) h)
theorem look_addL (a : Int) : ∀ {l m : List (Int × Int)}, IsLin l → IsLin m → look (addL l m) a = look l a + look m a
  | [], m, _, h => by show look m a = 0 + look m a; omega
  | p :: l, m, hl, h => by
    show look (ins p.1 p.2 (addL l m)) a = _
    rw [look_ins a (addL_lin h), look_addL a hl.tail h]
    by_cases e : p.1 = a
    · rw [look_pos e, if_pos e.symm, ← e, look_below hl.head (Int.le_refl _)]; omega
    · rw [look_neg e, if_neg (fun x => e x.symm)]; omega
def negL (l : List (Int × Int)) : List (Int × Int) := l.map fun p => (p.1, p.2 * -1)
theorem negL_lin {l : List (Int × Int)} (h : IsLin l) : IsLin (negL l) := by
  refine ⟨List.pairwise_map.mpr (h.1.imp fun x => x), fun q hq => ?_⟩
  obtain ⟨p, hp, e⟩ := List.mem_map.mp hq
  have := h.2 p hp
  rw [← e]
  show p.2 * -1 ≠ 0
  omega
theorem look_negL (l : List (Int × Int)) (a : Int) : look (negL l) a = - look l a := by
  unfold negL
  rw [look_neg_map]
  omega

/-! ### atoms and trees -/
inductive Atom where
  | letter (k : Int)
  | op (o : Str) (Ls : List Lin)
  deriving DecidableEq
def Atom.unit (i : Nat) : Lin := (0, [((i : Int), 1)])
inductive Tree where
  | letter (k : Int)
  | op (o : Str) (ps : List Tree)
/-- a real operation on linears -/
def real (o : Str) (Ls : List Lin) : Option Lin :=
  if o = "add" then (match Ls with | [a, b] => some (a.1 + b.1, addL a.2 b.2) | _ => none)
  else if o = "sub" then (match Ls with | [a, b] => some (a.1 - b.1, addL a.2 (negL b.2)) | _ => none)
  else if o = "neg" then (match Ls with | [a] => some (-a.1, negL a.2) | _ => none)
  else if o = "7" then (match Ls with | [] => some (7, []) | _ => none)
  else if o = "0" then (match Ls with | [] => some (0, []) | _ => none)
  else none
/-- the place of an atom in a table -/
def pos : List Atom → Atom → Option Nat
  | [], _ => none
  | b :: T, a => if b = a then some 0 else (pos T a).map (· + 1)
theorem pos_at : ∀ {T : List Atom} {a : Atom} {i : Nat}, pos T a = some i → T[i]? = some a
  | [], _, _, h => by cases h
  | b :: T, a, i, h => by
    unfold pos at h
    split at h
    · cases h; rename_i e; rw [e]; rfl
    · obtain ⟨j, hj, e⟩ := Option.map_eq_some_iff.mp h
      subst e
      exact pos_at (T := T) hj
theorem pos_none : ∀ {T : List Atom} {a : Atom}, pos T a = none ↔ a ∉ T
  | [], _ => by simp [pos]
  | b :: T, a => by
    unfold pos
    by_cases e : b = a
    · rw [if_pos e]; simp [e]
    · rw [if_neg e, Option.map_eq_none_iff, pos_none (T := T)]
      have e' : ¬ a = b := fun z => e z.symm
      simp [e']
theorem pos_append {M : List Atom} : ∀ {T : List Atom} {a : Atom} {i : Nat}, pos T a = some i → pos (T ++ M) a = some i
  | [], _, _, h => by cases h
  | b :: T, a, i, h => by
    rw [List.cons_append]
    unfold pos at h ⊢
    split at h
    · rename_i e; rw [if_pos e]; exact h
    · rename_i e
      obtain ⟨j, hj, e2⟩ := Option.map_eq_some_iff.mp h
      rw [if_neg e, pos_append hj]
      exact congrArg some e2
theorem pos_new : ∀ {T : List Atom} {a : Atom}, a ∉ T → pos (T ++ [a]) a = some T.length
  | [], a, _ => by simp [pos]
  | b :: T, a, h => by
    rw [List.mem_cons, not_or] at h
    rw [List.cons_append]
    unfold pos
    rw [if_neg (fun e => h.1 e.symm), pos_new h.2]
    rfl
theorem pos_lt {T : List Atom} {a : Atom} {i : Nat} (h : pos T a = some i) : i < T.length := (List.getElem?_eq_some_iff.mp (pos_at h)).1
def addA (T : List Atom) (a : Atom) : List Atom := if a ∈ T then T else T ++ [a]
theorem addA_old {T : List Atom} {a : Atom} (h : a ∈ T) : addA T a = T := if_pos h
theorem addA_new {T : List Atom} {a : Atom} (h : a ∉ T) : addA T a = T ++ [a] := if_neg h
theorem addA_more (T : List Atom) (a : Atom) : ∃ M, addA T a = T ++ M := by
  by_cases h : a ∈ T
  · exact ⟨[], by rw [addA_old h]; simp⟩
  · exact ⟨[a], addA_new h⟩
theorem addA_pos (T : List Atom) (a : Atom) : ∃ i, pos (addA T a) a = some i := by
  by_cases h : a ∈ T
  · rw [addA_old h]
    cases q : pos T a with
    | none => exact absurd h (pos_none.mp q)
    | some i => exact ⟨i, rfl⟩
  · exact ⟨_, by rw [addA_new h]; exact pos_new h⟩
theorem addA_nodup {T : List Atom} {a : Atom} (h : T.Nodup) : (addA T a).Nodup := by
  by_cases q : a ∈ T
  · rw [addA_old q]; exact h
  · rw [addA_new q]
    refine List.nodup_append.mpr ⟨h, List.nodup_cons.mpr ⟨by simp, List.nodup_nil⟩, fun x hx y hy e => ?_⟩
    rw [List.mem_singleton.mp hy] at e
    exact q (e ▸ hx)
theorem addA_len (T : List Atom) (a : Atom) : (addA T a).length ≤ T.length + 1 := by
  by_cases q : a ∈ T
  · rw [addA_old q]; omega
  · rw [addA_new q]; simp

/-- of an operation on linears, in a table -/
def opLin (T : List Atom) (o : Str) (Ls : List Lin) : Option Lin := match real o Ls with
  | some L => some L
  | none => (pos T (.op o Ls)).map Atom.unit
/-- the table behind it -/
def opGrow (T : List Atom) (o : Str) (Ls : List Lin) : List Atom := match real o Ls with
  | some _ => T
  | none => addA T (.op o Ls)
mutual
/-- the linear of a tree in a table, if its atoms are there -/
def den (T : List Atom) : Tree → Option Lin
  | .letter k => (pos T (.letter k)).map Atom.unit
  | .op o ps => (denAll T ps).bind fun Ls => opLin T o Ls
def denAll (T : List Atom) : List Tree → Option (List Lin)
  | [] => some []
  | p :: ps => (den T p).bind fun L => (denAll T ps).map fun Ls => L :: Ls
end
mutual
/-- the table once a tree has been summed up -/
def grow (T : List Atom) : Tree → List Atom
  | .letter k => addA T (.letter k)
  | .op o ps => match denAll (growAll T ps) ps with
    | some Ls => opGrow (growAll T ps) o Ls
    | none => growAll T ps
def growAll (T : List Atom) : List Tree → List Atom
  | [] => T
  | p :: ps => growAll (grow T p) ps
end
theorem opLin_more {T M : List Atom} {o : Str} {Ls : List Lin} {L : Lin} (h : opLin T o Ls = some L) : opLin (T ++ M) o Ls = some L := by
  unfold opLin at h ⊢
  split at h
  · exact h
  · obtain ⟨i, hi, e⟩ := Option.map_eq_some_iff.mp h
    rw [pos_append hi]
    exact congrArg some e
mutual
theorem den_more {T M : List Atom} : ∀ {t : Tree} {L : Lin}, den T t = some L → den (T ++ M) t = some L
  | .letter k, L, h => by
    rw [den] at h ⊢
    obtain ⟨i, hi, e⟩ := Option.map_eq_some_iff.mp h
    rw [pos_append hi]
    exact congrArg some e
  | .op o ps, L, h => by
    rw [den] at h ⊢
    obtain ⟨Ls, h1, h2⟩ := Option.bind_eq_some_iff.mp h
    rw [denAll_more h1]
    exact opLin_more h2
theorem denAll_more {T M : List Atom} : ∀ {ps : List Tree} {Ls : List Lin}, denAll T ps = some Ls → denAll (T ++ M) ps = some Ls
  | [], Ls, h => h
  | p :: ps, Ls, h => by
    rw [denAll] at h ⊢
    obtain ⟨L, h1, h2⟩ := Option.bind_eq_some_iff.mp h
    obtain ⟨Ls', h3, h4⟩ := Option.map_eq_some_iff.mp h2
    rw [den_more h1, denAll_more h3]
    exact congrArg some h4
end
theorem opGrow_more (T : List Atom) (o : Str) (Ls : List Lin) : ∃ M, opGrow T o Ls = T ++ M := by
  unfold opGrow
  split
  · exact ⟨[], by simp⟩
  · exact addA_more _ _
theorem opGrow_den (T : List Atom) (o : Str) (Ls : List Lin) : ∃ L, opLin (opGrow T o Ls) o Ls = some L := by
  unfold opLin opGrow
  cases q : real o Ls with
  | some L => exact ⟨L, rfl⟩
  | none =>
    obtain ⟨i, hi⟩ := addA_pos T (.op o Ls)
    exact ⟨_, by simp only [hi]; rfl⟩
theorem opGrow_id {T : List Atom} {o : Str} {Ls : List Lin} {L : Lin} (h : opLin T o Ls = some L) : opGrow T o Ls = T := by
  unfold opLin at h
  unfold opGrow
  split at h
  · rfl
  · obtain ⟨i, hi, _⟩ := Option.map_eq_some_iff.mp h
    refine addA_old ?_
    exact List.mem_of_getElem? (pos_at hi)
theorem den_app {T T' : List Atom} {t : Tree} {L : Lin} (h : den T t = some L) (m : ∃ M, T' = T ++ M) : den T' t = some L := by
  obtain ⟨M, rfl⟩ := m
  exact den_more h
mutual
theorem grow_more : ∀ (T : List Atom) (t : Tree), ∃ M, grow T t = T ++ M
  | T, .letter k => by rw [grow]; exact addA_more _ _
  | T, .op o ps => by
    obtain ⟨M, e⟩ := growAll_more T ps
    rw [grow]
    split
    · obtain ⟨M', e'⟩ := opGrow_more (growAll T ps) o (by assumption)
      exact ⟨M ++ M', by rw [e', e, List.append_assoc]⟩
    · exact ⟨M, e⟩
theorem growAll_more : ∀ (T : List Atom) (ps : List Tree), ∃ M, growAll T ps = T ++ M
  | T, [] => ⟨[], by rw [growAll]; simp⟩
  | T, p :: ps => by
    obtain ⟨M, e⟩ := grow_more T p
    obtain ⟨M', e'⟩ := growAll_more (grow T p) ps
    exact ⟨M ++ M', by rw [growAll, e', e, List.append_assoc]⟩
end
mutual
theorem grow_den : ∀ (T : List Atom) (t : Tree), ∃ L, den (grow T t) t = some L
  | T, .letter k => by
    obtain ⟨i, hi⟩ := addA_pos T (.letter k)
    exact ⟨_, by rw [grow, den, hi]; rfl⟩
  | T, .op o ps => by
    obtain ⟨Ls, h⟩ := growAll_den T ps
    have e : grow T (.op o ps) = opGrow (growAll T ps) o Ls := by rw [grow, h]
    rw [e, den]
    obtain ⟨M, eM⟩ := opGrow_more (growAll T ps) o Ls
    obtain ⟨L, hL⟩ := opGrow_den (growAll T ps) o Ls
    refine ⟨L, ?_⟩
    have h2 : denAll (opGrow (growAll T ps) o Ls) ps = some Ls := by rw [eM]; exact denAll_more h
    rw [h2]
    exact hL
theorem growAll_den : ∀ (T : List Atom) (ps : List Tree), ∃ Ls, denAll (growAll T ps) ps = some Ls
  | T, [] => ⟨[], by rw [denAll]⟩
  | T, p :: ps => by
    obtain ⟨L, h1⟩ := grow_den T p
    obtain ⟨Ls, h2⟩ := growAll_den (grow T p) ps
    rw [growAll, denAll, den_app h1 (growAll_more _ _), h2]
    exact ⟨_, rfl⟩
end
mutual
theorem grow_id : ∀ {T : List Atom} {t : Tree} {L : Lin}, den T t = some L → grow T t = T
  | T, .letter k, L, h => by
    rw [den] at h
    obtain ⟨i, hi, _⟩ := Option.map_eq_some_iff.mp h
    rw [grow]
    exact addA_old (List.mem_of_getElem? (pos_at hi))
  | T, .op o ps, L, h => by
    rw [den] at h
    obtain ⟨Ls, h1, h2⟩ := Option.bind_eq_some_iff.mp h
    have e := growAll_id h1
    rw [grow, e, h1]
    exact opGrow_id h2
theorem growAll_id : ∀ {T : List Atom} {ps : List Tree} {Ls : List Lin}, denAll T ps = some Ls → growAll T ps = T
  | T, [], Ls, h => by rw [growAll]
  | T, p :: ps, Ls, h => by
    rw [denAll] at h
    obtain ⟨L, h1, h2⟩ := Option.bind_eq_some_iff.mp h
    obtain ⟨Ls', h3, _⟩ := Option.map_eq_some_iff.mp h2
    rw [growAll, grow_id h1]
    exact growAll_id h3
end
theorem grow_grow (T : List Atom) (t : Tree) : grow (grow T t) t = grow T t := by
  obtain ⟨L, h⟩ := grow_den T t
  exact grow_id h
/-- parts that are there need not be looked at again -/
theorem growAll_skip {T : List Atom} {q : Tree} : ∀ {ps qs : List Tree} {Ls : List Lin}, denAll T ps = some Ls → growAll T (ps ++ q :: qs) = growAll (grow T q) (ps ++ q :: qs)
  | [], qs, Ls, h => by
    show growAll T (q :: qs) = growAll (grow T q) (q :: qs)
    rw [growAll, growAll, grow_grow]
  | p :: ps, qs, Ls, h => by
    rw [denAll] at h
    obtain ⟨L, h1, h2⟩ := Option.bind_eq_some_iff.mp h
    obtain ⟨Ls', h3, _⟩ := Option.map_eq_some_iff.mp h2
    rw [List.cons_append, growAll, growAll, grow_id h1, grow_id (den_app h1 (grow_more _ _))]
    exact growAll_skip h3
theorem grow_skip {T : List Atom} {q : Tree} {o : Str} {ps qs : List Tree} {Ls : List Lin} (h : denAll T ps = some Ls) : grow T (.op o (ps ++ q :: qs)) = grow (grow T q) (.op o (ps ++ q :: qs)) := by
  rw [grow, grow, growAll_skip h]

/-! ### linears are canonical, their atoms are there -/
def LOk (n : Nat) (L : Lin) : Prop := IsLin L.2 ∧ ∀ p ∈ L.2, 0 ≤ p.1 ∧ p.1 < (n : Int)
theorem ins_keys {a v : Int} {q : Int × Int} : ∀ {l : List (Int × Int)}, q ∈ ins a v l → q.1 = a ∨ q ∈ l
  | [], hq => by
    unfold ins at hq
    split at hq
    · cases hq
    · rw [List.mem_singleton.mp hq]; exact .inl rfl
  | p :: r, hq => by
    unfold ins at hq
    split at hq
    · split at hq
      · exact .inr hq
      · rcases List.mem_cons.mp hq with e | hq
        · rw [e]; exact .inl rfl
        · exact .inr hq
    · split at hq
      · split at hq
        · exact .inr (List.mem_cons_of_mem _ hq)
        · rcases List.mem_cons.mp hq with e | hq
          · rw [e]; exact .inl rfl
          · exact .inr (List.mem_cons_of_mem _ hq)
      · rcases List.mem_cons.mp hq with e | hq
        · rw [e]; exact .inr List.mem_cons_self
        · rcases ins_keys hq with h | h
          · exact .inl h
          · exact .inr (List.mem_cons_of_mem _ h)
theorem addL_keys {q : Int × Int} : ∀ {l m : List (Int × Int)}, q ∈ addL l m → (∃ p ∈ l, q.1 = p.1) ∨ q ∈ m
  | [], m, h => .inr h
  | p :: l, m, h => by
    rcases ins_keys (show q ∈ ins p.1 p.2 (addL l m) from h) with e | h
    · exact .inl ⟨p, List.mem_cons_self, e⟩
    · rcases addL_keys h with ⟨p', hp, e⟩ | h
      · exact .inl ⟨p', List.mem_cons_of_mem _ hp, e⟩
      · exact .inr h
theorem LOk.add {n : Nat} {L M : Lin} {c : Int} (h : LOk n L) (g : LOk n M) : LOk n (c, addL L.2 M.2) := by
  refine ⟨addL_lin g.1, fun q hq => ?_⟩
  rcases addL_keys hq with ⟨p, hp, e⟩ | hq
  · rw [e]; exact h.2 p hp
  · exact g.2 q hq
theorem LOk.neg {n : Nat} {L : Lin} {c : Int} (h : LOk n L) : LOk n (c, negL L.2) := by
  refine ⟨negL_lin h.1, fun q hq => ?_⟩
  obtain ⟨p, hp, e⟩ := List.mem_map.mp hq
  rw [← e]
  exact h.2 p hp
theorem LOk.unit {n i : Nat} (h : i < n) : LOk n (Atom.unit i) := ⟨.one _ (by decide), fun p hp => by
  rw [List.mem_singleton.mp hp]
  show 0 ≤ (i : Int) ∧ (i : Int) < n
  omega⟩
theorem LOk.mono {n m : Nat} {L : Lin} (h : LOk n L) (l : n ≤ m) : LOk m L := ⟨h.1, fun p hp => by
  have := h.2 p hp
  omega⟩
theorem real_ok {n : Nat} {o : Str} {Ls : List Lin} {L : Lin} (h : ∀ M ∈ Ls, LOk n M) (e : real o Ls = some L) : LOk n L := by
  unfold real at e
  repeat' split at e
  all_goals first | (cases e; done) | skip
  all_goals (have e' := Option.some.inj e; subst e')
  · exact (h _ (by simp)).add (h _ (by simp))
  · exact (h _ (by simp)).add (L := _) (M := (0, negL _)) ((h _ (by simp)).neg)
  · exact (h _ (by simp)).neg
  · exact ⟨.nil, fun _ h => nomatch h⟩
  · exact ⟨.nil, fun _ h => nomatch h⟩
theorem opLin_ok {T : List Atom} {o : Str} {Ls : List Lin} {L : Lin} (h : ∀ M ∈ Ls, LOk T.length M) (e : opLin T o Ls = some L) : LOk T.length L := by
  unfold opLin at e
  split at e
  · cases e
    rename_i e
    exact real_ok h e
  · obtain ⟨i, hi, e⟩ := Option.map_eq_some_iff.mp e
    subst e
    exact .unit (pos_lt hi)
mutual
theorem den_ok {T : List Atom} : ∀ {t : Tree} {L : Lin}, den T t = some L → LOk T.length L
  | .letter k, L, h => by
    rw [den] at h
    obtain ⟨i, hi, e⟩ := Option.map_eq_some_iff.mp h
    subst e
    exact .unit (pos_lt hi)
  | .op o ps, L, h => by
    rw [den] at h
    obtain ⟨Ls, h1, h2⟩ := Option.bind_eq_some_iff.mp h
    exact opLin_ok (denAll_ok h1) h2
theorem denAll_ok {T : List Atom} : ∀ {ps : List Tree} {Ls : List Lin}, denAll T ps = some Ls → ∀ M ∈ Ls, LOk T.length M
  | [], Ls, h => by
    rw [denAll] at h
    cases h
    exact fun _ h => nomatch h
  | p :: ps, Ls, h => by
    rw [denAll] at h
    obtain ⟨L, h1, h2⟩ := Option.bind_eq_some_iff.mp h
    obtain ⟨Ls', h3, h4⟩ := Option.map_eq_some_iff.mp h2
    subst h4
    intro M hM
    rcases List.mem_cons.mp hM with e | hM
    · rw [e]; exact den_ok h1
    · exact denAll_ok h3 M hM
end
end M60

set_option Elab.async false
set_option linter.all false
set_option maxRecDepth 100000
set_option maxHeartbeats 1000000
/-! The defs of k60: the text by places; facts; frames. -/
namespace R60
open PySem PySem.Spec PyProof.Rows L2 M60

def top (i : Nat) : Stmt := PySem.Challenge.pw_runshown_k60_sums_of_graphs.main.body.getD i (.Pass ⟨0, 0, 0, 0⟩)
abbrev s_scaled : Stmt := top 2
abbrev s_added : Stmt := top 3
abbrev s_linear_of : Stmt := top 4
abbrev s_is_sum : Stmt := top 5
abbrev s_sum_linear : Stmt := top 6
abbrev sS (j : Nat) : Stmt := inClass (top 7) j
abbrev sG (j : Nat) : Stmt := inClass (top 14) j
abbrev s_law_bag : Stmt := top 16
abbrev s_law_take : Stmt := top 17
abbrev s_law_some : Stmt := top 18
abbrev s_law_mixed : Stmt := top 19
abbrev s_law_alike : Stmt := top 20
abbrev s_law_graph : Stmt := top 21
abbrev s_law_node : Stmt := top 22
abbrev s_law_applied : Stmt := top 23
abbrev s_law_worths : Stmt := top 24
abbrev s_law_drawn_terms : Stmt := top 25
abbrev s_law_plus : Stmt := top 26
abbrev s_law_linear : Stmt := top 27
abbrev s_law_told_linear : Stmt := top 28
abbrev s_law_made : Stmt := top 29
abbrev s_law : Stmt := top 30

theorem b_len : bootBuiltins "len" = some (.builtin "len") := by decide +kernel
theorem b_dict : bootBuiltins "dict" = some (.type "dict") := by decide +kernel
theorem b_int : bootBuiltins "int" = some (.type "int") := by decide +kernel
theorem b_tuple : bootBuiltins "tuple" = some (.type "tuple") := by decide +kernel
theorem b_list : bootBuiltins "list" = some (.type "list") := by decide +kernel
theorem b_sorted : bootBuiltins "sorted" = some (.builtin "sorted") := by decide +kernel
theorem b_repr : bootBuiltins "repr" = some (.builtin "repr") := by decide +kernel
theorem b_abs : bootBuiltins "abs" = some (.builtin "abs") := by decide +kernel
theorem b_sum : bootBuiltins "sum" = some (.builtin "sum") := by decide +kernel
/-- the built-ins are not hidden -/
structure Bl (mg : Str → Option Value) : Prop where
  len : mg "len" = none
  dict : mg "dict" = none
  int : mg "int" = none
  tuple : mg "tuple" = none
  list : mg "list" = none
  sorted : mg "sorted" = none
  repr : mg "repr" = none
  abs : mg "abs" = none
  sum : mg "sum" = none
  range : mg "range" = none
/-- a def of the module that keeps its promise -/
structure Df (P : Program) (w : World) (K : PySem.W.Frag) (mg : Str → Option Value) (base : Heap) (k : Nat) (x : Str) (f : Addr) (fd : FuncData) (ps : List Str) (sp : Sp) : Prop where
  gx : mg x = some (.ref f)
  kp : PySem.W.keepIn K (.ref f) = true
  b : Binds K fd ps []
  ok : FnOk P w K mg base CX0 k f fd ps sp
/-- a method -/
structure Mf (P : Program) (w : World) (K : PySem.W.Frag) (mg : Str → Option Value) (base : Heap) (k : Nat) (C : Addr) (x : Str) (f : Addr) (fd : FuncData) (ps : List Str) (sp : Sp) : Prop where
  me : Meth K C x f
  b : Binds K fd ps []
  ok : FnOk P w K mg base CX0 k f fd ps sp

/-! ### what a call leaves -/
def IsTF : HO → Prop
  | .tup _ => True
  | .frz _ _ => True
  | _ => False
/-- all stands as it stood but what is at S; tuples and what is frozen stand -/
def Fr (S : List Addr) (H H' : Hp) : Prop := ∀ b u, H b = some u → (b ∉ S ∨ IsTF u) → H' b = some u
theorem Fr.refl (S : List Addr) (H : Hp) : Fr S H H := fun _ _ h _ => h
theorem Fr.trans {S : List Addr} {H H1 H2 : Hp} (a : Fr S H H1) (b : Fr S H1 H2) : Fr S H H2 := fun c u h n => b c u (a c u h n) n
theorem Fr.mono {S S' : List Addr} {H H1 : Hp} (a : Fr S H H1) (h : ∀ b ∈ S, b ∈ S') : Fr S' H H1 := fun c u e n => a c u e (n.imp (fun z q => z (h c q)) id)
theorem Fr.nil {S : List Addr} {H H1 : Hp} (a : Fr [] H H1) : Fr S H H1 := a.mono fun _ h => nomatch h
theorem Fr.same {S : List Addr} {H H1 : Hp} (a : Same H H1) : Fr S H H1 := fun c u e _ => a c u e
theorem Fr.toSame {H H1 : Hp} (a : Fr [] H H1) : Same H H1 := fun c u e => a c u e (.inl (fun h => nomatch h))
theorem Fr.new {S : List Addr} {H : Hp} {p : Addr} {o : HO} (h : H p = none) : Fr S H (upd H p o) := fun c u e _ => by
  rw [upd_ne (ne_of_none e h)]
  exact e
theorem Fr.old {S : List Addr} {H : Hp} {p : Addr} {o u : HO} (hp : p ∈ S) (h : H p = some u) (nt : ¬ IsTF u) : Fr S H (upd H p o) := fun c x e n => by
  by_cases q : c = p
  · subst q
    rw [h] at e
    cases e
    exact (n.elim (fun z => z hp) nt).elim
  · rw [upd_ne q]
    exact e
theorem Fr.tups {S : List Addr} {H H1 : Hp} (a : Fr S H H1) : TupK H H1 := fun b xs h => by
  rcases h with h | ⟨o, h⟩
  · exact .inl (a b _ h (.inr True.intro))
  · exact .inr ⟨o, a b _ h (.inr True.intro)⟩
theorem Fr.free {S : List Addr} {H H1 : Hp} (a : Fr S H H1) {p : Addr} (hp : p ∉ S) (h : H1 p = none) : H p = none := by
  cases q : H p with
  | none => rfl
  | some o =>
    rw [a p o q (.inl hp)] at h
    cases h
theorem Fr.freeT {S : List Addr} {H H1 : Hp} (a : Fr S H H1) {p : Addr} (h : H1 p = none) : ∀ u, H p = some u → p ∈ S := fun u q => by
  by_cases hp : p ∈ S
  · exact hp
  · rw [a.free hp h] at q
    cases q
theorem TF.kp {S : List Addr} {H H1 : Hp} {a : Addr} {xs : List V} (t : TF H a xs) (f : Fr S H H1) : TF H1 a xs := let ⟨o, h, p⟩ := t; ⟨o, f a _ h (.inr True.intro), p⟩
theorem PrT.kp {H H1 : Hp} {ts : List Addr} {ps : List (V × V)} (r : PrT H ts ps) (t : TupK H H1) : PrT H1 ts ps := Paired.mapP r fun _ _ h => t _ _ h

/-! ### int dicts -/
def encK (l : List (Int × Int)) : List (Key × V) := l.map fun p => (Sum.inl p.1, V.int p.2)
theorem encK_len (l : List (Int × Int)) : (encK l).length = l.length := by simp [encK]
theorem encK_get (l : List (Int × Int)) (i : Nat) : (encK l)[i]? = (l[i]?).map fun p => (Sum.inl p.1, V.int p.2) := by simp [encK]
/-- the value at a key, if it is there -/
def at? (l : List (Int × Int)) (a : Int) : Option Int := (l.find? fun p => decide (p.1 = a)).map (·.2)
theorem encK_val (a : Int) : ∀ l : List (Int × Int), valV (encK l) (Sum.inl a) = (at? l a).map V.int
  | [] => rfl
  | p :: r => by
    have ih := encK_val a r
    by_cases e : p.1 = a
    · rw [show encK (p :: r) = (Sum.inl p.1, V.int p.2) :: encK r from rfl, valV_pos (by rw [e])]
      simp [at?, e]
    · rw [show encK (p :: r) = (Sum.inl p.1, V.int p.2) :: encK r from rfl, valV_neg (fun z => e (Sum.inl.inj z)), ih]
      simp [at?, e]
theorem at_look (l : List (Int × Int)) (a : Int) : (at? l a).getD 0 = look l a := by
  induction l with
  | nil => rfl
  | cons p r ih =>
    by_cases e : p.1 = a
    · simp [at?, look, e]
    · rw [look_neg e, ← ih]
      simp [at?, e]
theorem at_mem {l : List (Int × Int)} (hn : (l.map (·.1)).Nodup) {p : Int × Int} (h : p ∈ l) : at? l p.1 = some p.2 := by
  induction l with
  | nil => cases h
  | cons q r ih =>
    rw [List.map_cons, List.nodup_cons] at hn
    rcases List.mem_cons.mp h with e | h
    · subst e; simp [at?]
    · have ne : ¬ q.1 = p.1 := fun e => hn.1 (by rw [e]; exact List.mem_map.mpr ⟨p, h, rfl⟩)
      have := ih hn.2 h
      simpa [at?, ne] using this
theorem at_none {l : List (Int × Int)} {a : Int} : at? l a = none ↔ a ∉ l.map (·.1) := by
  induction l with
  | nil => simp [at?]
  | cons p r ih =>
    by_cases e : p.1 = a
    · simp [at?, e]
    · have e' : ¬ a = p.1 := fun z => e z.symm
      simp only [at?, List.find?_cons, e, decide_false, List.map_cons, List.mem_cons, e', false_or]
      simpa [at?] using ih
/-- d[a] = v -/
def put (l : List (Int × Int)) (a v : Int) : List (Int × Int) := if (l.any fun p => decide (p.1 = a)) = true then l.map (fun p => if p.1 = a then (p.1, v) else p) else l ++ [(a, v)]
theorem encK_put (l : List (Int × Int)) (a v : Int) : putK (encK l) (Sum.inl a) (V.int v) = encK (put l a v) := by
  have e : ((encK l).any fun kv => decide (kv.1 = Sum.inl a)) = l.any fun p => decide (p.1 = a) := by
    simp [encK, List.any_map, Function.comp_def]
  unfold putK put
  rw [e]
  split
  · simp only [encK, List.map_map]
    refine List.map_congr_left fun p _ => ?_
    by_cases q : p.1 = a <;> simp [q]
  · simp [encK]
theorem put_new {l : List (Int × Int)} {a v : Int} (h : a ∉ l.map (·.1)) : put l a v = l ++ [(a, v)] := by
  unfold put
  refine if_neg fun e => h ?_
  obtain ⟨p, hp, q⟩ := List.any_eq_true.mp e
  exact List.mem_map.mpr ⟨p, hp, of_decide_eq_true q⟩
theorem put_keys (l : List (Int × Int)) (a v : Int) : (put l a v).map (·.1) = if a ∈ l.map (·.1) then l.map (·.1) else l.map (·.1) ++ [a] := by
  unfold put
  by_cases h : a ∈ l.map (·.1)
  · rw [if_pos h, if_pos]
    · rw [List.map_map]
      refine List.map_congr_left fun p _ => ?_
      by_cases e : p.1 = a <;> simp [e]
    · obtain ⟨p, hp, q⟩ := List.mem_map.mp h
      exact List.any_eq_true.mpr ⟨p, hp, decide_eq_true q⟩
  · rw [if_neg h, if_neg]
    · simp
    · intro e
      obtain ⟨p, hp, q⟩ := List.any_eq_true.mp e
      exact h (List.mem_map.mpr ⟨p, hp, of_decide_eq_true q⟩)
theorem put_nodup {l : List (Int × Int)} {a v : Int} (h : (l.map (·.1)).Nodup) : ((put l a v).map (·.1)).Nodup := by
  rw [put_keys]
  split
  · exact h
  · exact nd_snoc h (by assumption)
theorem put_len (l : List (Int × Int)) (a v : Int) : (put l a v).length ≤ l.length + 1 := by
  unfold put
  split
  · simp
  · simp
theorem look_put (l : List (Int × Int)) (a v b : Int) : look (put l a v) b = if b = a then v else look l b := by
  unfold put
  by_cases h : (l.any fun p => decide (p.1 = a)) = true
  · rw [if_pos h]
    have hm : a ∈ l.map (·.1) := by
      obtain ⟨p, hp, q⟩ := List.any_eq_true.mp h
      exact List.mem_map.mpr ⟨p, hp, of_decide_eq_true q⟩
    clear h
    induction l with
    | nil => cases hm
    | cons p r ih =>
      rw [List.map_cons]
      by_cases e : p.1 = a
      · rw [if_pos e]
        by_cases q : b = a
        · rw [if_pos q, look_pos (p := (p.1, v)) (by rw [q]; exact e)]
        · rw [if_neg q, look_neg (p := (p.1, v)) (by show ¬ p.1 = b; omega), look_neg (by omega)]
          by_cases hr : a ∈ r.map (·.1)
          · rw [ih hr, if_neg q]
          · have : (r.map fun p => if p.1 = a then (p.1, v) else p) = r := by
              refine (List.map_congr_left fun x hx => ?_).trans (List.map_id r)
              rw [if_neg fun e => hr (List.mem_map.mpr ⟨x, hx, e⟩)]
              rfl
            rw [this]
      · rw [if_neg e]
        have hr : a ∈ r.map (·.1) := by
          rw [List.map_cons] at hm
          rcases List.mem_cons.mp hm with z | z
          · exact absurd z.symm e
          · exact z
        by_cases q : p.1 = b
        · rw [look_pos q, look_pos q, if_neg (by omega)]
        · rw [look_neg q, look_neg q, ih hr]
  · rw [if_neg h, look_append]
    have hm : a ∉ l.map (·.1) := fun z => h (by
      obtain ⟨p, hp, q⟩ := List.mem_map.mp z
      exact List.any_eq_true.mpr ⟨p, hp, decide_eq_true q⟩)
    by_cases q : b = a
    · rw [if_pos q, q, if_neg hm, look_pos rfl]
    · rw [if_neg q]
      by_cases z : b ∈ l.map (·.1)
      · rw [if_pos z]
      · rw [if_neg z, look_not z, look_neg (fun e => q e.symm), look_nil]

/-! ### a dict comprehension over any walk -/
theorem dc_it {J : It} {n : Nat} {G : Hp → Prop} {Y : Nat → Hp → V → Hp → Prop} (w : Walk J n G Y) {g : TG} {tt : TT} {tk tv : TE} {vs : List Nat} {σ : L2.St} {H1 : Hp} {D : Addr} {Qd : Hp → Prop} (Pv : Nat → Hp → Prop) (h0 : Pv 0 (upd H1 D (.dK [])))
    (hG : ∀ i H, i ≤ n → Pv i H → G H)
    (hs : ∀ i x H H', i < n → Pv i H → Y i H x H' → g x (wipe σ vs) H' fun σ2 H2 => wipe σ2 vs = wipe σ vs ∧ tt σ2 H2 fun b H3 =>
      if b = true then tk σ2 H3 fun y H4 => tv σ2 H4 fun z H5 => ∃ kvs k, y = kV k ∧ H5 D = some (.dK kvs) ∧ kvs.length < sizeLine ∧ Pv (i + 1) (upd H5 D (.dK (putK kvs k z))) else Pv (i + 1) H3) (hd : ∀ H, Pv n H → Qd H) :
    ∃ W : Nat → Nat → Hp → Prop, (∃ m, W 0 m (upd H1 D (.dK []))) ∧ ∀ i m H, W i m H →
      (J.stop i H ∧ Qd H) ∨ (J.go i H ∧ ∃ Nx : Hp → Prop, (∀ H', Nx H' → ∃ m', m' < m ∧ W (i + 1) m' H') ∧ ∀ x H', J.yld i H x H' → g x (wipe σ vs) H' fun σ2 H2 => wipe σ2 vs = wipe σ vs ∧ tt σ2 H2 fun b H3 =>
        if b = true then tk σ2 H3 fun y H4 => tv σ2 H4 fun z H5 => ∃ kvs k, y = kV k ∧ H5 D = some (.dK kvs) ∧ kvs.length < sizeLine ∧ Nx (upd H5 D (.dK (putK kvs k z))) else Nx H3) := by
  refine ⟨fun i m H => m = n - i ∧ i ≤ n ∧ Pv i H, ⟨n, by simp, Nat.zero_le _, h0⟩, fun i m H h => ?_⟩
  obtain ⟨rfl, hi, p⟩ := h
  by_cases c : i < n
  · exact .inr ⟨w.goes i H c (hG i H hi p), Pv (i + 1), fun H' p' => ⟨n - (i + 1), by omega, rfl, c, p'⟩, fun x H' y => hs i x H H' c p (w.yields i H x H' c (hG i H hi p) y)⟩
  · have e : i = n := by omega
    subst e
    exact .inl ⟨w.stops H (hG i H hi p), hd H p⟩
theorem small_line {n : Nat} (h : n ≤ 1000000) : n < sizeLine := by rw [sizeLine_eq]; omega
theorem small_le {n : Nat} (h : n ≤ 1000000) : n ≤ sizeLine := Nat.le_of_lt (small_line h)
end R60

set_option Elab.async false
set_option linter.all false
set_option maxRecDepth 100000
set_option maxHeartbeats 4000000
namespace R60
open PySem PySem.Spec PyProof.Rows L2 M60
theorem upd_comm {H : Hp} {a b : Addr} {o u : HO} (h : a ≠ b) : upd (upd H a o) b u = upd (upd H b u) a o := by
  funext c
  unfold upd
  by_cases e1 : c = a
  · subst e1
    rw [if_neg h, if_pos rfl, if_pos rfl]
  · rw [if_neg e1, if_neg e1]
theorem upd_id {H : Hp} {a : Addr} {o : HO} (h : H a = some o) : upd H a o = H := by
  funext c
  unfold upd
  by_cases e : c = a
  · rw [if_pos e, e, h]
  · rw [if_neg e]
theorem take_map {α β : Type} (l : List α) (g : α → β) {i : Nat} (h : i < l.length) : (l.take (i + 1)).map g = (l.take i).map g ++ [g l[i]] := by
  rw [List.take_succ_eq_append_getElem h, List.map_append]
  rfl
theorem take_not {l : List (Int × Int)} (hn : (l.map (·.1)).Nodup) {i : Nat} (h : i < l.length) : l[i].1 ∉ (l.take i).map (·.1) := fun m => by
  have e : l.map (·.1) = (l.take i).map (·.1) ++ (l.drop i).map (·.1) := by rw [← List.map_append, List.take_append_drop]
  rw [e] at hn
  have d := (List.nodup_append.mp hn).2.2
  refine d _ m l[i].1 ?_ rfl
  rw [List.drop_eq_getElem_cons h]
  exact List.mem_cons_self
section
variable {P : Program} {w : World} {K : PySem.W.Frag} {mg : Str → Option Value} {base : Heap}

/-! ### scaled -/
def spScaled : Sp := fun vs H Q _ => ∃ (a : Addr) (l : List (Int × Int)) (f : Int), vs = [.ref a, .int f] ∧ H a = some (.dK (encK l)) ∧ (f = 1 ∨ f = -1) ∧ (l.map (·.1)).Nodup ∧ l.length ≤ 1000 ∧
  ∀ H' p, Fr [] H H' → H p = none → H' p = some (.dK (encK (l.map fun p => (p.1, p.2 * f)))) → Q (.ref p) H'
theorem sc_scaled : FnScope ["one", "factor", "key"] ["one", "factor"] (defScope s_scaled) := ⟨rfl, rfl, rfl, by decide +kernel, rfl, by decide +kernel, by decide +kernel⟩
theorem ok_scaled {f : Addr} {fd : FuncData} (F : Fun K "scaled" "scaled" s_scaled f fd) : FnOk P w K mg base CX0 1 f fd ["one", "factor"] spScaled := by
  refine F.ok sc_scaled (fun vs H Q E h => ?_) (fun cdv A outer s H vs Q E hr h => ?_)
  · obtain ⟨a, l, f, rfl, _⟩ := h
    rfl
  obtain ⟨a, l, fc, rfl, ha, hf, hn, hl, k⟩ := h
  have hu := hr.units
  refine ⟨_, (pss_one (ps_ret (pe_lock (pe_dc (own := [("key", 2)]) rfl sc_scaled.nd (pi_keys (pv 0)) (blkOk_by (N := ["one", "factor", "key"]) (sc := defScope s_scaled) (by decide +kernel)) (fun _ _ _ _ _ => (pg_name (i := 2) sc_scaled.nd rfl (Or.inl rfl))) (fun _ _ _ _ _ => (pts_one (pt_cmpR op_ne (pv 1) pe_int (nomark _)))) (fun _ _ _ _ _ => (pv 2)) (fun _ _ _ _ _ => (pe_op op_mul (xe_get (P := P) (w := w) (pv 0) (pv 2) (fun _ _ => rfl) hu) (pv 1))))))), ?_⟩
  refine ⟨a, _, ha, True.intro, fun od => ?_⟩
  refine ⟨_, rfl, a, od, rfl, .inl ⟨_, upd_same, ?_⟩⟩
  intro D hD
  have ne : D ≠ a := fun e => by rw [e, upd_same] at hD; cases hD
  refine dc_it walk_keys (fun i H' => H' = upd (upd H a (.frz od (.dK (encK l)))) D (.dK (encK ((l.take i).map fun p => (p.1, p.2 * fc))))) rfl (fun i H' _ e => ?_) (fun i x H1 H' hi e y => ?_) (fun H' e => ?_)
  · rw [e, upd_ne ne.symm, upd_same]
  · obtain ⟨rfl, kk, v, hk, rfl⟩ := y
    rw [encK_len] at hi
    rw [encK_get, List.getElem?_eq_getElem hi] at hk
    cases hk
    have hm : l[i] ∈ l := List.getElem_mem hi
    have hv : valV (encK l) (Sum.inl l[i].1) = some (V.int l[i].2) := by rw [encK_val, at_mem hn hm]; rfl
    refine ⟨rfl, _, rfl, rfl, _, rfl, ?_⟩
    have f0 : ¬ fc = 0 := by omega
    refine ite2 (fun _ => ?_) (fun z => absurd (show (!decide (V.int fc = V.int 0)) = true by simp [f0]) z)
    refine ⟨_, rfl, _, rfl, _, rfl, a, _, rfl, .inl (.inl ⟨encK l, Sum.inl l[i].1, .inr ⟨od, by rw [e, upd_ne ne.symm, upd_same]⟩, rfl, hv.symm⟩), _, rfl, _, _, rfl, rfl, .inr (by omega), _, _, rfl, by rw [e, upd_same], ?_, ?_⟩
    · refine small_line ?_
      rw [encK_len]
      simp
      omega
    · show upd _ _ _ = _
      rw [e, upd_upd, encK_put, put_new, take_map l (fun p => (p.1, p.2 * fc)) hi]
      rw [List.map_map]
      exact take_not hn hi
  · subst e
    refine ⟨by rw [upd_ne ne.symm, upd_same], ?_⟩
    have hD' : H D = none := by
      rw [upd_ne ne] at hD
      exact hD
    refine k _ D ?_ hD' ?_
    · intro b u hb _
      by_cases q : b = a
      · subst q
        rw [ha] at hb
        cases hb
        rw [upd_same]
      · rw [upd_ne q, upd_ne (ne_of_none hb hD'), upd_ne q]
        exact hb
    · rw [upd_ne ne, upd_same, encK_len, List.take_length]
/-! ### added -/
def addM (l m : List (Int × Int)) : List (Int × Int) := m.foldl (fun acc q => put acc q.1 (look acc q.1 + q.2)) l
theorem addM_snoc (l m : List (Int × Int)) (q : Int × Int) : addM l (m ++ [q]) = put (addM l m) q.1 (look (addM l m) q.1 + q.2) := by
  unfold addM
  rw [List.foldl_append]
  rfl
theorem addM_nodup {l : List (Int × Int)} (h : (l.map (·.1)).Nodup) : ∀ m : List (Int × Int), ((addM l m).map (·.1)).Nodup := by
  intro m
  induction m generalizing l with
  | nil => exact h
  | cons q m ih => exact ih (put_nodup h)
theorem addM_len (l : List (Int × Int)) : ∀ m : List (Int × Int), (addM l m).length ≤ l.length + m.length := by
  intro m
  induction m generalizing l with
  | nil => exact Nat.le_refl _
  | cons q m ih =>
    have h1 := ih (put l q.1 (look l q.1 + q.2))
    have h2 := put_len l q.1 (look l q.1 + q.2)
    show (addM (put l q.1 (look l q.1 + q.2)) m).length ≤ _
    rw [List.length_cons]
    omega
theorem look_addM (a : Int) : ∀ (l m : List (Int × Int)), (m.map (·.1)).Nodup → look (addM l m) a = look l a + look m a := by
  intro l m
  induction m generalizing l with
  | nil => intro _; show look l a = look l a + 0; omega
  | cons q m ih =>
    intro hn
    rw [List.map_cons, List.nodup_cons] at hn
    show look (addM (put l q.1 (look l q.1 + q.2)) m) a = _
    rw [ih _ hn.2, look_put]
    by_cases e : a = q.1
    · rw [if_pos e, look_pos e.symm, e, look_not hn.1]
      omega
    · rw [if_neg e, look_neg (fun z => e z.symm)]
theorem filter_put {l : List (Int × Int)} (hn : (l.map (·.1)).Nodup) {i : Nat} (h : i < l.length) :
    (l.take (i + 1)).filter (fun p => decide (p.2 ≠ 0)) = if l[i].2 ≠ 0 then put ((l.take i).filter fun p => decide (p.2 ≠ 0)) l[i].1 l[i].2 else (l.take i).filter fun p => decide (p.2 ≠ 0) := by
  rw [List.take_succ_eq_append_getElem h, List.filter_append]
  by_cases z : l[i].2 ≠ 0
  · rw [if_pos z, put_new]
    · simp [z]
    · intro m
      obtain ⟨p, hp, e⟩ := List.mem_map.mp m
      exact take_not hn h (List.mem_map.mpr ⟨p, (List.mem_filter.mp hp).1, e⟩)
  · rw [if_neg z]
    simp at z
    simp [z]
def spAdded : Sp := fun vs H Q _ => ∃ (a b : Addr) (l m : List (Int × Int)), vs = [.ref a, .ref b] ∧ H a = some (.dK (encK l)) ∧ H b = some (.dK (encK m)) ∧ (l.map (·.1)).Nodup ∧ (m.map (·.1)).Nodup ∧ l.length ≤ 1000 ∧ m.length ≤ 1000 ∧
  ∀ H' p r, Fr [] H H' → H p = none → H' p = some (.dK (encK r)) → (r.map (·.1)).Nodup → r.length ≤ l.length + m.length → (∀ x, look r x = look l x + look m x) → (∀ q ∈ r, q.2 ≠ 0) → Q (.ref p) H'
theorem sc_added : FnScope ["one", "other", "found", "key"] ["one", "other"] (defScope s_added) := ⟨rfl, rfl, rfl, by decide +kernel, rfl, by decide +kernel, by decide +kernel⟩
theorem ok_added {f : Addr} {fd : FuncData} (B : Bl mg) (F : Fun K "added" "added" s_added f fd) : FnOk P w K mg base CX0 1 f fd ["one", "other"] spAdded := by
  refine F.ok sc_added (fun vs H Q E h => ?_) (fun cdv A outer s H vs Q E hr h => ?_)
  · obtain ⟨a, b, l, m, rfl, _⟩ := h
    rfl
  obtain ⟨a, b, l, m, rfl, ha, hb, nl, nm, zl, zm, k⟩ := h
  have hu := hr.units
  refine ⟨_, (pss_cons (ps_set (i := 2) sc_added.nd rfl (Or.inr rfl) (pe_callTy (call_dictOf (P := P) (w := w)) rfl B.dict b_dict (pa_cons (pv 0) pa_nil)))
    (pss_cons (ps_lock (ps_for PassesOwn.never rfl (pi_keys (pv 1)) (pg_name (i := 3) sc_added.nd rfl (Or.inl rfl))
      (pss_one (xs_put (P := P) (w := w) (pv 2) (pv 3) (pe_op op_add (xe_get2 (P := P) (w := w) (pv 2) (pv 3) pe_int hu ⟨rfl, rfl, rfl, rfl⟩) (xe_get (P := P) (w := w) (pv 1) (pv 3) (fun _ _ => rfl) hu)) hu rfl))))
    (pss_one (ps_ret (pe_lock (pe_dc (own := [("key", 3)]) rfl sc_added.nd (pi_keys (pv 2)) (blkOk_by (N := ["one", "other", "found", "key"]) (sc := defScope s_added) (by decide +kernel)) (fun _ _ _ _ _ => (pg_name (i := 3) sc_added.nd rfl (Or.inl rfl))) (fun _ _ _ _ _ => (pts_one (pt_cmpR op_ne (xe_get (P := P) (w := w) (pv 2) (pv 3) (fun _ _ => rfl) hu) pe_int (nomark _)))) (fun _ _ _ _ _ => (pv 3)) (fun _ _ _ _ _ => (xe_get (P := P) (w := w) (pv 2) (pv 3) (fun _ _ => rfl) hu)))))))), ?_⟩
  -- found = dict(one)
  refine ⟨_, rfl, a, rfl, .inl ⟨_, .inl ha, fun f hf => ?_⟩⟩
  have fa : f ≠ a := (ne_of_none ha hf).symm
  have fb : f ≠ b := (ne_of_none hb hf).symm
  -- for key in other
  refine ⟨b, .dK (encK m), (by rw [upd_ne fb.symm]; exact hb), True.intro, fun od => ?_⟩
  refine ⟨_, rfl, b, od, rfl, .inl ⟨_, upd_same, ?_⟩⟩
  refine for_it walk_keys (fun i σ' H' => (∃ z, σ' = [some (.ref a), some (.ref b), some (.ref f), z]) ∧ H' = upd (upd H b (.frz od (.dK (encK m)))) f (.dK (encK (addM l (m.take i)))))
    ⟨⟨_, rfl⟩, upd_comm fb⟩ (fun i σ' H' _ e => ?_) (fun i x σ' H1 H' hi e y => ?_) (fun σ' H' e => ?_)
  · rw [e.2, upd_ne fb.symm, upd_same]
  · obtain ⟨⟨z, rfl⟩, e⟩ := e
    obtain ⟨rfl, kk, v, hk, rfl⟩ := y
    rw [encK_len] at hi
    rw [encK_get, List.getElem?_eq_getElem hi] at hk
    cases hk
    have hm : m[i] ∈ m := List.getElem_mem hi
    have hF : H' f = some (.dK (encK (addM l (m.take i)))) := by rw [e, upd_same]
    have hB : H' b = some (.frz od (.dK (encK m))) := by rw [e, upd_ne fb.symm, upd_same]
    have hv : valV (encK m) (Sum.inl m[i].1) = some (V.int m[i].2) := by rw [encK_val, at_mem nm hm]; rfl
    have hz := addM_len l (m.take i)
    have hz2 : (m.take i).length ≤ i := by simp; omega
    refine ⟨_, rfl, f, _, rfl, .inl ⟨_, .inl hF, rfl⟩, _, rfl, _, .inl (.inl ⟨_, Sum.inl m[i].1, .inl hF, rfl, rfl⟩), _, rfl, _, rfl, b, _, rfl, .inl (.inl ⟨encK m, Sum.inl m[i].1, .inr ⟨od, hB⟩, rfl, hv.symm⟩), look (addM l (m.take i)) m[i].1, _, ?_, rfl, _, rfl, _, rfl, f, rfl, GP.k hF rfl ?_ ?_⟩
    · rw [encK_val, ← at_look]
      cases at? (addM l (m.take i)) m[i].1 <;> rfl
    · refine small_line ?_
      rw [encK_len]
      omega
    · refine ⟨⟨_, rfl⟩, ?_⟩
      rw [e, upd_upd, encK_put, ← addM_snoc, List.take_succ_eq_append_getElem hi]
  · obtain ⟨⟨z, rfl⟩, rfl⟩ := e
    refine ⟨by rw [upd_ne fb.symm, upd_same], ?_⟩
    have eH : upd (upd (upd H b (.frz od (.dK (encK m)))) f (.dK (encK (addM l (m.take m.length))))) b (.dK (encK m)) = upd H f (.dK (encK (addM l m))) := by
      rw [List.take_length, upd_comm fb, upd_upd, upd_id hb]
    rw [encK_len, eH]
    -- the filtered copy
    have hF : upd H f (.dK (encK (addM l m))) f = some (.dK (encK (addM l m))) := upd_same
    have nr := addM_nodup nl m
    have zr := addM_len l m
    generalize hr0 : addM l m = r at *
    refine ⟨f, _, hF, True.intro, fun od2 => ?_⟩
    refine ⟨_, rfl, f, od2, rfl, .inl ⟨_, upd_same, ?_⟩⟩
    intro D hD
    have ne : D ≠ f := fun e => by rw [e, upd_same] at hD; cases hD
    rw [upd_upd] at hD ⊢
    refine dc_it walk_keys (fun i H' => H' = upd (upd H f (.frz od2 (.dK (encK r)))) D (.dK (encK ((r.take i).filter fun p => decide (p.2 ≠ 0))))) rfl (fun i H' _ e => ?_) (fun i x H1 H' hi e y => ?_) (fun H' e => ?_)
    · rw [e, upd_ne ne.symm, upd_same]
    · obtain ⟨rfl, kk, v, hk, rfl⟩ := y
      rw [encK_len] at hi
      rw [encK_get, List.getElem?_eq_getElem hi] at hk
      cases hk
      have hm : r[i] ∈ r := List.getElem_mem hi
      have hv : valV (encK r) (Sum.inl r[i].1) = some (V.int r[i].2) := by rw [encK_val, at_mem nr hm]; rfl
      have hG : GG P w H' f (kV (Sum.inl r[i].1)) (some (V.int r[i].2)) := .inl (.inl ⟨encK r, Sum.inl r[i].1, .inr ⟨od2, by rw [e, upd_ne ne.symm, upd_same]⟩, rfl, hv.symm⟩)
      refine ⟨rfl, _, rfl, _, rfl, f, _, rfl, hG, rfl, _, rfl, ?_⟩
      refine ite2 (fun c => ?_) (fun c => ?_)
      · have c' : r[i].2 ≠ 0 := fun z => by simp [z] at c
        refine ⟨_, rfl, _, rfl, _, rfl, f, _, rfl, hG, _, _, rfl, by rw [e, upd_same], ?_, ?_⟩
        · refine small_line ?_
          rw [encK_len]
          have := List.length_filter_le (fun p : Int × Int => decide (p.2 ≠ 0)) (r.take i)
          simp at this ⊢
          omega
        · show upd _ _ _ = _
          rw [e, upd_upd, encK_put, filter_put nr hi, if_pos c']
      · have c' : ¬ r[i].2 ≠ 0 := fun z => c (by simp [z])
        show H' = _
        rw [filter_put nr hi, if_neg c', e]
    · subst e
      refine ⟨by rw [upd_ne ne.symm, upd_same], ?_⟩
      have hD' : H D = none := by
        rw [upd_ne ne] at hD
        exact hD
      rw [encK_len, List.take_length]
      refine k _ D (r.filter fun p => decide (p.2 ≠ 0)) ?_ hD' ?_ ?_ ?_ (fun x => ?_) (fun q hq => ?_)
      · intro b' u hb' _
        have n1 : b' ≠ f := ne_of_none hb' hf
        rw [upd_ne n1, upd_ne (ne_of_none hb' hD'), upd_ne n1]
        exact hb'
      · rw [upd_ne ne, upd_same]
      · exact nr.sublist (List.Sublist.map _ List.filter_sublist)
      · exact Nat.le_trans (List.length_filter_le _ _) zr
      · rw [look_filter x nr, ← hr0, look_addM x l m nm]
      · simpa using (List.mem_filter.mp hq).2
end
end R60

set_option Elab.async false
set_option linter.all false
set_option maxRecDepth 100000
set_option maxHeartbeats 4000000
namespace R60
open PySem PySem.Spec PyProof.Rows L2 M60
/-- a linear as it stands: a pair of its constant and a tuple (its object known) of pairs -/
def LinV (H : Hp) (L : Lin) (v : V) : Prop := ∃ (a t : Addr) (rs : List Addr), v = .ref a ∧ Rd H a (.tup [.int L.1, .ref t]) ∧ TF H t (rs.map V.ref) ∧ PrT H rs (L.2.map fun p => (V.int p.1, V.int p.2))
theorem LinV.kp {S : List Addr} {H H1 : Hp} {L : Lin} {v : V} (h : LinV H L v) (f : Fr S H H1) : LinV H1 L v := by
  obtain ⟨a, t, rs, e, h1, h2, h3⟩ := h
  exact ⟨a, t, rs, e, f.tups _ _ h1, h2.kp f, h3.kp f.tups⟩
def pairD (p : Int × Int) : Dt := .tup [.num p.1, .num p.2]
def linD (L : Lin) : Dt := .tup [.num L.1, .tup (L.2.map pairD)]
theorem prT_reps {H : Hp} : ∀ {rs : List Addr} {ps : List (Int × Int)}, PrT H rs (ps.map fun p => (V.int p.1, V.int p.2)) → Reps H (ps.map pairD) (rs.map V.ref)
  | _, [], h => by cases h; exact .nil
  | _, p :: ps, h => by
    cases h with
    | cons h t => exact .cons (.tup h (.cons (.num _) (.cons (.num _) .nil))) (prT_reps t)
theorem LinV.rep {H : Hp} {L : Lin} {v : V} (h : LinV H L v) : Rep H (linD L) v := by
  obtain ⟨a, t, rs, rfl, h1, h2, h3⟩ := h
  exact .tup h1 (.cons (.num _) (.cons (.tup h2.rd (prT_reps h3)) .nil))
/-- the tuples of pairs that stand -/
abbrev PrX (H : Hp) : List Addr → List (Int × Int) → Prop := Paired fun t p => H t = some (.tup [V.int p.1, V.int p.2])
theorem PrX.up {H : Hp} {p : Addr} {o : HO} {rs : List Addr} {ps : List (Int × Int)} (r : PrX H rs ps) (h : ∀ xs, H p ≠ some (.tup xs)) : PrX (upd H p o) rs ps := Paired.mapP r fun t q e => by
  rw [upd_ne (fun z => h _ (z ▸ e))]
  exact e
theorem PrX.same {H H1 : Hp} {rs : List Addr} {ps : List (Int × Int)} (r : PrX H rs ps) (h : Same H H1) : PrX H1 rs ps := Paired.mapP r fun t q e => h _ _ e
theorem paired_mem {α β : Type} {F : α → β → Prop} : ∀ {xs : List α} {ys : List β}, Paired F xs ys → ∀ {x : α}, x ∈ xs → ∃ y, y ∈ ys ∧ F x y
  | _, _, .nil, x, hx => nomatch hx
  | _, _, .cons h t, x, hx => by
    rcases List.mem_cons.mp hx with e | hx
    · rw [e]
      exact ⟨_, List.mem_cons_self, h⟩
    · obtain ⟨y, hy, f⟩ := paired_mem t hx
      exact ⟨y, List.mem_cons_of_mem _ hy, f⟩
/-- the pair that a value is -/
def kOf (H : Hp) (x : V) : Int × Int := match x with
  | .ref t => match H t with
    | some (.tup [.int i, .int j]) => (i, j)
    | _ => (0, 0)
  | _ => (0, 0)
theorem kOf_at {H : Hp} {t : Addr} {i j : Int} (h : H t = some (.tup [.int i, .int j])) : kOf H (.ref t) = (i, j) := by simp [kOf, h]
theorem PrX.kOf {H : Hp} : ∀ {rs : List Addr} {ps : List (Int × Int)}, PrX H rs ps → (rs.map V.ref).map (kOf H) = ps
  | _, _, .nil => rfl
  | _, _, .cons h t => by
    rw [List.map_cons, List.map_cons, kOf_at h, PrX.kOf t]
theorem prX_of {H : Hp} : ∀ {ys : List V}, (∀ x ∈ ys, ∃ t, x = V.ref t ∧ H t = some (.tup [.int (kOf H x).1, .int (kOf H x).2])) → ∃ rs, ys = rs.map V.ref ∧ PrX H rs (ys.map (kOf H))
  | [], _ => ⟨[], rfl, .nil⟩
  | y :: ys, h => by
    obtain ⟨rs, e, r⟩ := prX_of (ys := ys) fun x hx => h x (List.mem_cons_of_mem _ hx)
    obtain ⟨t, et, ht⟩ := h y List.mem_cons_self
    exact ⟨t :: rs, by rw [e, et]; rfl, .cons ht r⟩
theorem PrX.prT {H : Hp} {rs : List Addr} {ps : List (Int × Int)} (r : PrX H rs ps) : PrT H rs (ps.map fun p => (V.int p.1, V.int p.2)) := by
  induction r with
  | nil => exact .nil
  | cons h t ih => exact .cons (.inl h) ih
theorem srtd_lin {k : V → Int × Int} : ∀ {ys : List V}, SrtO.Srtd (ltP k) ys → ((ys.map k).map (·.1)).Nodup → (ys.map k).Pairwise (fun p q => p.1 < q.1)
  | [], _, _ => .nil
  | y :: ys, h, hn => by
    have h' := List.pairwise_cons.mp h
    rw [List.map_cons, List.map_cons, List.nodup_cons] at hn
    rw [List.map_cons]
    refine List.pairwise_cons.mpr ⟨fun q hq => ?_, srtd_lin h'.2 hn.2⟩
    obtain ⟨x, hx, e⟩ := List.mem_map.mp hq
    have lo := SrtO.lexB_no.mp (h'.1 x hx)
    have ne : (k y).1 ≠ (k x).1 := fun z => hn.1 (by rw [z]; exact List.mem_map.mpr ⟨k x, List.mem_map.mpr ⟨x, hx, rfl⟩, rfl⟩)
    rw [← e]
    omega
section
variable {P : Program} {w : World} {K : PySem.W.Frag} {mg : Str → Option Value} {base : Heap}
/-! ### linear_of -/
def spLinearOf : Sp := fun vs H Q _ => ∃ (a : Addr) (c : Int) (l : List (Int × Int)), vs = [.int c, .ref a] ∧ H a = some (.dK (encK l)) ∧ (l.map (·.1)).Nodup ∧ l.length ≤ 1000 ∧
  ∀ H' v ts, Fr [] H H' → LinV H' (c, ts) v → IsLin ts → (∀ x, look ts x = look l x) → Q v H'
theorem sc_linear_of : FnScope ["constant", "terms", "atom"] ["constant", "terms"] (defScope s_linear_of) := ⟨rfl, rfl, rfl, by decide +kernel, rfl, by decide +kernel, by decide +kernel⟩
theorem ok_linear_of {f : Addr} {fd : FuncData} (B : Bl mg) (F : Fun K "linear_of" "linear_of" s_linear_of f fd) : FnOk P w K mg base CX0 1 f fd ["constant", "terms"] spLinearOf := by
  refine F.ok sc_linear_of (fun vs H Q E h => ?_) (fun cdv A outer s H vs Q E hr h => ?_)
  · obtain ⟨a, c, l, rfl, _⟩ := h
    rfl
  obtain ⟨a, c, l, rfl, ha, nl, zl, k⟩ := h
  have hu := hr.units
  refine ⟨_, (pss_one (ps_ret (pe_tup (pa_cons (pv 0) (pa_cons (pe_callTy call_tupleF rfl B.tuple b_tuple (pa_cons (pe_callB cr_sortedPO rfl B.sorted b_sorted (pa_cons (pe_lock (pe_lc (own := [("atom", 2)]) rfl sc_linear_of.nd (pi_keys (pv 1)) (blkOk_by (N := ["constant", "terms", "atom"]) (sc := defScope s_linear_of) (by decide +kernel)) (fun _ _ _ _ _ => (pg_name (i := 2) sc_linear_of.nd rfl (Or.inl rfl))) (fun _ _ _ _ _ => (pts_one (pt_cmpR op_ne (xe_get (P := P) (w := w) (pv 1) (pv 2) (fun _ _ => rfl) hu) pe_int (nomark _)))) (fun _ _ _ _ _ => (pe_tup (pa_cons (pv 2) (pa_cons (xe_get (P := P) (w := w) (pv 1) (pv 2) (fun _ _ => rfl) hu) pa_nil)))))) pa_nil)) pa_nil)) pa_nil))))), ?_⟩
  refine ⟨_, rfl, ?_⟩
  -- the pairs
  refine ⟨a, .dK (encK l), ha, True.intro, fun od => ?_⟩
  refine ⟨_, rfl, a, od, rfl, .inl ⟨_, upd_same, ?_⟩⟩
  intro D hD
  have ne : D ≠ a := fun e => by rw [e, upd_same] at hD; cases hD
  refine lc_it walk_keys (fun i H' => Same (upd H a (.frz od (.dK (encK l)))) H' ∧ ∃ rs, H' D = some (.lst (rs.map V.ref)) ∧ PrX H' rs ((l.take i).filter fun p => decide (p.2 ≠ 0)))
    ⟨fun b u e => by rw [upd_ne (ne_of_none e hD)]; exact e, [], upd_same, .nil⟩ (fun i H' _ e => e.1 _ _ upd_same) (fun i x H1 H' hi e y => ?_) (fun H' e => ?_)
  · obtain ⟨s1, rs, eD, r⟩ := e
    obtain ⟨rfl, kk, v, hk, rfl⟩ := y
    rw [encK_len] at hi
    rw [encK_get, List.getElem?_eq_getElem hi] at hk
    cases hk
    have hm : l[i] ∈ l := List.getElem_mem hi
    have hv : valV (encK l) (Sum.inl l[i].1) = some (V.int l[i].2) := by rw [encK_val, at_mem nl hm]; rfl
    have hA : H' a = some (.frz od (.dK (encK l))) := s1 _ _ upd_same
    have hG : GG P w H' a (kV (Sum.inl l[i].1)) (some (V.int l[i].2)) := .inl (.inl ⟨encK l, Sum.inl l[i].1, .inr ⟨od, hA⟩, rfl, hv.symm⟩)
    refine ⟨rfl, _, rfl, _, rfl, a, _, rfl, hG, rfl, _, rfl, ?_⟩
    refine ite2 (fun q => ?_) (fun q => ?_)
    · have q' : l[i].2 ≠ 0 := fun z => by simp [z] at q
      refine ⟨_, rfl, _, rfl, _, rfl, a, _, rfl, hG, (by show 2 ≤ sizeLine; decide), fun t ht => ?_⟩
      have tD : D ≠ t := ne_of_none eD ht
      refine ⟨rs.map V.ref, by rw [upd_ne tD]; exact eD, ?_, fun b u e => ?_, rs ++ [t], ?_, ?_⟩
      · refine small_line ?_
        have := List.length_filter_le (fun p : Int × Int => decide (p.2 ≠ 0)) (l.take i)
        have q2 := Paired.length r
        simp at this q2 ⊢
        omega
      · have e1 := s1 b u e
        rw [upd_ne (fun z => by rw [z, eD] at e1; rw [z, hD] at e; cases e), upd_ne (ne_of_none e1 ht)]
        exact e1
      · rw [upd_same, List.map_append]
        rfl
      · have e2 : (l.take (i + 1)).filter (fun p => decide (p.2 ≠ 0)) = ((l.take i).filter fun p => decide (p.2 ≠ 0)) ++ [l[i]] := by
          rw [List.take_succ_eq_append_getElem hi, List.filter_append]
          simp [q']
        rw [e2]
        refine Paired.snoc (PrX.up (PrX.up r fun xs z => by rw [ht] at z; cases z) fun xs z => by rw [upd_ne tD, eD] at z; cases z) ?_
        rw [upd_ne tD.symm, upd_same]
        rfl
    · have q' : ¬ l[i].2 ≠ 0 := fun z => q (by simp [z])
      refine ⟨s1, rs, eD, ?_⟩
      have e2 : (l.take (i + 1)).filter (fun p => decide (p.2 ≠ 0)) = (l.take i).filter fun p => decide (p.2 ≠ 0) := by
        rw [List.take_succ_eq_append_getElem hi, List.filter_append]
        simp at q'
        simp [q']
      rw [e2]
      exact r
  · obtain ⟨s1, rs, eD, r⟩ := e
    rw [encK_len, List.take_length] at r
    have hA : H' a = some (.frz od (.dK (encK l))) := s1 _ _ upd_same
    refine ⟨hA, ?_⟩
    have r1 : PrX (upd H' a (.dK (encK l))) rs (l.filter fun p => decide (p.2 ≠ 0)) := r.up fun xs z => by rw [hA] at z; cases z
    have s2 : Same H (upd H' a (.dK (encK l))) := fun b u e => by
      by_cases q : b = a
      · subst q
        rw [upd_same, ← ha]
        exact e.symm ▸ rfl
      · rw [upd_ne q]
        exact s1 b u (by rw [upd_ne q]; exact e)
    have eD2 : upd H' a (.dK (encK l)) D = some (.lst (rs.map V.ref)) := by rw [upd_ne ne]; exact eD
    generalize upd H' a (.dK (encK l)) = H2 at *
    refine ⟨D, rs.map V.ref, kOf H2, rfl, SqL.of eD2, fun x hx => ?_, fun ys p hs hb hp => ?_⟩
    · obtain ⟨t, ht, e⟩ := List.mem_map.mp hx
      obtain ⟨q, e2, e3⟩ := paired_mem r1 ht
      subst e
      exact ⟨t, rfl, by rw [kOf_at e3]; exact e3⟩
    · -- tuple(sorted)
      refine ⟨p, ys, rfl, SqL.of upd_same, fun t o ht po => ?_⟩
      have tp : t ≠ p := fun e => by rw [e, upd_same] at ht; cases ht
      rw [upd_ne tp] at ht
      refine ⟨(by show 2 ≤ sizeLine; decide), fun p2 hp2 => ?_⟩
      have p2t : p2 ≠ t := fun e => by rw [e, upd_same] at hp2; cases hp2
      rw [upd_ne p2t] at hp2
      have p2p : p2 ≠ p := fun e => by rw [e, upd_same] at hp2; cases hp2
      rw [upd_ne p2p] at hp2
      have hx : ∀ x ∈ ys, ∃ t, x = V.ref t ∧ H2 t = some (.tup [.int (kOf H2 x).1, .int (kOf H2 x).2]) := fun x hx => by
        have hx := hb.perm.mem_iff.mp hx
        obtain ⟨t, ht, e⟩ := List.mem_map.mp hx
        obtain ⟨q, e2, e3⟩ := paired_mem r1 ht
        subst e
        exact ⟨t, rfl, by rw [kOf_at e3]; exact e3⟩
      obtain ⟨rs', ey, ry⟩ := prX_of hx
      have pm : (ys.map (kOf H2)).Perm (l.filter fun p => decide (p.2 ≠ 0)) := by
        rw [← PrX.kOf r1]
        exact hb.perm.map _
      have nf : ((l.filter fun p => decide (p.2 ≠ 0)).map (·.1)).Nodup := nl.sublist (List.Sublist.map _ List.filter_sublist)
      have ny : ((ys.map (kOf H2)).map (·.1)).Nodup := (pm.map _).nodup_iff.mpr nf
      have sS : Same H2 (upd (upd (upd H2 p (.lst ys)) t (.frz o (.tup ys))) p2 (.tup [.int c, .ref t])) := fun b u e => by
        rw [upd_ne (ne_of_none e hp2), upd_ne (ne_of_none e ht), upd_ne (ne_of_none e hp)]
        exact e
      refine k _ _ (ys.map (kOf H2)) (Fr.same (s2.trans sS)) ⟨p2, t, rs', rfl, .inl upd_same, ⟨o, ?_, po⟩, (ry.same sS).prT⟩ ⟨srtd_lin hs ny, fun q hq => ?_⟩ fun x => ?_
      · rw [upd_ne p2t.symm, upd_same, ey]
      · have := (List.mem_filter.mp (pm.mem_iff.mp hq)).2
        simpa using this
      · rw [look_perm pm ny, look_filter x nl]
end
end R60

set_option Elab.async false
set_option linter.all false
set_option maxRecDepth 100000
set_option maxHeartbeats 4000000
namespace R60
open PySem PySem.Spec PyProof.Rows L2 M60
/-- what is_sum answers -/
def isR (op : Str) (n : Int) : Bool := if inV (.str op) [.str "add", .str "sub"] = true then decide (V.int n = V.int 2) else if decide (V.str op = V.str "neg") = true then decide (V.int n = V.int 1) else Txt.isdigit op && decide (V.int n = V.int 0)
def menu : List Str := ["add", "sub", "neg", "7", "0", "f", "g", "h", "k"]
theorem dg7 : Txt.isdigit "7" = true := by decide +kernel
theorem dg0 : Txt.isdigit "0" = true := by decide +kernel
theorem dgf : Txt.isdigit "f" = false := by decide +kernel
theorem dgg : Txt.isdigit "g" = false := by decide +kernel
theorem dgh : Txt.isdigit "h" = false := by decide +kernel
theorem dgk : Txt.isdigit "k" = false := by decide +kernel
theorem isR_real {op : Str} (h : op ∈ menu) (Ls : List Lin) : isR op (Ls.length : Int) = (real op Ls).isSome := by
  unfold menu at h
  simp only [List.mem_cons, List.not_mem_nil, or_false] at h
  have n3 : ∀ (k : Nat) (m : Int), m ≤ 2 → decide (V.int ((k + 3 : Nat) : Int) = V.int m) = false := fun k m hm => decide_eq_false fun e => by
    have := V.int.inj e
    omega
  match Ls with
  | [] => rcases h with rfl | rfl | rfl | rfl | rfl | rfl | rfl | rfl | rfl <;> (unfold isR; first | rfl | (rw [dg7]; rfl) | (rw [dg0]; rfl) | (rw [dgf]; rfl) | (rw [dgg]; rfl) | (rw [dgh]; rfl) | (rw [dgk]; rfl))
  | [a] => rcases h with rfl | rfl | rfl | rfl | rfl | rfl | rfl | rfl | rfl <;> (unfold isR; first | rfl | (rw [dg7]; rfl) | (rw [dg0]; rfl) | (rw [dgf]; rfl) | (rw [dgg]; rfl) | (rw [dgh]; rfl) | (rw [dgk]; rfl))
  | [a, b] => rcases h with rfl | rfl | rfl | rfl | rfl | rfl | rfl | rfl | rfl <;> (unfold isR; first | rfl | (rw [dg7]; rfl) | (rw [dg0]; rfl) | (rw [dgf]; rfl) | (rw [dgg]; rfl) | (rw [dgh]; rfl) | (rw [dgk]; rfl))
  | a :: b :: c :: r =>
    have e : (((a :: b :: c :: r).length : Nat) : Int) = ((r.length + 3 : Nat) : Int) := rfl
    rw [e]
    unfold isR
    rw [n3 _ 2 (by decide), n3 _ 1 (by decide), n3 _ 0 (by decide)]
    rcases h with rfl | rfl | rfl | rfl | rfl | rfl | rfl | rfl | rfl <;> first | rfl | (rw [dg7]; rfl) | (rw [dg0]; rfl) | (rw [dgf]; rfl) | (rw [dgg]; rfl) | (rw [dgh]; rfl) | (rw [dgk]; rfl)
section
variable {P : Program} {w : World} {K : PySem.W.Frag} {mg : Str → Option Value} {base : Heap}
/-! ### is_sum -/
def spIsSum : Sp := fun vs H Q _ => ∃ (op : Str) (n : Int), vs = [.str op, .int n] ∧ ∀ H', Fr [] H H' → Q (.bl (isR op n)) H'
theorem sc_is_sum : FnScope ["op", "many"] ["op", "many"] (defScope s_is_sum) := ⟨rfl, rfl, rfl, by decide +kernel, rfl, by decide +kernel, by decide +kernel⟩
theorem ok_is_sum {f : Addr} {fd : FuncData} (F : Fun K "is_sum" "is_sum" s_is_sum f fd) : FnOk P w K mg base CX0 1 f fd ["op", "many"] spIsSum := by
  refine F.ok sc_is_sum (fun vs H Q E h => ?_) (fun cdv A outer s H vs Q E hr h => ?_)
  · obtain ⟨op, n, rfl, _⟩ := h
    rfl
  obtain ⟨op, n, rfl, k⟩ := h
  refine ⟨_, (pss_cons (ps_if (pt_cmpR op_in_seq (pv 0) (pe_tup (pa_cons pe_str (pa_cons pe_str pa_nil))) rfl)
      (pss_one (ps_ret (pe_cmpR op_eq (pv 1) pe_int (nomark _))))
      pss_nil)
    (pss_one (ps_ret (pe_ifExp (pt_cmpR op_eq (pv 0) pe_str (nomark _)) (pe_cmpR op_eq (pv 1) pe_int (nomark _)) (pe_and (pe_bm0 PySem.F.plainAttrs_str PySem.F.slot_str_isdigit PySem.F.type_str_isdigit mt_isdigit (pv 0)) (pe_one (pe_cmpR op_eq (pv 1) pe_int (nomark _)))))))), ?_⟩
  refine ⟨_, rfl, (by show 2 ≤ sizeLine; decide), fun p hp => ?_⟩
  have kk := k (upd H p (.tup [.str "add", .str "sub"])) (Fr.new hp)
  unfold isR at kk
  refine ⟨p, _, rfl, .inr (SqT.of upd_same), rfl, rfl, _, rfl, ?_⟩
  refine ite2 (fun c => ?_) (fun c => ?_)
  · rw [if_pos (show inV (.str op) [.str "add", .str "sub"] = true from c)] at kk
    exact ⟨_, rfl, rfl, kk⟩
  · rw [if_neg (show ¬ inV (.str op) [.str "add", .str "sub"] = true from c)] at kk
    refine ⟨_, rfl, rfl, _, rfl, ?_⟩
    refine ite2 (fun c2 => ?_) (fun c2 => ?_)
    · rw [if_pos c2] at kk
      exact ⟨_, rfl, rfl, kk⟩
    · rw [if_neg c2] at kk
      refine ⟨_, rfl, rfl, op, rfl, rfl, trivial, _, rfl, ?_⟩
      cases q : Txt.isdigit op with
      | false =>
        rw [q] at kk
        refine iteF ?_
        exact kk
      | true =>
        rw [q] at kk
        refine iteT ?_
        exact ⟨_, rfl, rfl, kk⟩
/-! ### sum_linear -/
abbrev LinVs (H : Hp) : List Lin → List V → Prop := Paired (LinV H)
def spSumLinear : Sp := fun vs H Q _ => ∃ (op : Str) (a : Addr) (us : List V) (Ls : List Lin) (L : Lin), vs = [.str op, .ref a] ∧ Rd H a (.tup us) ∧ LinVs H Ls us ∧ real op Ls = some L ∧ (∀ M ∈ Ls, IsLin M.2 ∧ M.2.length ≤ 100) ∧
  ∀ H' v, Fr [] H H' → LinV H' L v → Q v H'
theorem merge_encK : ∀ (l acc : List (Int × Int)), ((acc ++ l).map (·.1)).Nodup → mergeK (encK acc) (encK l) = encK (acc ++ l)
  | [], acc, _ => by
    rw [List.append_nil]
    rfl
  | p :: l, acc, h => by
    show mergeK (putK (encK acc) (Sum.inl p.1) (V.int p.2)) (encK l) = _
    have ha : p.1 ∉ acc.map (·.1) := fun m => by
      rw [List.map_append] at h
      exact (List.nodup_append.mp h).2.2 _ m p.1 (by rw [List.map_cons]; exact List.mem_cons_self) rfl
    rw [encK_put, put_new ha, merge_encK l (acc ++ [(p.1, p.2)]) (by rw [List.append_assoc]; exact h), List.append_assoc]
    rfl
theorem merge_encK0 {l : List (Int × Int)} (h : (l.map (·.1)).Nodup) : mergeK [] (encK l) = encK l := merge_encK l [] h
theorem encK_prT {H : Hp} {rs : List Addr} {l : List (Int × Int)} (r : PrT H rs (l.map fun p => (V.int p.1, V.int p.2))) : PrT H rs ((encK l).map fun p => (kV p.1, p.2)) := by
  have e : (encK l).map (fun p => (kV p.1, p.2)) = l.map fun p => (V.int p.1, V.int p.2) := by
    unfold encK
    rw [List.map_map]
    rfl
  rw [e]
  exact r
theorem real_cases {op : Str} {Ls : List Lin} {L : Lin} (h : real op Ls = some L) : (op = "add" ∧ ∃ a b, Ls = [a, b] ∧ L = (a.1 + b.1, addL a.2 b.2)) ∨ (op = "sub" ∧ ∃ a b, Ls = [a, b] ∧ L = (a.1 - b.1, addL a.2 (negL b.2))) ∨
    (op = "neg" ∧ ∃ a, Ls = [a] ∧ L = (-a.1, negL a.2)) ∨ (op = "7" ∧ Ls = [] ∧ L = (7, [])) ∨ (op = "0" ∧ Ls = [] ∧ L = (0, [])) := by
  unfold real at h
  repeat' split at h
  all_goals first | (cases h; done) | skip
  all_goals (have e' := Option.some.inj h; subst e')
  · exact .inl ⟨by assumption, _, _, rfl, rfl⟩
  · exact .inr (.inl ⟨by assumption, _, _, rfl, rfl⟩)
  · exact .inr (.inr (.inl ⟨by assumption, _, rfl, rfl⟩))
  · exact .inr (.inr (.inr (.inl ⟨by assumption, rfl, rfl⟩)))
  · exact .inr (.inr (.inr (.inr ⟨by assumption, rfl, rfl⟩)))
theorem it7 : PySem.intText? "7" = some 7 := by decide +kernel
theorem it0 : PySem.intText? "0" = some 0 := by decide +kernel
theorem sn {x y : Str} (h : x ≠ y) : ¬ decide (V.str x = V.str y) = true := fun e => h (V.str.inj (of_decide_eq_true e))
theorem se (x : Str) : decide (V.str x = V.str x) = true := decide_eq_true rfl
theorem paired_nil {α β : Type} {F : α → β → Prop} {xs : List α} (h : Paired F xs ([] : List β)) : xs = [] := by
  cases h
  rfl
theorem sc_sum_linear : FnScope ["op", "parts", "one", "sign", "other"] ["op", "parts"] (defScope s_sum_linear) := ⟨rfl, rfl, rfl, by decide +kernel, rfl, by decide +kernel, by decide +kernel⟩
theorem ok_sum_linear {f f1 f2 f3 : Addr} {fd fd1 fd2 fd3 : FuncData} (B : Bl mg) (F : Fun K "sum_linear" "sum_linear" s_sum_linear f fd) (Dlinear_of : Df P w K mg base 1 "linear_of" f1 fd1 ["constant", "terms"] spLinearOf)
    (Dscaled : Df P w K mg base 1 "scaled" f2 fd2 ["one", "factor"] spScaled) (Dadded : Df P w K mg base 1 "added" f3 fd3 ["one", "other"] spAdded) : FnOk P w K mg base CX0 2 f fd ["op", "parts"] spSumLinear := by
  refine F.ok sc_sum_linear (fun vs H Q E h => ?_) (fun cdv A outer s H vs Q E hr h => ?_)
  · obtain ⟨op, a, us, Ls, L, rfl, _⟩ := h
    rfl
  obtain ⟨op, a, us, Ls, L, rfl, ha, hL, hR, hok, k⟩ := h
  refine ⟨_, (pss_cons (ps_if (pt_cmpR op_eq (pe_callB call_len rfl B.len b_len (pa_cons (pv 1) pa_nil)) pe_int (nomark _))
      (pss_one (ps_ret (pe_tup (pa_cons (pe_callTy call_int_str rfl B.int b_int (pa_cons (pv 0) pa_nil)) (pa_cons (pe_tupF pa_nil) pa_nil)))))
      pss_nil)
    (pss_cons (ps_set (i := 2) sc_sum_linear.nd rfl (Or.inl rfl) (pe_ix ix_tup (pv 1) pe_int (fun _ _ => rfl)))
    (pss_cons (ps_if (pt_cmpR op_eq (pv 0) pe_str (nomark _))
      (pss_one (ps_ret (pe_call Dlinear_of.ok hr rfl Dlinear_of.gx Dlinear_of.kp Dlinear_of.b .nil pass0 (pa_cons (pe_un un_neg (pe_ix ix_tup (pv 2) pe_int (fun _ _ => rfl))) (pa_cons (pe_call Dscaled.ok hr rfl Dscaled.gx Dscaled.kp Dscaled.b .nil pass0 (pa_cons (pe_callTy (call_dictT rfl) rfl B.dict b_dict (pa_cons (pe_ix ix_tup (pv 2) pe_int (fun _ _ => rfl)) pa_nil)) (pa_cons (pe_un un_neg pe_int) pa_nil))) pa_nil)))))
      pss_nil)
    (pss_cons (ps_set (i := 3) sc_sum_linear.nd rfl (Or.inl rfl) (pe_ifExp (pt_cmpR op_eq (pv 0) pe_str (nomark _)) pe_int (pe_un un_neg pe_int)))
    (pss_cons (ps_set (i := 4) sc_sum_linear.nd rfl (Or.inl rfl) (pe_ix ix_tup (pv 1) pe_int (fun _ _ => rfl)))
    (pss_one (ps_ret (pe_call Dlinear_of.ok hr rfl Dlinear_of.gx Dlinear_of.kp Dlinear_of.b .nil pass0 (pa_cons (pe_op op_add (pe_ix ix_tup (pv 2) pe_int (fun _ _ => rfl)) (pe_op op_mul (pv 3) (pe_ix ix_tup (pv 4) pe_int (fun _ _ => rfl)))) (pa_cons (pe_call Dadded.ok hr rfl Dadded.gx Dadded.kp Dadded.b .nil pass0 (pa_cons (pe_callTy (call_dictT rfl) rfl B.dict b_dict (pa_cons (pe_ix ix_tup (pv 2) pe_int (fun _ _ => rfl)) pa_nil)) (pa_cons (pe_call Dscaled.ok hr rfl Dscaled.gx Dscaled.kp Dscaled.b .nil pass0 (pa_cons (pe_callTy (call_dictT rfl) rfl B.dict b_dict (pa_cons (pe_ix ix_tup (pv 4) pe_int (fun _ _ => rfl)) pa_nil)) (pa_cons (pv 3) pa_nil))) pa_nil))) pa_nil)))))))))), ?_⟩
  have hlen := Paired.length hL
  -- if len(parts) == 0
  refine ⟨_, rfl, _, us.length, rfl, .inr ⟨us, .inl ha, rfl⟩, rfl, _, rfl, ?_⟩
  have c0 : us.length = 0 ∨ us.length ≠ 0 := by omega
  have one : ∀ {H' : Hp} {L : Lin} {v : V}, LinV H' L v → IsLin L.2 → L.2.length ≤ 100 → ∃ a t rs, v = .ref a ∧ Rd H' a (.tup [.int L.1, .ref t]) ∧ TF H' t (rs.map V.ref) ∧ PrT H' rs ((encK L.2).map fun p => (kV p.1, p.2)) ∧ mergeK [] (encK L.2) = encK L.2 ∧ (L.2.map (·.1)).Nodup ∧ L.2.length ≤ 1000 := by
    rintro H' L v ⟨a, t, rs, e1, e2, e3, e4⟩ i z
    exact ⟨a, t, rs, e1, e2, e3, encK_prT e4, merge_encK0 i.nodup, i.nodup, by omega⟩
  refine ite2 (fun c => ?_) (fun c => ?_)
  · have us0 : us = [] := by
      have e : (us.length : Int) = 0 := V.int.inj (of_decide_eq_true c)
      exact List.eq_nil_of_length_eq_zero (by omega)
    subst us0
    have l0 := paired_nil hL
    subst l0
    have fin : ∀ (n : Int), PySem.intText? op = some n → op.length ≤ 640 → L = (n, []) → tRet (tTup (tCons (tCB (fun xs H Q => ∃ a n, xs = [.str a] ∧ PySem.intText? a = some n ∧ a.length ≤ 640 ∧ Q (.int n) H) (tCons (tVar 0) tNil)) (tCons (tTupF tNil) tNil)))
        { nx := fun _ _ => False, rt := Q } (L2.start ["op", "parts", "one", "sign", "other"] [V.str op, V.ref a]) H := fun n h1 h2 h3 => by
      refine ⟨_, rfl, op, n, rfl, h1, h2, (by show 0 ≤ sizeLine; decide), fun t o ht po => ⟨(by show 2 ≤ sizeLine; decide), fun p hp => ?_⟩⟩
      have pt : p ≠ t := fun e => by rw [e, upd_same] at hp; cases hp
      rw [upd_ne pt] at hp
      refine k _ _ ((Fr.new ht).trans (Fr.new (by rw [upd_ne pt]; exact hp))) ?_
      rw [h3]
      exact ⟨p, t, [], rfl, .inl upd_same, ⟨o, by rw [upd_ne pt.symm, upd_same]; rfl, po⟩, .nil⟩
    rcases real_cases hR with ⟨_, x, y, e, _⟩ | ⟨_, x, y, e, _⟩ | ⟨_, x, e, _⟩ | ⟨rfl, _, e⟩ | ⟨rfl, _, e⟩
    · cases e
    · cases e
    · cases e
    · exact fin 7 it7 (by decide) e
    · exact fin 0 it0 (by decide) e
  · have un : us.length ≠ 0 := fun z => c (by rw [z]; rfl)
    rcases real_cases hR with ⟨rfl, x, y, rfl, rfl⟩ | ⟨rfl, x, y, rfl, rfl⟩ | ⟨rfl, x, rfl, rfl⟩ | ⟨_, rfl, _⟩ | ⟨_, rfl, _⟩
    · obtain ⟨vx, vy, rfl, hx, hy⟩ : ∃ vx vy, us = [vx, vy] ∧ LinV H x vx ∧ LinV H y vy := by
        cases hL with
        | cons h1 t1 =>
          cases t1 with
          | cons h2 t2 =>
            cases t2
            exact ⟨_, _, rfl, h1, h2⟩
      obtain ⟨ax, tx, rx, rfl, x1, x2, x3, x4, x5, x6⟩ := one hx (hok x (by simp)).1 (hok x (by simp)).2
      obtain ⟨ay, ty, ry, rfl, y1, y2, y3, y4, y5, y6⟩ := one hy (hok y (by simp)).1 (hok y (by simp)).2
      -- one = parts[0]; if op == 'neg'; sign; other
      refine ⟨_, rfl, a, _, 0, _, rfl, rfl, .inl ha, atI_nat rfl, ?_⟩
      refine ⟨_, rfl, rfl, _, rfl, ?_⟩
      refine ite2 (fun z => absurd z (sn (by decide))) (fun _ => ?_)
      refine ⟨_, rfl, rfl, _, rfl, ?_⟩
      refine ite2 (fun _ => ?_) (fun z => absurd (se _) z)
      refine ⟨_, rfl, a, _, 1, _, rfl, rfl, .inl ha, atI_nat (j := 1) rfl, ?_⟩
      -- linear_of(one[0] + sign * other[0], ..
      refine ⟨_, rfl, ax, _, 0, _, rfl, rfl, .inl x1, atI_nat rfl, _, rfl, _, rfl, ay, _, 0, _, rfl, rfl, .inl y1, atI_nat rfl, _, _, rfl, rfl, .inl (by decide), _, _, rfl, rfl, ?_⟩
      -- dict(one[1])
      refine ⟨_, rfl, ax, _, 1, _, rfl, rfl, .inl x1, atI_nat (j := 1) rfl, tx, rx, encK x.2, rfl, x2, x3, fun p1 n1 => ?_⟩
      rw [x4]
      -- scaled(dict(other[1]), sign)
      have g1 : Fr [] H (upd H p1 (.dK (encK x.2))) := Fr.new n1
      refine ⟨_, rfl, ay, _, 1, _, rfl, rfl, .inl (g1.tups _ _ y1), atI_nat (j := 1) rfl, ty, ry, encK y.2, rfl, y2.kp g1, y3.kp g1.tups, fun p2 n2 => ?_⟩
      rw [y4]
      have p21 : p2 ≠ p1 := fun e => by rw [e, upd_same] at n2; cases n2
      refine ⟨_, rfl, p2, y.2, 1, rfl, upd_same, .inl rfl, y5, y6, fun H3 p3 f3 n3 e3 => ?_⟩
      have g2 : Fr [] (upd H p1 (.dK (encK x.2))) H3 := (Fr.new n2).trans f3
      have h1 : H3 p1 = some (.dK (encK x.2)) := g2 _ _ upd_same (.inl (fun h => nomatch h))
      have p31 : p1 ≠ p3 := fun e => by
        rw [← e, upd_ne p21.symm, upd_same] at n3
        cases n3
      -- added
      refine ⟨p1, p3, x.2, y.2.map fun p => (p.1, p.2 * 1), rfl, h1, e3, x5, (by rw [List.map_map]; exact y5), x6, (by rw [List.length_map]; exact y6), fun H4 p4 r f4 n4 e4 nr zr lr hr0 => ?_⟩
      refine ⟨p4, _, r, rfl, e4, nr, (by
        have a1 := (hok x (by simp)).2
        have a2 := (hok y (by simp)).2
        rw [List.length_map] at zr
        omega), fun H5 v ts f5 hv il lk => ?_⟩
      refine k H5 v (((g1.trans g2).trans f4).trans f5) ?_
      have e : ts = addL x.2 y.2 := by
        refine IsLin.uniq il (addL_lin (hok y (by simp)).1) fun z => ?_
        rw [lk, lr, look_addL z (hok x (by simp)).1 (hok y (by simp)).1, look_neg_map]
        omega
      rw [e] at hv
      have e2 : x.1 + 1 * y.1 = x.1 + y.1 := by omega
      have hv2 : LinV H5 (x.1 + 1 * y.1, addL x.2 y.2) v := hv
      rw [e2] at hv2
      exact hv2
    · obtain ⟨vx, vy, rfl, hx, hy⟩ : ∃ vx vy, us = [vx, vy] ∧ LinV H x vx ∧ LinV H y vy := by
        cases hL with
        | cons h1 t1 =>
          cases t1 with
          | cons h2 t2 =>
            cases t2
            exact ⟨_, _, rfl, h1, h2⟩
      obtain ⟨ax, tx, rx, rfl, x1, x2, x3, x4, x5, x6⟩ := one hx (hok x (by simp)).1 (hok x (by simp)).2
      obtain ⟨ay, ty, ry, rfl, y1, y2, y3, y4, y5, y6⟩ := one hy (hok y (by simp)).1 (hok y (by simp)).2
      -- one = parts[0]; if op == 'neg'; sign; other
      refine ⟨_, rfl, a, _, 0, _, rfl, rfl, .inl ha, atI_nat rfl, ?_⟩
      refine ⟨_, rfl, rfl, _, rfl, ?_⟩
      refine ite2 (fun z => absurd z (sn (by decide))) (fun _ => ?_)
      refine ⟨_, rfl, rfl, _, rfl, ?_⟩
      refine ite2 (fun z => absurd z (sn (by decide))) (fun _ => ⟨1, rfl, ?_⟩)
      refine ⟨_, rfl, a, _, 1, _, rfl, rfl, .inl ha, atI_nat (j := 1) rfl, ?_⟩
      -- linear_of(one[0] + sign * other[0], ..
      refine ⟨_, rfl, ax, _, 0, _, rfl, rfl, .inl x1, atI_nat rfl, _, rfl, _, rfl, ay, _, 0, _, rfl, rfl, .inl y1, atI_nat rfl, _, _, rfl, rfl, .inl (by decide), _, _, rfl, rfl, ?_⟩
      -- dict(one[1])
      refine ⟨_, rfl, ax, _, 1, _, rfl, rfl, .inl x1, atI_nat (j := 1) rfl, tx, rx, encK x.2, rfl, x2, x3, fun p1 n1 => ?_⟩
      rw [x4]
      -- scaled(dict(other[1]), sign)
      have g1 : Fr [] H (upd H p1 (.dK (encK x.2))) := Fr.new n1
      refine ⟨_, rfl, ay, _, 1, _, rfl, rfl, .inl (g1.tups _ _ y1), atI_nat (j := 1) rfl, ty, ry, encK y.2, rfl, y2.kp g1, y3.kp g1.tups, fun p2 n2 => ?_⟩
      rw [y4]
      have p21 : p2 ≠ p1 := fun e => by rw [e, upd_same] at n2; cases n2
      refine ⟨_, rfl, p2, y.2, -1, rfl, upd_same, .inr rfl, y5, y6, fun H3 p3 f3 n3 e3 => ?_⟩
      have g2 : Fr [] (upd H p1 (.dK (encK x.2))) H3 := (Fr.new n2).trans f3
      have h1 : H3 p1 = some (.dK (encK x.2)) := g2 _ _ upd_same (.inl (fun h => nomatch h))
      have p31 : p1 ≠ p3 := fun e => by
        rw [← e, upd_ne p21.symm, upd_same] at n3
        cases n3
      -- added
      refine ⟨p1, p3, x.2, y.2.map fun p => (p.1, p.2 * -1), rfl, h1, e3, x5, (by rw [List.map_map]; exact y5), x6, (by rw [List.length_map]; exact y6), fun H4 p4 r f4 n4 e4 nr zr lr hr0 => ?_⟩
      refine ⟨p4, _, r, rfl, e4, nr, (by
        have a1 := (hok x (by simp)).2
        have a2 := (hok y (by simp)).2
        rw [List.length_map] at zr
        omega), fun H5 v ts f5 hv il lk => ?_⟩
      refine k H5 v (((g1.trans g2).trans f4).trans f5) ?_
      have e : ts = addL x.2 (negL y.2) := by
        refine IsLin.uniq il (addL_lin (negL_lin (hok y (by simp)).1)) fun z => ?_
        rw [lk, lr, look_addL z (hok x (by simp)).1 (negL_lin (hok y (by simp)).1), look_neg_map, look_negL]
        omega
      rw [e] at hv
      have e2 : x.1 + -1 * y.1 = x.1 - y.1 := by omega
      have hv2 : LinV H5 (x.1 + -1 * y.1, addL x.2 (negL y.2)) v := hv
      rw [e2] at hv2
      exact hv2
    · obtain ⟨vx, rfl, hx⟩ : ∃ vx, us = [vx] ∧ LinV H x vx := by
        cases hL with
        | cons h1 t1 =>
          cases t1
          exact ⟨_, rfl, h1⟩
      obtain ⟨ax, tx, rx, rfl, x1, x2, x3, x4, x5, x6⟩ := one hx (hok x (by simp)).1 (hok x (by simp)).2
      refine ⟨_, rfl, a, _, 0, _, rfl, rfl, .inl ha, atI_nat rfl, ?_⟩
      refine ⟨_, rfl, rfl, _, rfl, ?_⟩
      refine ite2 (fun _ => ?_) (fun z => absurd (se _) z)
      -- linear_of(-one[0], scaled(dict(one[1]), -1))
      refine ⟨_, rfl, ax, _, 0, _, rfl, rfl, .inl x1, atI_nat rfl, _, rfl, ?_⟩
      refine ⟨_, rfl, ax, _, 1, _, rfl, rfl, .inl x1, atI_nat (j := 1) rfl, tx, rx, encK x.2, rfl, x2, x3, fun p1 n1 => ?_⟩
      rw [x4]
      have g1 : Fr [] H (upd H p1 (.dK (encK x.2))) := Fr.new n1
      refine ⟨1, rfl, p1, x.2, -1, rfl, upd_same, .inr rfl, x5, x6, fun H3 p3 f3 n3 e3 => ?_⟩
      refine ⟨p3, _, _, rfl, e3, (by rw [List.map_map]; exact x5), (by rw [List.length_map]; exact x6), fun H5 v ts f5 hv il lk => ?_⟩
      refine k H5 v ((g1.trans f3).trans f5) ?_
      have e : ts = negL x.2 := IsLin.uniq il (negL_lin (hok x (by simp)).1) fun z => lk z
      rw [e] at hv
      exact hv
    · exact absurd hlen.symm un
    · exact absurd hlen.symm un
end
end R60

set_option Elab.async false
set_option linter.all false
set_option maxRecDepth 100000
set_option maxHeartbeats 4000000
namespace R60
open PySem PySem.Spec PyProof.Rows L2 M60

/-! ### atoms as data, tables of atoms -/
def atomK : Atom → List Dt
  | .letter k => [.text "letter", .tup [.text "read", .num k]]
  | .op o Ls => [.text "op", .text o, .tup (Ls.map linD)]
def atomD (a : Atom) : Dt := .tup (atomK a)
theorem pairD_inj {p q : Int × Int} (h : pairD p = pairD q) : p = q := by
  unfold pairD at h
  injection h with h
  injection h with h1 h2
  injection h2 with h2
  injection h1 with h1
  injection h2 with h2
  exact Prod.ext h1 h2
theorem map_inj {α β : Type} {f : α → β} (hf : ∀ a b, f a = f b → a = b) : ∀ {l m : List α}, l.map f = m.map f → l = m
  | [], [], _ => rfl
  | [], _ :: _, h => by cases h
  | _ :: _, [], h => by cases h
  | a :: l, b :: m, h => by
    rw [List.map_cons, List.map_cons] at h
    injection h with h1 h2
    rw [hf _ _ h1, map_inj hf h2]
theorem linD_inj {L M : Lin} (h : linD L = linD M) : L = M := by
  unfold linD at h
  injection h with h
  injection h with h1 h2
  injection h2 with h2
  injection h1 with h1
  injection h2 with h2
  exact Prod.ext h1 (map_inj (fun _ _ => pairD_inj) h2)
theorem lo_ne : ¬ ("letter" : Str) = "op" := by decide +kernel
theorem atomD_inj {a b : Atom} (h : atomD a = atomD b) : a = b := by
  unfold atomD at h
  injection h with h
  cases a with
  | letter k =>
    cases b with
    | letter j =>
      unfold atomK at h
      injection h with _ h
      injection h with h _
      injection h with h
      injection h with _ h
      injection h with h _
      injection h with h
      rw [h]
    | op o Ls =>
      unfold atomK at h
      injection h with h _
      injection h with h
      exact absurd h lo_ne
  | op o Ls =>
    cases b with
    | letter j =>
      unfold atomK at h
      injection h with h _
      injection h with h
      exact absurd h.symm lo_ne
    | op o' Ls' =>
      unfold atomK at h
      injection h with _ h
      injection h with h1 h
      injection h with h _
      injection h with h
      injection h1 with h1
      rw [h1, map_inj (fun _ _ => linD_inj) h]
theorem depthAll_le {n : Nat} : ∀ {ks : List Dt}, (∀ k ∈ ks, k.depth ≤ n) → NestedKey.depthAll ks ≤ n
  | [], _ => Nat.zero_le _
  | k :: ks, h => by
    show max k.depth (NestedKey.depthAll ks) ≤ n
    exact Nat.max_le.mpr ⟨h k List.mem_cons_self, depthAll_le fun x hx => h x (List.mem_cons_of_mem _ hx)⟩
theorem linD_depth (L : Lin) : (linD L).depth ≤ 3 := by
  have h : NestedKey.depthAll (L.2.map pairD) ≤ 1 := depthAll_le fun k hk => by
    obtain ⟨p, _, e⟩ := List.mem_map.mp hk
    rw [← e]
    exact Nat.le_refl _
  show max 0 (max (NestedKey.depthAll (L.2.map pairD) + 1) 0) + 1 ≤ 3
  omega
theorem atomD_depth (a : Atom) : (NestedKey.tup (atomK a)).depth ≤ 8 := by
  cases a with
  | letter k =>
    show max 0 (max (max 0 (max 0 0) + 1) 0) + 1 ≤ 8
    decide
  | op o Ls =>
    have h : NestedKey.depthAll (Ls.map linD) ≤ 3 := depthAll_le fun k hk => by
      obtain ⟨p, _, e⟩ := List.mem_map.mp hk
      rw [← e]
      exact linD_depth p
    show max 0 (max 0 (max (NestedKey.depthAll (Ls.map linD) + 1) 0)) + 1 ≤ 8
    omega
/-- keys numbered from n -/
def enumF {α : Type} (f : α → Dt) (n : Nat) : List α → List (Dt × V)
  | [] => []
  | a :: T => (f a, .int (n : Int)) :: enumF f (n + 1) T
theorem enumF_len {α : Type} (f : α → Dt) : ∀ (T : List α) (n : Nat), (enumF f n T).length = T.length
  | [], _ => rfl
  | _ :: T, n => by
    show (enumF f (n + 1) T).length + 1 = T.length + 1
    rw [enumF_len f T]
theorem enumF_snoc {α : Type} (f : α → Dt) (a : α) : ∀ (T : List α) (n : Nat), enumF f n (T ++ [a]) = enumF f n T ++ [(f a, .int ((n + T.length : Nat) : Int))]
  | [], n => rfl
  | b :: T, n => by
    have e : n + 1 + T.length = n + (T.length + 1) := by omega
    show (f b, V.int (n : Int)) :: enumF f (n + 1) (T ++ [a]) = (f b, V.int (n : Int)) :: (enumF f (n + 1) T ++ [(f a, .int ((n + (T.length + 1) : Nat) : Int))])
    rw [enumF_snoc f a T (n + 1), e]
theorem enumF_keys {α : Type} (f : α → Dt) : ∀ (T : List α) (n : Nat), (enumF f n T).map (·.1) = T.map f
  | [], _ => rfl
  | a :: T, n => by
    show f a :: (enumF f (n + 1) T).map (·.1) = f a :: T.map f
    rw [enumF_keys f T]
theorem enumF_val {α : Type} [DecidableEq α] {f : α → Dt} (hf : ∀ a b, f a = f b → a = b) (a : α) : ∀ (T : List α) (n : Nat), valV (enumF f n T) (f a) = (T.idxOf? a).map fun i => V.int ((n + i : Nat) : Int)
  | [], _ => rfl
  | b :: T, n => by
    show valV ((f b, V.int (n : Int)) :: enumF f (n + 1) T) (f a) = _
    by_cases e : b = a
    · rw [valV_pos (by rw [e])]
      simp [List.idxOf?_cons, e]
    · rw [valV_neg (fun z => e (hf _ _ z)), enumF_val hf a T (n + 1)]
      rw [List.idxOf?_cons]
      have e' : ¬ (b == a) = true := by simp [e]
      rw [if_neg e']
      cases T.idxOf? a with
      | none => rfl
      | some i =>
        show some (V.int ((n + 1 + i : Nat) : Int)) = some (V.int ((n + (i + 1) : Nat) : Int))
        rw [show n + 1 + i = n + (i + 1) by omega]
theorem pos_idx (a : Atom) : ∀ T : List Atom, T.idxOf? a = pos T a
  | [] => rfl
  | b :: T => by
    rw [List.idxOf?_cons, pos, pos_idx a T]
    by_cases e : b = a
    · simp [e]
    · simp [e]
abbrev enumA (T : List Atom) : List (Dt × V) := enumF atomD 0 T
theorem enumA_val (T : List Atom) (a : Atom) : valV (enumA T) (atomD a) = (pos T a).map fun i => V.int (i : Int) := by
  rw [enumF_val (fun _ _ => atomD_inj) a T 0, pos_idx]
  cases pos T a with
  | none => rfl
  | some i => simp
theorem enumA_put {T : List Atom} {a : Atom} (h : a ∉ T) : putK (enumA T) (atomD a) (.int (T.length : Int)) = enumA (T ++ [a]) := by
  rw [putK_new]
  · show _ = enumF atomD 0 (T ++ [a])
    rw [enumF_snoc]
    simp
  · rw [enumA_val, pos_none.mpr h]
    rfl

/-! ### a SumGraph as it stands -/
structure Cl (K : PySem.W.Frag) (C : Addr) (names : List Str) : Prop where
  cl : Cls K C
  no : ∀ n ∈ names, NoAttr K C n
/-- the table of atoms: the list at la, the numbers at dn -/
structure TabA (w : World) (H : Hp) (la dn : Addr) (T : List Atom) : Prop where
  li : ∃ vs, H la = some (.lst vs) ∧ Reps H (T.map atomD) vs
  nu : DN w H dn (enumA T)
  nd : T.Nodup
  sz : T.length ≤ 1000
theorem TabA.kp {w : World} {H H' : Hp} {S : List Addr} {la dn : Addr} {T : List Atom} (t : TabA w H la dn T) (f : Fr S H H') (h1 : la ∉ S) (h2 : dn ∉ S) : TabA w H' la dn T := by
  obtain ⟨vs, e, r⟩ := t.li
  obtain ⟨o, eo⟩ := t.nu.at
  exact ⟨⟨vs, f _ _ e (.inl h1), r.kp f.tups⟩, t.nu.keep ((f _ _ eo (.inl h2)).trans eo.symm) f.tups, t.nd, t.sz⟩
theorem TabA.ne {w : World} {H : Hp} {la dn : Addr} {T : List Atom} (t : TabA w H la dn T) : la ≠ dn := by
  obtain ⟨vs, e, r⟩ := t.li
  obtain ⟨o, eo⟩ := t.nu.at
  exact ne_of e eo (fun z => by cases z)
def fsS (g la dn dl : Addr) : List (Str × V) := [("graph", .ref g), ("atoms", .ref la), ("numbers", .ref dn), ("linears", .ref dl)]
theorem fsS_g (g la dn dl : Addr) : (fsS g la dn dl).lookup ("graph" : Str) = some (.ref g) := rfl
theorem fsS_a (g la dn dl : Addr) : (fsS g la dn dl).lookup ("atoms" : Str) = some (.ref la) := rfl
theorem fsS_n (g la dn dl : Addr) : (fsS g la dn dl).lookup ("numbers" : Str) = some (.ref dn) := rfl
theorem fsS_l (g la dn dl : Addr) : (fsS g la dn dl).lookup ("linears" : Str) = some (.ref dl) := rfl
/-- names of the attributes and methods -/
abbrev attS : List Str := ["graph", "atoms", "numbers", "linears"]
section
variable {P : Program} {w : World} {K : PySem.W.Frag} {mg : Str → Option Value} {base : Heap}
/-! ### atom_number -/
def spAtomNumber (w : World) (C : Addr) : Sp := fun vs H Q _ => ∃ (p dx g la dn dl : Addr) (v : V) (T : List Atom) (a : Atom), vs = [.ref p, v] ∧ H p = some (.ins C dx (fsS g la dn dl)) ∧ TabA w H la dn T ∧ T.length ≤ 500 ∧ Rep H (atomD a) v ∧
  ∀ H' i, Fr [la, dn] H H' → TabA w H' la dn (addA T a) → pos (addA T a) a = some i → Q (.int (i : Int)) H'
theorem sc_atom_number : FnScope ["self", "told"] ["self", "told"] (defScope (sS 1)) := ⟨rfl, rfl, rfl, by decide +kernel, rfl, by decide +kernel, by decide +kernel⟩
theorem ok_atom_number {f C : Addr} {fd : FuncData} (B : Bl mg) (T : Cl K C attS) (F : Fun K "atom_number" "SumGraph.atom_number" (sS 1) f fd) : FnOk P w K mg base CX0 1 f fd ["self", "told"] (spAtomNumber w C) := by
  refine F.ok sc_atom_number (fun vs H Q E h => ?_) (fun cdv A outer s H vs Q E hr h => ?_)
  · obtain ⟨p, dx, g, la, dn, dl, v, T, a, rfl, _⟩ := h
    rfl
  obtain ⟨p, dx, g, la, dn, dl, v, Tb, a, rfl, hp, hT, hz, hv, k⟩ := h
  have hu := hr.units
  refine ⟨_, (pss_cons (ps_if (pt_cmp (xc_notin (P := P) (w := w) (pv 1) (pe_fld (pv 0) rfl) hu))
      (pss_cons (xs_put (P := P) (w := w) (pe_fld (pv 0) rfl) (pv 1) (pe_callB call_len rfl B.len b_len (pa_cons (pe_fld (pv 0) rfl) pa_nil)) hu rfl)
    (pss_one (ps_expr (pe_bm PySem.F.plainAttrs_list PySem.F.slot_list_append PySem.F.type_list_append mt_append (pe_fld (pv 0) rfl) (pa_cons (pv 1) pa_nil)))))
      pss_nil)
    (pss_one (ps_ret (xe_get (P := P) (w := w) (pe_fld (pv 0) rfl) (pv 1) (fun _ _ => rfl) hu)))), ?_⟩
  have nN := T.no "numbers" (by simp)
  have nA := T.no "atoms" (by simp)
  obtain ⟨us, hl, rl⟩ := hT.li
  -- if told not in self.numbers
  refine ⟨_, rfl, _, rfl, p, C, dx, _, _, rfl, hp, T.cl, nN, fsS_n _ _ _ _, dn, _, rfl, GG.n hT.nu hv (atomD_depth a), _, rfl, ?_⟩
  have ev := enumA_val Tb a
  cases q : pos Tb a with
  | some i =>
    rw [q] at ev
    have ev : valV (enumA Tb) (.tup (atomK a)) = some (V.int (i : Int)) := ev
    rw [ev]
    refine iteF ?_
    refine ⟨_, rfl, p, C, dx, _, _, rfl, hp, T.cl, nN, fsS_n _ _ _ _, _, rfl, dn, _, rfl, ev ▸ GG.n hT.nu hv (atomD_depth a), ?_⟩
    have am : a ∈ Tb := List.mem_of_getElem? (pos_at q)
    exact k H i (Fr.refl _ _) (by rw [addA_old am]; exact hT) (by rw [addA_old am]; exact q)
  | none =>
    rw [q] at ev
    have ev : valV (enumA Tb) (.tup (atomK a)) = none := ev
    rw [ev]
    refine iteT ?_
    have am : a ∉ Tb := pos_none.mp q
    -- self.numbers[told] = len(self.atoms)
    refine ⟨_, rfl, p, C, dx, _, _, rfl, hp, T.cl, nA, fsS_a _ _ _ _, _, us.length, rfl, .inl ⟨us, SqL.of hl, rfl⟩, ?_⟩
    refine ⟨_, rfl, p, C, dx, _, _, rfl, hp, T.cl, nN, fsS_n _ _ _ _, _, rfl, dn, rfl, GP.n hT.nu hv (atomD_depth a) ?_ fun o dnew => ?_⟩
    · refine small_line ?_
      rw [enumF_len]
      omega
    have ne : la ≠ dn := hT.ne
    have hp1 : upd H dn (exo dn o) p = some (.ins C dx (fsS g la dn dl)) := by
      obtain ⟨o0, e0⟩ := hT.nu.at
      rw [upd_ne (ne_of hp e0 (fun z => by cases z))]
      exact hp
    have hl1 : upd H dn (exo dn o) la = some (.lst us) := by rw [upd_ne ne]; exact hl
    have tk : TupK H (upd H dn (exo dn o)) := by
      obtain ⟨o0, e0⟩ := hT.nu.at
      exact (Fr.old (S := [dn]) List.mem_cons_self e0 (fun z => z)).tups
    have hlen : us.length = Tb.length := rl.length.trans (by simp)
    have hT2 : TabA w (upd (upd H dn (exo dn o)) la (.lst (us ++ [v]))) la dn (Tb ++ [a]) := by
      have f2 : Fr [la] (upd H dn (exo dn o)) (upd (upd H dn (exo dn o)) la (.lst (us ++ [v]))) := Fr.old List.mem_cons_self hl1 (fun z => z)
      refine ⟨⟨_, upd_same, ?_⟩, ?_, ?_, ?_⟩
      · rw [List.map_append]
        exact Reps.append (rl.kp (fun b xs h => f2.tups b xs (tk b xs h))) (.cons (hv.kp (fun b xs h => f2.tups b xs (tk b xs h))) .nil)
      · rw [hlen] at dnew
        have dnew2 : DN w (upd H dn (exo dn o)) dn (enumA (Tb ++ [a])) := by
          rw [← enumA_put am]
          exact dnew
        exact dnew2.keep (upd_ne ne.symm) f2.tups
      · have := addA_nodup (a := a) hT.nd
        rw [addA_new am] at this
        exact this
      · rw [List.length_append]
        show Tb.length + 1 ≤ 1000
        omega
    have f3 : Fr [la, dn] H (upd (upd H dn (exo dn o)) la (.lst (us ++ [v]))) := by
      obtain ⟨o0, e0⟩ := hT.nu.at
      exact (Fr.old (by simp) e0 (fun z => z)).trans (Fr.old (by simp) hl1 (fun z => z))
    have hp2 : upd (upd H dn (exo dn o)) la (.lst (us ++ [v])) p = some (.ins C dx (fsS g la dn dl)) := by
      rw [upd_ne (ne_of hp1 hl1 (fun z => by cases z))]
      exact hp1
    refine ⟨_, rfl, p, C, dx, _, _, rfl, hp1, T.cl, nA, fsS_a _ _ _ _, ?_, _, rfl, la, us, v, rfl, rfl, hl1, (small_line (by omega)), ?_⟩
    · exact .inl ⟨rfl, _, SqL.of hl1⟩
    have ev2 : valV (enumA (Tb ++ [a])) (.tup (atomK a)) = some (V.int (Tb.length : Int)) := by
      have := enumA_val (Tb ++ [a]) a
      rw [pos_new am] at this
      exact this
    refine ⟨_, rfl, p, C, dx, _, _, rfl, hp2, T.cl, nN, fsS_n _ _ _ _, _, rfl, dn, _, rfl, ev2 ▸ GG.n hT2.nu (hv.kp f3.tups) (atomD_depth a), ?_⟩
    exact k _ Tb.length f3 (by rw [addA_new am]; exact hT2) (by rw [addA_new am]; exact pos_new am)
end
end R60

set_option Elab.async false
set_option linter.all false
set_option maxRecDepth 100000
set_option maxHeartbeats 4000000
namespace R60
open PySem PySem.Spec PyProof.Rows L2 M60

/-! ### heads -/
inductive Hd where
  | letter (k : Int)
  | op (o : Str) (ps : List Nat)
  deriving DecidableEq
abbrev numN (n : Nat) : Dt := .num (n : Int)
abbrev intN (n : Nat) : V := .int (n : Int)
def rdD (k : Int) : Dt := .tup [.text "read", .num k]
def hdK : Hd → List Dt
  | .letter k => [.text "letter", rdD k]
  | .op o ps => [.text "op", .text o, .tup (ps.map numN)]
def hdD (h : Hd) : Dt := .tup (hdK h)
theorem numN_inj (a b : Nat) (h : numN a = numN b) : a = b := by
  injection h with h
  omega
theorem hdD_inj (a b : Hd) (h : hdD a = hdD b) : a = b := by
  unfold hdD at h
  injection h with h
  cases a with
  | letter k =>
    cases b with
    | letter j =>
      unfold hdK rdD at h
      injection h with _ h
      injection h with h _
      injection h with h
      injection h with _ h
      injection h with h _
      injection h with h
      rw [h]
    | op o Ls =>
      unfold hdK at h
      injection h with h _
      injection h with h
      exact absurd h lo_ne
  | op o Ls =>
    cases b with
    | letter j =>
      unfold hdK at h
      injection h with h _
      injection h with h
      exact absurd h.symm lo_ne
    | op o' Ls' =>
      unfold hdK at h
      injection h with _ h
      injection h with h1 h
      injection h with h _
      injection h with h
      injection h1 with h1
      rw [h1, map_inj numN_inj h]
theorem nums_depth (ps : List Nat) : NestedKey.depthAll (ps.map numN) ≤ 0 := depthAll_le fun k hk => by
  obtain ⟨p, _, e⟩ := List.mem_map.mp hk
  rw [← e]
  exact Nat.le_refl _
theorem hdD_depth (a : Hd) : (NestedKey.tup (hdK a)).depth ≤ 8 := by
  cases a with
  | letter k =>
    show max 0 (max (max 0 (max 0 0) + 1) 0) + 1 ≤ 8
    decide
  | op o Ls =>
    have h := nums_depth Ls
    show max 0 (max 0 (max (NestedKey.depthAll (Ls.map numN) + 1) 0)) + 1 ≤ 8
    omega
def addH (T : List Hd) (a : Hd) : List Hd := if a ∈ T then T else T ++ [a]
theorem addH_old {T : List Hd} {a : Hd} (h : a ∈ T) : addH T a = T := if_pos h
theorem addH_new {T : List Hd} {a : Hd} (h : a ∉ T) : addH T a = T ++ [a] := if_neg h
theorem addH_more (T : List Hd) (a : Hd) : ∃ M, addH T a = T ++ M := by
  by_cases h : a ∈ T
  · exact ⟨[], by rw [addH_old h]; simp⟩
  · exact ⟨[a], addH_new h⟩
theorem addH_len (T : List Hd) (a : Hd) : (addH T a).length ≤ T.length + 1 := by
  by_cases q : a ∈ T
  · rw [addH_old q]; omega
  · rw [addH_new q]; simp
theorem addH_nodup {T : List Hd} {a : Hd} (h : T.Nodup) : (addH T a).Nodup := by
  by_cases q : a ∈ T
  · rw [addH_old q]; exact h
  · rw [addH_new q]
    exact nd_snoc h q
theorem idx_none {α : Type} [DecidableEq α] {a : α} : ∀ {T : List α}, T.idxOf? a = none ↔ a ∉ T
  | [] => by simp
  | b :: T => by
    rw [List.idxOf?_cons]
    by_cases e : b = a
    · simp [e]
    · have e' : ¬ a = b := fun z => e z.symm
      have ih := idx_none (a := a) (T := T)
      simp [e, e'] at ih ⊢
theorem idx_at {α : Type} [DecidableEq α] {a : α} : ∀ {T : List α} {i : Nat}, T.idxOf? a = some i → T[i]? = some a
  | [], i, h => by simp at h
  | b :: T, i, h => by
    rw [List.idxOf?_cons] at h
    by_cases e : b = a
    · simp [e] at h
      rw [← h, e]
      rfl
    · simp [e] at h
      obtain ⟨j, hj, e2⟩ := h
      rw [← e2]
      show T[j]? = some a
      exact idx_at hj
theorem idx_new {α : Type} [DecidableEq α] {a : α} : ∀ {T : List α}, a ∉ T → (T ++ [a]).idxOf? a = some T.length
  | [], _ => by simp [List.idxOf?_cons]
  | b :: T, h => by
    rw [List.mem_cons, not_or] at h
    have e : ¬ b = a := fun z => h.1 z.symm
    rw [List.cons_append, List.idxOf?_cons, idx_new h.2]
    simp [e]
/-- a table of data: the list at la, the numbers at dn -/
structure TabH (f : Hd → Dt) (w : World) (H : Hp) (la dn : Addr) (T : List Hd) : Prop where
  li : ∃ vs, H la = some (.lst vs) ∧ Reps H (T.map f) vs
  nu : DN w H dn (enumF f 0 T)
  nd : T.Nodup
  sz : T.length ≤ 1000
theorem TabH.kp {f : Hd → Dt} {w : World} {H H' : Hp} {S : List Addr} {la dn : Addr} {T : List Hd} (t : TabH f w H la dn T) (fr : Fr S H H') (h1 : la ∉ S) (h2 : dn ∉ S) : TabH f w H' la dn T := by
  obtain ⟨vs, e, r⟩ := t.li
  obtain ⟨o, eo⟩ := t.nu.at
  exact ⟨⟨vs, fr _ _ e (.inl h1), r.kp fr.tups⟩, t.nu.keep ((fr _ _ eo (.inl h2)).trans eo.symm) fr.tups, t.nd, t.sz⟩
theorem TabH.ne {f : Hd → Dt} {w : World} {H : Hp} {la dn : Addr} {T : List Hd} (t : TabH f w H la dn T) : la ≠ dn := by
  obtain ⟨vs, e, r⟩ := t.li
  obtain ⟨o, eo⟩ := t.nu.at
  exact ne_of e eo (fun z => by cases z)
/-- one more: put and append -/
theorem TabH.add {f : Hd → Dt} (hf : ∀ a b, f a = f b → a = b) {w : World} {H : Hp} {la dn : Addr} {T : List Hd} {a : Hd} {us : List V} {v : V} {o : Obj} (t : TabH f w H la dn T) (am : a ∉ T) (hl : H la = some (.lst us)) (rl : Reps H (T.map f) us)
    (hv : Rep H (f a) v) (hz : T.length ≤ 500) (dnew : DN w (upd H dn (exo dn o)) dn (putK (enumF f 0 T) (f a) (V.int (us.length : Int)))) :
    upd H dn (exo dn o) la = some (.lst us) ∧ Fr [la, dn] H (upd (upd H dn (exo dn o)) la (.lst (us ++ [v]))) ∧ TabH f w (upd (upd H dn (exo dn o)) la (.lst (us ++ [v]))) la dn (T ++ [a]) := by
  have ne := t.ne
  obtain ⟨o0, e0⟩ := t.nu.at
  have tk : TupK H (upd H dn (exo dn o)) := (Fr.old (S := [dn]) List.mem_cons_self e0 (fun z => z)).tups
  have hl1 : upd H dn (exo dn o) la = some (.lst us) := by rw [upd_ne ne]; exact hl
  have hlen : us.length = T.length := rl.length.trans (by simp)
  have f2 : Fr [la] (upd H dn (exo dn o)) (upd (upd H dn (exo dn o)) la (.lst (us ++ [v]))) := Fr.old List.mem_cons_self hl1 (fun z => z)
  refine ⟨hl1, (Fr.old (by simp) e0 (fun z => z)).trans (Fr.old (by simp) hl1 (fun z => z)), ⟨_, upd_same, ?_⟩, ?_, nd_snoc t.nd am, ?_⟩
  · rw [List.map_append]
    exact Reps.append (rl.kp (fun b xs h => f2.tups b xs (tk b xs h))) (.cons (hv.kp (fun b xs h => f2.tups b xs (tk b xs h))) .nil)
  · rw [hlen] at dnew
    have e : putK (enumF f 0 T) (f a) (.int (T.length : Int)) = enumF f 0 (T ++ [a]) := by
      rw [putK_new]
      · rw [enumF_snoc]
        simp
      · rw [enumF_val hf, idx_none.mpr am]
        rfl
    rw [e] at dnew
    exact dnew.keep (upd_ne ne.symm) f2.tups
  · rw [List.length_append]
    show T.length + 1 ≤ 1000
    omega
theorem enumH_val {f : Hd → Dt} (hf : ∀ a b, f a = f b → a = b) (T : List Hd) (a : Hd) : valV (enumF f 0 T) (f a) = (T.idxOf? a).map fun i => V.int (i : Int) := by
  rw [enumF_val hf]
  cases T.idxOf? a with
  | none => rfl
  | some i =>
    show some (V.int ((0 + i : Nat) : Int)) = some (V.int (i : Int))
    rw [Nat.zero_add]
def fsG (lh dh : Addr) : List (Str × V) := [("heads", .ref lh), ("known_heads", .ref dh)]
theorem fsG_h (lh dh : Addr) : (fsG lh dh).lookup ("heads" : Str) = some (.ref lh) := rfl
theorem fsG_k (lh dh : Addr) : (fsG lh dh).lookup ("known_heads" : Str) = some (.ref dh) := rfl
abbrev attG : List Str := ["heads", "known_heads"]
structure ClG (K : PySem.W.Frag) (C : Addr) : Prop where
  clGraph : Cls K C
  no : ∀ n ∈ attG, NoAttr K C n
theorem ne_of_none' {H : Hp} {a b : Addr} {o : HO} (h : H a = none) (e : H b = some o) : a ≠ b := fun z => by
  rw [z, e] at h
  cases h
section
variable {P : Program} {w : World} {K : PySem.W.Frag} {mg : Str → Option Value} {base : Heap}
/-! ### __init__ -/
def spGinit (w : World) (C : Addr) : Sp := fun vs H Q _ => ∃ (p dx : Addr), vs = [.ref p] ∧ H p = some (.ins C dx []) ∧
  ∀ H' lh dh, Fr [p] H H' → H lh = none → H dh = none → H' p = some (.ins C dx (fsG lh dh)) → TabH hdD w H' lh dh [] → Q .non H'
theorem sc_ginit : FnScope ["self"] ["self"] (defScope (sG 0)) := ⟨rfl, rfl, rfl, by decide +kernel, rfl, by decide +kernel, by decide +kernel⟩
theorem ok_ginit {f C : Addr} {fd : FuncData} (T : ClG K C) (F : Fun K "__init__" "Graph.__init__" (sG 0) f fd) : FnOk P w K mg base CX0 1 f fd ["self"] (spGinit w C) := by
  refine F.ok sc_ginit (fun vs H Q E h => ?_) (fun cdv A outer s H vs Q E hr h => ?_)
  · obtain ⟨p, dx, rfl, _⟩ := h
    rfl
  obtain ⟨p, dx, rfl, hp, k⟩ := h
  refine ⟨_, (pss_cons (ps_fld (pv 0) (pe_lst pa_nil) rfl)
    (pss_one (ps_fld (pv 0) (pe_newN (w := w)) rfl))), ?_⟩
  refine ⟨(by show 0 ≤ sizeLine; decide), fun lh hl => ?_⟩
  have e1 : upd H lh (.lst []) p = some (.ins C dx []) := by
    rw [upd_ne (ne_of_none hp hl)]
    exact hp
  refine ⟨_, rfl, p, C, dx, _, rfl, e1, T.clGraph, T.no "heads" (by simp), (by decide), ?_⟩
  refine fun dh o hd0 dn0 => ?_
  have lp : lh ≠ p := ne_of_none' hl hp
  have dl : dh ≠ lh := fun e => by
    rw [e, upd_ne lp, upd_same] at hd0
    cases hd0
  have dp : dh ≠ p := fun e => by
    rw [e, upd_same] at hd0
    cases hd0
  have hd1 : H dh = none := by
    rw [upd_ne dp, upd_ne dl] at hd0
    exact hd0
  refine ⟨_, rfl, p, C, dx, _, rfl, (by rw [upd_ne dp.symm, upd_same]), T.clGraph, T.no "known_heads" (by simp), (by show 1 < 1000; decide), ?_⟩
  refine k _ lh dh (fun b u e n => ?_) hl hd1 upd_same ⟨⟨[], ?_, .nil⟩, dn0.keep (upd_ne dp) (fun b xs z => ?_), List.nodup_nil, Nat.zero_le _⟩
  · have bp : b ≠ p := fun z => by
      subst z
      rcases n with n | n
      · exact n (by simp)
      · rw [hp] at e
        cases e
        exact n
    rw [upd_ne bp, upd_ne (ne_of_none e hd1), upd_ne bp, upd_ne (ne_of_none e hl)]
    exact e
  · rw [upd_ne lp, upd_ne dl.symm, upd_ne lp, upd_same]
  · have bp : b ≠ p := fun z2 => by
      subst z2
      rcases z with z | ⟨_, z⟩
      · rw [upd_ne dp.symm, upd_same] at z
        cases z
      · rw [upd_ne dp.symm, upd_same] at z
        cases z
    rcases z with z | ⟨o, z⟩
    · exact .inl (by rw [upd_ne bp]; exact z)
    · exact .inr ⟨o, by rw [upd_ne bp]; exact z⟩
/-! ### numbered -/
def spNumbered (w : World) (C : Addr) : Sp := fun vs H Q _ => ∃ (p dx lh dh : Addr) (v : V) (T : List Hd) (a : Hd), vs = [.ref p, v] ∧ H p = some (.ins C dx (fsG lh dh)) ∧ TabH hdD w H lh dh T ∧ T.length ≤ 500 ∧ Rep H (hdD a) v ∧
  ∀ H' (i : Nat), Fr [lh, dh] H H' → TabH hdD w H' lh dh (addH T a) → (addH T a)[i]? = some a → Q (.int (i : Int)) H'
theorem sc_numbered : FnScope ["self", "head"] ["self", "head"] (defScope (sG 2)) := ⟨rfl, rfl, rfl, by decide +kernel, rfl, by decide +kernel, by decide +kernel⟩
theorem ok_numbered {f C : Addr} {fd : FuncData} {mt : Tok} (CM : mg "MOST_NODES" = some (.int 3000 mt)) (B : Bl mg) (T : ClG K C) (F : Fun K "numbered" "Graph.numbered" (sG 2) f fd) : FnOk P w K mg base CX0 1 f fd ["self", "head"] (spNumbered w C) := by
  refine F.ok sc_numbered (fun vs H Q E h => ?_) (fun cdv A outer s H vs Q E hr h => ?_)
  · obtain ⟨p, dx, lh, dh, v, T, a, rfl, _⟩ := h
    rfl
  obtain ⟨p, dx, lh, dh, v, Tb, a, rfl, hp, hT, hz, hv, k⟩ := h
  have hu := hr.units
  refine ⟨_, (pss_cons (ps_if (pt_cmp (xc_notin (P := P) (w := w) (pv 1) (pe_fld (pv 0) rfl) hu))
      (pss_cons (ps_if (pt_cmpR op_ge (pe_callB call_len rfl B.len b_len (pa_cons (pe_fld (pv 0) rfl) pa_nil)) (pe_glob (v := .int 3000) rfl CM ⟨_, rfl⟩) (nomark _))
      (pss_one ps_never)
      pss_nil)
    (pss_cons (xs_put (P := P) (w := w) (pe_fld (pv 0) rfl) (pv 1) (pe_callB call_len rfl B.len b_len (pa_cons (pe_fld (pv 0) rfl) pa_nil)) hu rfl)
    (pss_one (ps_expr (pe_bm PySem.F.plainAttrs_list PySem.F.slot_list_append PySem.F.type_list_append mt_append (pe_fld (pv 0) rfl) (pa_cons (pv 1) pa_nil))))))
      pss_nil)
    (pss_one (ps_ret (xe_get (P := P) (w := w) (pe_fld (pv 0) rfl) (pv 1) (fun _ _ => rfl) hu)))), ?_⟩
  have nN := T.no "known_heads" (by simp)
  have nA := T.no "heads" (by simp)
  obtain ⟨us, hl, rl⟩ := hT.li
  refine ⟨_, rfl, _, rfl, p, C, dx, _, _, rfl, hp, T.clGraph, nN, fsG_k _ _, dh, _, rfl, GG.n hT.nu hv (hdD_depth a), _, rfl, ?_⟩
  have ev := enumH_val hdD_inj Tb a
  cases q : Tb.idxOf? a with
  | some i =>
    rw [q] at ev
    have ev : valV (enumF hdD 0 Tb) (.tup (hdK a)) = some (V.int (i : Int)) := ev
    rw [ev]
    refine iteF ?_
    refine ⟨_, rfl, p, C, dx, _, _, rfl, hp, T.clGraph, nN, fsG_k _ _, _, rfl, dh, _, rfl, ev ▸ GG.n hT.nu hv (hdD_depth a), ?_⟩
    have am : a ∈ Tb := List.mem_of_getElem? (idx_at q)
    exact k H i (Fr.refl _ _) (by rw [addH_old am]; exact hT) (by rw [addH_old am]; exact idx_at q)
  | none =>
    rw [q] at ev
    have ev : valV (enumF hdD 0 Tb) (.tup (hdK a)) = none := ev
    rw [ev]
    refine iteT ?_
    have am : a ∉ Tb := idx_none.mp q
    have hlen : us.length = Tb.length := rl.length.trans (by simp)
    -- if len(self.heads) >= MOST_NODES
    refine ⟨_, rfl, p, C, dx, _, _, rfl, hp, T.clGraph, nA, fsG_h _ _, _, us.length, rfl, .inl ⟨us, SqL.of hl, rfl⟩, _, _, rfl, rfl, _, rfl, ?_⟩
    refine ite2 (fun z => by have z' := of_decide_eq_true z; omega) (fun _ => ?_)
    refine ⟨_, rfl, p, C, dx, _, _, rfl, hp, T.clGraph, nA, fsG_h _ _, _, us.length, rfl, .inl ⟨us, SqL.of hl, rfl⟩, ?_⟩
    refine ⟨_, rfl, p, C, dx, _, _, rfl, hp, T.clGraph, nN, fsG_k _ _, _, rfl, dh, rfl, GP.n hT.nu hv (hdD_depth a) ?_ fun o dnew => ?_⟩
    · refine small_line ?_
      rw [enumF_len]
      omega
    obtain ⟨hl1, f3, hT2⟩ := hT.add hdD_inj am hl rl hv hz dnew
    obtain ⟨o0, e0⟩ := hT.nu.at
    have hp1 : upd H dh (exo dh o) p = some (.ins C dx (fsG lh dh)) := by
      rw [upd_ne (ne_of hp e0 (fun z => by cases z))]
      exact hp
    have hp2 : upd (upd H dh (exo dh o)) lh (.lst (us ++ [v])) p = some (.ins C dx (fsG lh dh)) := by
      rw [upd_ne (ne_of hp1 hl1 (fun z => by cases z))]
      exact hp1
    refine ⟨_, rfl, p, C, dx, _, _, rfl, hp1, T.clGraph, nA, fsG_h _ _, .inl ⟨rfl, _, SqL.of hl1⟩, _, rfl, lh, us, v, rfl, rfl, hl1, (small_line (by omega)), ?_⟩
    have ev2 : valV (enumF hdD 0 (Tb ++ [a])) (.tup (hdK a)) = some (V.int (Tb.length : Int)) := by
      have := enumH_val hdD_inj (Tb ++ [a]) a
      rw [idx_new am] at this
      exact this
    refine ⟨_, rfl, p, C, dx, _, _, rfl, hp2, T.clGraph, nN, fsG_k _ _, _, rfl, dh, _, rfl, ev2 ▸ GG.n hT2.nu (hv.kp f3.tups) (hdD_depth a), ?_⟩
    exact k _ Tb.length f3 (by rw [addH_new am]; exact hT2) (by rw [addH_new am, List.getElem?_append_right (Nat.le_refl _)]; simp)
/-! ### head_of -/
def spHeadOf (w : World) (C : Addr) : Sp := fun vs H Q _ => ∃ (p dx lh dh : Addr) (n : Nat) (T : List Hd) (h : Hd), vs = [.ref p, intN n] ∧ H p = some (.ins C dx (fsG lh dh)) ∧ TabH hdD w H lh dh T ∧ T[n]? = some h ∧ ∀ v, Rep H (hdD h) v → Q v H
theorem sc_head_of : FnScope ["self", "n"] ["self", "n"] (defScope (sG 5)) := ⟨rfl, rfl, rfl, by decide +kernel, rfl, by decide +kernel, by decide +kernel⟩
theorem ok_head_of {f C : Addr} {fd : FuncData} (B : Bl mg) (T : ClG K C) (F : Fun K "head_of" "Graph.head_of" (sG 5) f fd) : FnOk P w K mg base CX0 1 f fd ["self", "n"] (spHeadOf w C) := by
  refine F.ok sc_head_of (fun vs H Q E h => ?_) (fun cdv A outer s H vs Q E hr h => ?_)
  · obtain ⟨p, dx, lh, dh, n, T, h, rfl, _⟩ := h
    rfl
  obtain ⟨p, dx, lh, dh, n, Tb, a, rfl, hp, hT, ha, k⟩ := h
  refine ⟨_, (pss_cons (ps_if (PW.pt (pw_or (pt_cmpR op_lt (pv 1) pe_int (nomark _)) (pw_or1 (pt_cmpR op_ge (pv 1) (pe_callB call_len rfl B.len b_len (pa_cons (pe_fld (pv 0) rfl) pa_nil)) (nomark _)))))
      (pss_one ps_never)
      pss_nil)
    (pss_one (ps_ret (pe_ix ix_list (pe_fld (pv 0) rfl) (pv 1) (fun _ _ => rfl))))), ?_⟩
  have nA := T.no "heads" (by simp)
  obtain ⟨us, hl, rl⟩ := hT.li
  have hlen : us.length = Tb.length := rl.length.trans (by simp)
  have hn : n < Tb.length := (List.getElem?_eq_some_iff.mp ha).1
  obtain ⟨v, hv, rv⟩ := rl.get (i := n) (k := hdD a) (by rw [List.getElem?_map, ha]; rfl)
  refine ⟨_, rfl, _, _, rfl, rfl, _, rfl, ?_⟩
  refine ite2 (fun z => by have z' := of_decide_eq_true z; omega) (fun _ => ?_)
  refine ⟨_, rfl, _, rfl, p, C, dx, _, _, rfl, hp, T.clGraph, nA, fsG_h _ _, _, us.length, rfl, .inl ⟨us, SqL.of hl, rfl⟩, _, _, rfl, rfl, _, rfl, ?_⟩
  refine ite2 (fun z => by have z' := of_decide_eq_true z; omega) (fun _ => ?_)
  refine ⟨_, rfl, p, C, dx, _, _, rfl, hp, T.clGraph, nA, fsG_h _ _, _, rfl, lh, us, n, v, rfl, rfl, SqL.of hl, atI_nat hv, ?_⟩
  exact k v rv
/-! ### is_letter -/
def isLet : Hd → Bool
  | .letter _ => true
  | .op _ _ => false
def spIsLetter (w : World) (C : Addr) : Sp := fun vs H Q _ => ∃ (p dx lh dh : Addr) (n : Nat) (T : List Hd) (h : Hd), vs = [.ref p, intN n] ∧ H p = some (.ins C dx (fsG lh dh)) ∧ TabH hdD w H lh dh T ∧ T[n]? = some h ∧ Q (.bl (isLet h)) H
theorem hd_first {H : Hp} {h : Hd} {v : V} (r : Rep H (hdD h) v) : ∃ a x xs, v = .ref a ∧ Rd H a (.tup (.str x :: xs)) ∧ x = (if isLet h = true then "letter" else "op") := by
  obtain ⟨a, xs, rfl, e, rs⟩ := r.tup_inv
  cases h with
  | letter k =>
    cases rs with
    | cons h1 t1 =>
      have := h1.text_inv
      subst this
      exact ⟨a, _, _, rfl, e, rfl⟩
  | op o ps =>
    cases rs with
    | cons h1 t1 =>
      have := h1.text_inv
      subst this
      exact ⟨a, _, _, rfl, e, rfl⟩
theorem sc_is_letter : FnScope ["self", "n"] ["self", "n"] (defScope (sG 6)) := ⟨rfl, rfl, rfl, by decide +kernel, rfl, by decide +kernel, by decide +kernel⟩
theorem ok_is_letter {f f1 C : Addr} {fd fd1 : FuncData} (B : Bl mg) (T : ClG K C) (F : Fun K "is_letter" "Graph.is_letter" (sG 6) f fd) (Dhead_of : Mf P w K mg base 1 C "head_of" f1 fd1 ["self", "n"] (spHeadOf w C)) : FnOk P w K mg base CX0 2 f fd ["self", "n"] (spIsLetter w C) := by
  refine F.ok sc_is_letter (fun vs H Q E h => ?_) (fun cdv A outer s H vs Q E hr h => ?_)
  · obtain ⟨p, dx, lh, dh, n, T, h, rfl, _⟩ := h
    rfl
  obtain ⟨p, dx, lh, dh, n, Tb, a, rfl, hp, hT, ha, k⟩ := h
  refine ⟨_, (pss_one (ps_ret (pe_cmpR op_eq (pe_ix ix_tup (pe_meth (pv 0) T.clGraph Dhead_of.me Dhead_of.ok hr Dhead_of.b .nil pass0 (pa_cons (pv 1) pa_nil)) pe_int (fun _ _ => rfl)) pe_str (nomark _)))), ?_⟩
  refine ⟨_, rfl, p, dx, _, rfl, hp, rfl, _, rfl, p, dx, lh, dh, n, Tb, a, rfl, hp, hT, ha, fun v rv => ?_⟩
  obtain ⟨t, x, xs, rfl, e, ex⟩ := hd_first rv
  refine ⟨t, _, 0, _, rfl, rfl, .inl e, atI_nat rfl, ?_⟩
  refine ⟨rfl, ?_⟩
  have e2 : decide (V.str x = V.str "letter") = isLet a := by
    rw [ex]
    cases a with
    | letter k => rfl
    | op o ps => rfl
  show Q (.bl (decide (V.str x = V.str "letter"))) H
  rw [e2]
  exact k
/-! ### key_of -/
def spKeyOf (w : World) (C : Addr) : Sp := fun vs H Q _ => ∃ (p dx lh dh : Addr) (n : Nat) (T : List Hd) (i : Int), vs = [.ref p, intN n] ∧ H p = some (.ins C dx (fsG lh dh)) ∧ TabH hdD w H lh dh T ∧ T[n]? = some (.letter i) ∧ ∀ v, Rep H (rdD i) v → Q v H
theorem sc_key_of : FnScope ["self", "n", "head"] ["self", "n"] (defScope (sG 7)) := ⟨rfl, rfl, rfl, by decide +kernel, rfl, by decide +kernel, by decide +kernel⟩
theorem ok_key_of {f f1 C : Addr} {fd fd1 : FuncData} (B : Bl mg) (T : ClG K C) (F : Fun K "key_of" "Graph.key_of" (sG 7) f fd) (Dhead_of : Mf P w K mg base 1 C "head_of" f1 fd1 ["self", "n"] (spHeadOf w C)) : FnOk P w K mg base CX0 2 f fd ["self", "n"] (spKeyOf w C) := by
  refine F.ok sc_key_of (fun vs H Q E h => ?_) (fun cdv A outer s H vs Q E hr h => ?_)
  · obtain ⟨p, dx, lh, dh, n, T, h, rfl, _⟩ := h
    rfl
  obtain ⟨p, dx, lh, dh, n, Tb, i, rfl, hp, hT, ha, k⟩ := h
  refine ⟨_, (pss_cons (ps_set (i := 2) sc_key_of.nd rfl (Or.inl rfl) (pe_meth (pv 0) T.clGraph Dhead_of.me Dhead_of.ok hr Dhead_of.b .nil pass0 (pa_cons (pv 1) pa_nil)))
    (pss_cons (ps_if (pt_cmpR op_ne (pe_ix ix_tup (pv 2) pe_int (fun _ _ => rfl)) pe_str (nomark _))
      (pss_one ps_never)
      pss_nil)
    (pss_one (ps_ret (pe_ix ix_tup (pv 2) pe_int (fun _ _ => rfl)))))), ?_⟩
  refine ⟨_, rfl, p, dx, _, rfl, hp, rfl, _, rfl, p, dx, lh, dh, n, Tb, .letter i, rfl, hp, hT, ha, fun v rv => ?_⟩
  obtain ⟨a, xs, rfl, e, rs⟩ := rv.tup_inv
  cases rs with
  | cons h1 t1 =>
    cases t1 with
    | cons h2 t2 =>
      cases t2
      have e1 := h1.text_inv
      subst e1
      refine ⟨_, rfl, a, _, 0, _, rfl, rfl, .inl e, atI_nat rfl, rfl, _, rfl, ?_⟩
      refine iteF ?_
      refine ⟨_, rfl, a, _, 1, _, rfl, rfl, .inl e, atI_nat (j := 1) rfl, ?_⟩
      exact k _ h2
/-! ### op_of -/
def spOpOf (w : World) (C : Addr) : Sp := fun vs H Q _ => ∃ (p dx lh dh : Addr) (n : Nat) (T : List Hd) (o : Str) (ps : List Nat), vs = [.ref p, intN n] ∧ H p = some (.ins C dx (fsG lh dh)) ∧ TabH hdD w H lh dh T ∧ T[n]? = some (.op o ps) ∧ Q (.str o) H
theorem sc_op_of : FnScope ["self", "n", "head"] ["self", "n"] (defScope (sG 8)) := ⟨rfl, rfl, rfl, by decide +kernel, rfl, by decide +kernel, by decide +kernel⟩
theorem ok_op_of {f f1 C : Addr} {fd fd1 : FuncData} (B : Bl mg) (T : ClG K C) (F : Fun K "op_of" "Graph.op_of" (sG 8) f fd) (Dhead_of : Mf P w K mg base 1 C "head_of" f1 fd1 ["self", "n"] (spHeadOf w C)) : FnOk P w K mg base CX0 2 f fd ["self", "n"] (spOpOf w C) := by
  refine F.ok sc_op_of (fun vs H Q E h => ?_) (fun cdv A outer s H vs Q E hr h => ?_)
  · obtain ⟨p, dx, lh, dh, n, T, o, ps, rfl, _⟩ := h
    rfl
  obtain ⟨p, dx, lh, dh, n, Tb, o, ps, rfl, hp, hT, ha, k⟩ := h
  refine ⟨_, (pss_cons (ps_set (i := 2) sc_op_of.nd rfl (Or.inl rfl) (pe_meth (pv 0) T.clGraph Dhead_of.me Dhead_of.ok hr Dhead_of.b .nil pass0 (pa_cons (pv 1) pa_nil)))
    (pss_cons (ps_if (pt_cmpR op_ne (pe_ix ix_tup (pv 2) pe_int (fun _ _ => rfl)) pe_str (nomark _))
      (pss_one ps_never)
      pss_nil)
    (pss_one (ps_ret (pe_ix ix_tup (pv 2) pe_int (fun _ _ => rfl)))))), ?_⟩
  refine ⟨_, rfl, p, dx, _, rfl, hp, rfl, _, rfl, p, dx, lh, dh, n, Tb, .op o ps, rfl, hp, hT, ha, fun v rv => ?_⟩
  obtain ⟨a, xs, rfl, e, rs⟩ := rv.tup_inv
  cases rs with
  | cons h1 t1 =>
    cases t1 with
    | cons h2 t2 =>
      have e1 := h1.text_inv
      subst e1
      have e2 := h2.text_inv
      subst e2
      refine ⟨_, rfl, a, _, 0, _, rfl, rfl, .inl e, atI_nat rfl, rfl, _, rfl, ?_⟩
      refine iteF ?_
      refine ⟨_, rfl, a, _, 1, _, rfl, rfl, .inl e, atI_nat (j := 1) rfl, ?_⟩
      exact k
/-! ### parts_of -/
def hdPs : Hd → List Nat
  | .letter _ => []
  | .op _ ps => ps
def spPartsOf (w : World) (C : Addr) : Sp := fun vs H Q _ => ∃ (p dx lh dh : Addr) (n : Nat) (T : List Hd) (h : Hd), vs = [.ref p, intN n] ∧ H p = some (.ins C dx (fsG lh dh)) ∧ TabH hdD w H lh dh T ∧ T[n]? = some h ∧
  ∀ H' a, Fr [] H H' → Rd H' a (.tup ((hdPs h).map intN)) → Q (.ref a) H'
theorem reps_nat {H : Hp} {ps : List Nat} {vs : List V} (r : Reps H (ps.map numN) vs) : vs = ps.map intN := by
  have e : ps.map numN = (ps.map (fun n : Nat => (n : Int))).map NestedKey.num := by
    rw [List.map_map]
    rfl
  rw [e] at r
  rw [r.ints, List.map_map]
  rfl
theorem nat_reps (H : Hp) (ps : List Nat) : Reps H (ps.map numN) (ps.map intN) := by
  have e : ps.map numN = (ps.map (fun n : Nat => (n : Int))).map NestedKey.num := by
    rw [List.map_map]
    rfl
  have e2 : ps.map intN = (ps.map (fun n : Nat => (n : Int))).map V.int := by
    rw [List.map_map]
    rfl
  rw [e, e2]
  exact reps_nums _
theorem sc_parts_of : FnScope ["self", "n", "head"] ["self", "n"] (defScope (sG 9)) := ⟨rfl, rfl, rfl, by decide +kernel, rfl, by decide +kernel, by decide +kernel⟩
theorem ok_parts_of {f f1 C : Addr} {fd fd1 : FuncData} (B : Bl mg) (T : ClG K C) (F : Fun K "parts_of" "Graph.parts_of" (sG 9) f fd) (Dhead_of : Mf P w K mg base 1 C "head_of" f1 fd1 ["self", "n"] (spHeadOf w C)) : FnOk P w K mg base CX0 2 f fd ["self", "n"] (spPartsOf w C) := by
  refine F.ok sc_parts_of (fun vs H Q E h => ?_) (fun cdv A outer s H vs Q E hr h => ?_)
  · obtain ⟨p, dx, lh, dh, n, T, h, rfl, _⟩ := h
    rfl
  obtain ⟨p, dx, lh, dh, n, Tb, h, rfl, hp, hT, ha, k⟩ := h
  refine ⟨_, (pss_cons (ps_set (i := 2) sc_parts_of.nd rfl (Or.inl rfl) (pe_meth (pv 0) T.clGraph Dhead_of.me Dhead_of.ok hr Dhead_of.b .nil pass0 (pa_cons (pv 1) pa_nil)))
    (pss_cons (ps_if (pt_cmpR op_eq (pe_ix ix_tup (pv 2) pe_int (fun _ _ => rfl)) pe_str (nomark _))
      (pss_one (ps_ret (pe_tup pa_nil)))
      pss_nil)
    (pss_one (ps_ret (pe_ix ix_tup (pv 2) pe_int (fun _ _ => rfl)))))), ?_⟩
  refine ⟨_, rfl, p, dx, _, rfl, hp, rfl, _, rfl, p, dx, lh, dh, n, Tb, h, rfl, hp, hT, ha, fun v rv => ?_⟩
  obtain ⟨a, xs, rfl, e, rs⟩ := rv.tup_inv
  cases h with
  | letter i =>
    cases rs with
    | cons h1 t1 =>
      have e1 := h1.text_inv
      subst e1
      refine ⟨_, rfl, a, _, 0, _, rfl, rfl, .inl e, atI_nat rfl, rfl, _, rfl, ?_⟩
      refine iteT ?_
      refine ⟨(by show 0 ≤ sizeLine; decide), fun t ht => ?_⟩
      exact k _ t (Fr.new ht) (.inl upd_same)
  | op o ps =>
    cases rs with
    | cons h1 t1 =>
      cases t1 with
      | cons h2 t2 =>
        cases t2 with
        | cons h3 t3 =>
          have e1 := h1.text_inv
          subst e1
          refine ⟨_, rfl, a, _, 0, _, rfl, rfl, .inl e, atI_nat rfl, rfl, _, rfl, ?_⟩
          refine iteF ?_
          refine ⟨_, rfl, a, _, 2, _, rfl, rfl, .inl e, atI_nat (j := 2) rfl, ?_⟩
          obtain ⟨b, ys, rfl, eb, rb⟩ := h3.tup_inv
          have := reps_nat rb
          subst this
          exact k _ b (Fr.refl _ _) eb
/-! ### letter -/
def spLetter (w : World) (C : Addr) : Sp := fun vs H Q _ => ∃ (p dx lh dh : Addr) (v : V) (T : List Hd) (j : Int), vs = [.ref p, v] ∧ H p = some (.ins C dx (fsG lh dh)) ∧ TabH hdD w H lh dh T ∧ T.length ≤ 500 ∧ Rep H (rdD j) v ∧
  ∀ H' (i : Nat), Fr [lh, dh] H H' → TabH hdD w H' lh dh (addH T (.letter j)) → (addH T (.letter j))[i]? = some (.letter j) → Q (.int (i : Int)) H'
theorem sc_letter : FnScope ["self", "key"] ["self", "key"] (defScope (sG 3)) := ⟨rfl, rfl, rfl, by decide +kernel, rfl, by decide +kernel, by decide +kernel⟩
theorem ok_letter {f f1 C : Addr} {fd fd1 : FuncData} (B : Bl mg) (T : ClG K C) (F : Fun K "letter" "Graph.letter" (sG 3) f fd) (Dnumbered : Mf P w K mg base 1 C "numbered" f1 fd1 ["self", "head"] (spNumbered w C)) : FnOk P w K mg base CX0 2 f fd ["self", "key"] (spLetter w C) := by
  refine F.ok sc_letter (fun vs H Q E h => ?_) (fun cdv A outer s H vs Q E hr h => ?_)
  · obtain ⟨p, dx, lh, dh, v, T, a, rfl, _⟩ := h
    rfl
  obtain ⟨p, dx, lh, dh, v, Tb, j, rfl, hp, hT, hz, hv, k⟩ := h
  refine ⟨_, (pss_one (ps_ret (pe_meth (pv 0) T.clGraph Dnumbered.me Dnumbered.ok hr Dnumbered.b .nil pass0 (pa_cons (pe_tup (pa_cons pe_str (pa_cons (pv 1) pa_nil))) pa_nil)))), ?_⟩
  refine ⟨_, rfl, p, dx, _, rfl, hp, rfl, _, rfl, (by show 2 ≤ sizeLine; decide), fun t ht => ?_⟩
  have f1 : Fr [] H (upd H t (.tup [.str "letter", v])) := Fr.new ht
  refine ⟨p, dx, lh, dh, _, Tb, .letter j, rfl, f1 _ _ hp (.inl (fun h => nomatch h)), hT.kp f1 (fun h => nomatch h) (fun h => nomatch h), hz, ?_, fun H' i f2 h2 h3 => ?_⟩
  · exact .tup (.inl upd_same) (.cons (.text _) (.cons (hv.kp f1.tups) .nil))
  · exact k H' i (f1.nil.trans f2) h2 h3
/-! ### node -/
def spNode (w : World) (C : Addr) : Sp := fun vs H Q _ => ∃ (p dx lh dh a : Addr) (T : List Hd) (o : Str) (ps : List Nat), vs = [.ref p, .str o, .ref a] ∧ H p = some (.ins C dx (fsG lh dh)) ∧ TabH hdD w H lh dh T ∧ T.length ≤ 500 ∧ Rd H a (.tup (ps.map intN)) ∧ (∀ n ∈ ps, n < T.length) ∧
  ∀ H' (i : Nat), Fr [lh, dh] H H' → TabH hdD w H' lh dh (addH T (.op o ps)) → (addH T (.op o ps))[i]? = some (.op o ps) → Q (.int (i : Int)) H'
theorem sc_node : FnScope ["self", "op", "parts", "part"] ["self", "op", "parts"] (defScope (sG 4)) := ⟨rfl, rfl, rfl, by decide +kernel, rfl, by decide +kernel, by decide +kernel⟩
theorem ok_node {f f1 f2 C : Addr} {fd fd1 fd2 : FuncData} (B : Bl mg) (T : ClG K C) (F : Fun K "node" "Graph.node" (sG 4) f fd) (Dnumbered : Mf P w K mg base 1 C "numbered" f1 fd1 ["self", "head"] (spNumbered w C))
    (Dhead_of : Mf P w K mg base 1 C "head_of" f2 fd2 ["self", "n"] (spHeadOf w C)) : FnOk P w K mg base CX0 2 f fd ["self", "op", "parts"] (spNode w C) := by
  refine F.ok sc_node (fun vs H Q E h => ?_) (fun cdv A outer s H vs Q E hr h => ?_)
  · obtain ⟨p, dx, lh, dh, a, T, o, ps, rfl, _⟩ := h
    rfl
  obtain ⟨p, dx, lh, dh, a, Tb, o, ps, rfl, hp, hT, hz, ha, hin, k⟩ := h
  refine ⟨_, (pss_cons (ps_for PassesOwn.never rfl (pi_tup (pv 2)) (pg_name (i := 3) sc_node.nd rfl (Or.inl rfl))
      (pss_one (ps_expr (pe_meth (pv 0) T.clGraph Dhead_of.me Dhead_of.ok hr Dhead_of.b .nil pass0 (pa_cons (pv 3) pa_nil)))))
    (pss_one (ps_ret (pe_meth (pv 0) T.clGraph Dnumbered.me Dnumbered.ok hr Dnumbered.b .nil pass0 (pa_cons (pe_tup (pa_cons pe_str (pa_cons (pv 1) (pa_cons (pe_callTy call_tuple_of rfl B.tuple b_tuple (pa_cons (pv 2) pa_nil)) pa_nil)))) pa_nil))))), ?_⟩
  refine ⟨_, rfl, a, rfl, ⟨_, .inl ha⟩, ?_⟩
  refine for_it (walk_tup (xs := ps.map intN)) (fun i σ' H' => (∃ z, σ' = [some (.ref p), some (.str o), some (.ref a), z]) ∧ H' = H)
    ⟨⟨_, rfl⟩, rfl⟩ (fun i σ' H' _ e => by rw [e.2]; exact .inl ha) (fun i x σ' H1 H' hi e y => ?_) (fun σ' H' e => ?_)
  · obtain ⟨⟨z, rfl⟩, rfl⟩ := e
    obtain ⟨rfl, hx⟩ := y
    rw [List.getElem?_map] at hx
    obtain ⟨n, hn, rfl⟩ := Option.map_eq_some_iff.mp hx
    have nm : n ∈ ps := List.mem_of_getElem? hn
    have lt := hin n nm
    exact ⟨_, rfl, p, dx, _, rfl, hp, rfl, _, rfl, p, dx, lh, dh, n, Tb, Tb[n], rfl, hp, hT, List.getElem?_eq_getElem lt, fun v rv => ⟨⟨_, rfl⟩, rfl⟩⟩
  · obtain ⟨⟨z, rfl⟩, rfl⟩ := e
    refine ⟨_, rfl, p, dx, _, rfl, hp, rfl, _, rfl, _, rfl, a, _, rfl, .inr ⟨.inl ha, (by show 3 ≤ sizeLine; decide), fun t ht => ?_⟩⟩
    have f1 : Fr [] H' (upd H' t (.tup [.str "op", .str o, .ref a])) := Fr.new ht
    refine ⟨p, dx, lh, dh, _, Tb, .op o ps, rfl, f1 _ _ hp (.inl (fun h => nomatch h)), hT.kp f1 (fun h => nomatch h) (fun h => nomatch h), hz, ?_, fun H2 i f2 h2 h3 => ?_⟩
    · exact .tup (.inl upd_same) (.cons (.text _) (.cons (.text _) (.cons (.tup (f1.tups _ _ ha) (nat_reps _ _)) .nil)))
    · exact k H2 i (f1.nil.trans f2) h2 h3
end
end R60

set_option Elab.async false
set_option linter.all false
set_option maxRecDepth 100000
set_option maxHeartbeats 4000000
namespace R60
open PySem PySem.Spec PyProof.Rows L2 M60
/-! ### trees of lists of heads -/
def mkT (ts : List M60.Tree) : Hd → M60.Tree
  | .letter k => .letter k
  | .op o ps => .op o (ps.map fun p => ts.getD p (.letter 0))
def trees (hs : List Hd) : List M60.Tree := hs.foldl (fun ts h => ts ++ [mkT ts h]) []
def tr (hs : List Hd) (n : Nat) : M60.Tree := (trees hs).getD n (.letter 0)
theorem trees_snoc (hs : List Hd) (h : Hd) : trees (hs ++ [h]) = trees hs ++ [mkT (trees hs) h] := by simp [trees, List.foldl_append]
theorem trees_app (hs : List Hd) : ∀ ms : List Hd, ∃ M, trees (hs ++ ms) = trees hs ++ M ∧ M.length = ms.length := by
  intro ms
  induction ms generalizing hs with
  | nil => exact ⟨[], by simp⟩
  | cons h ms ih =>
    obtain ⟨M, e, l⟩ := ih (hs ++ [h])
    refine ⟨mkT (trees hs) h :: M, ?_, by simp [l]⟩
    rw [List.append_assoc] at e
    rw [show h :: ms = [h] ++ ms from rfl, e, trees_snoc]
    simp
theorem trees_len (hs : List Hd) : (trees hs).length = hs.length := by
  obtain ⟨M, e, l⟩ := trees_app [] hs
  rw [List.nil_append] at e
  rw [e]
  show (([] : List M60.Tree) ++ M).length = _
  simpa using l
theorem tr_app {hs ms : List Hd} {n : Nat} (h : n < hs.length) : tr (hs ++ ms) n = tr hs n := by
  obtain ⟨M, e, _⟩ := trees_app hs ms
  unfold tr
  rw [e, List.getD_eq_getElem?_getD, List.getElem?_append_left (by rw [trees_len]; exact h), List.getD_eq_getElem?_getD]
theorem tr_snoc (hs : List Hd) (h : Hd) : tr (hs ++ [h]) hs.length = mkT (trees hs) h := by
  unfold tr
  rw [trees_snoc, List.getD_eq_getElem?_getD, List.getElem?_append_right (by rw [trees_len]; exact Nat.le_refl _), trees_len]
  simp
theorem tr_at {hs : List Hd} {n : Nat} {h : Hd} (e : hs[n]? = some h) : tr hs n = mkT (trees (hs.take n)) h := by
  have hn : n < hs.length := (List.getElem?_eq_some_iff.mp e).1
  have e1 : hs = (hs.take n ++ [h]) ++ hs.drop (n + 1) := by
    have e2 := (List.getElem?_eq_some_iff.mp e).2
    rw [← e2, ← List.take_succ_eq_append_getElem hn, List.take_append_drop]
  have l : (hs.take n).length = n := by simp; omega
  have e3 : tr hs n = tr ((hs.take n ++ [h]) ++ hs.drop (n + 1)) n := congrArg (fun x => tr x n) e1
  rw [e3, tr_app (by rw [List.length_append, l]; show n < n + 1; omega)]
  have := tr_snoc (hs.take n) h
  rw [l] at this
  exact this
theorem tr_take {hs : List Hd} {n p : Nat} (h : p < n) (hn : n ≤ hs.length) : tr (hs.take n) p = tr hs p := by
  have e : tr hs p = tr (hs.take n ++ hs.drop n) p := by rw [List.take_append_drop]
  rw [e, tr_app (by simp; omega)]
/-- arguments come before -/
def WF (hs : List Hd) : Prop := ∀ (n : Nat) (o : Str) (ps : List Nat), hs[n]? = some (Hd.op o ps) → o ∈ menu ∧ ps.length ≤ 3 ∧ ∀ q ∈ ps, q < n
theorem tr_letter {hs : List Hd} {n : Nat} {k : Int} (e : hs[n]? = some (.letter k)) : tr hs n = .letter k := tr_at e
theorem tr_op {hs : List Hd} (W : WF hs) {n : Nat} {o : Str} {ps : List Nat} (e : hs[n]? = some (.op o ps)) : tr hs n = .op o (ps.map (tr hs)) := by
  rw [tr_at e]
  show M60.Tree.op o _ = _
  have hn : n < hs.length := (List.getElem?_eq_some_iff.mp e).1
  refine congrArg _ (List.map_congr_left fun p hp => ?_)
  exact tr_take (hs := hs) ((W n o ps e).2.2 p hp) (by omega)
theorem lin_len : ∀ {l : List (Int × Int)} (a n : Int), IsLin l → (∀ p ∈ l, a ≤ p.1 ∧ p.1 < n) → l = [] ∨ (l.length : Int) ≤ n - a
  | [], _, _, _, _ => .inl rfl
  | p :: r, a, n, h, hb => by
    right
    have hp := hb p List.mem_cons_self
    rcases lin_len (p.1 + 1) n h.tail (fun q hq => ⟨by have := h.head q hq; omega, (hb q (List.mem_cons_of_mem _ hq)).2⟩) with e | e
    · subst e
      show ((1 : Nat) : Int) ≤ _
      omega
    · show ((r.length + 1 : Nat) : Int) ≤ _
      omega
theorem LOk_len {n : Nat} {L : Lin} (h : LOk n L) : L.2.length ≤ n := by
  rcases lin_len 0 n h.1 h.2 with e | e
  · rw [e]; exact Nat.zero_le _
  · omega
/-- the places of a SumGraph and of its graph -/
structure Ad where
  p : Addr
  dx : Addr
  g : Addr
  dxg : Addr
  lh : Addr
  dh : Addr
  la : Addr
  dn : Addr
  dl : Addr
structure CC where
  S : Addr
  G : Addr
def Ent (H : Hp) (hs : List Hd) (T : List Atom) (q : Key × V) : Prop := ∃ (n : Nat) (L : Lin), q.1 = Sum.inl (n : Int) ∧ n < hs.length ∧ den T (tr hs n) = some L ∧ LinV H L q.2
/-- a SumGraph as it stands -/
structure SGs (c : CC) (w : World) (H : Hp) (d : Ad) (hs : List Hd) (T : List Atom) (kvs : List (Key × V)) : Prop where
  ip : H d.p = some (.ins c.S d.dx (fsS d.g d.la d.dn d.dl))
  ig : H d.g = some (.ins c.G d.dxg (fsG d.lh d.dh))
  th : TabH hdD w H d.lh d.dh hs
  ta : TabA w H d.la d.dn T
  dl : H d.dl = some (.dK kvs)
  en : ∀ q ∈ kvs, Ent H hs T q
  nd : (kvs.map (·.1)).Nodup
  tz : T.length ≤ kvs.length
  n1 : d.lh ≠ d.la
  n2 : d.dh ≠ d.dn
structure ClS (K : PySem.W.Frag) (c : CC) : Prop where
  clSumGraph : Cls K c.S
  clGraph : Cls K c.G
  no : ∀ n ∈ attS, NoAttr K c.S n
section
variable {P : Program} {w : World} {K : PySem.W.Frag} {mg : Str → Option Value} {base : Heap}
/-! ### __init__ -/
def spSinit (w : World) (C : Addr) : Sp := fun vs H Q _ => ∃ (p dx g : Addr), vs = [.ref p, .ref g] ∧ H p = some (.ins C dx []) ∧
  ∀ H' la dn dl, Fr [p] H H' → H la = none → H dn = none → H dl = none → H' p = some (.ins C dx (fsS g la dn dl)) → TabA w H' la dn [] → H' dl = some (.dK []) → Q .non H'
theorem sc_sinit : FnScope ["self", "graph"] ["self", "graph"] (defScope (sS 0)) := ⟨rfl, rfl, rfl, by decide +kernel, rfl, by decide +kernel, by decide +kernel⟩
theorem ok_sinit {f : Addr} {c : CC} {fd : FuncData} (T : ClS K c) (F : Fun K "__init__" "SumGraph.__init__" (sS 0) f fd) : FnOk P w K mg base CX0 1 f fd ["self", "graph"] (spSinit w c.S) := by
  refine F.ok sc_sinit (fun vs H Q E h => ?_) (fun cdv A outer s H vs Q E hr h => ?_)
  · obtain ⟨p, dx, g, rfl, _⟩ := h
    rfl
  obtain ⟨p, dx, g, rfl, hp, k⟩ := h
  refine ⟨_, (pss_cons (ps_fld (pv 0) (pv 1) rfl)
    (pss_cons (ps_fld (pv 0) (pe_lst pa_nil) rfl)
    (pss_cons (ps_fld (pv 0) (pe_newN (w := w)) rfl)
    (pss_one (ps_fld (pv 0) pe_dnewK rfl))))), ?_⟩
  refine ⟨_, rfl, _, rfl, p, c.S, dx, _, rfl, hp, T.clSumGraph, T.no "graph" (by simp), (by show 0 < 1000; decide), ?_⟩
  refine ⟨(by show 0 ≤ sizeLine; decide), fun la hl => ?_⟩
  have lp : la ≠ p := fun e => by rw [e, upd_same] at hl; cases hl
  have hl0 : H la = none := by rw [upd_ne lp] at hl; exact hl
  refine ⟨_, rfl, p, c.S, dx, _, rfl, (by rw [upd_ne lp.symm, upd_same]), T.clSumGraph, T.no "atoms" (by simp), (by show 1 < 1000; decide), ?_⟩
  refine fun dn o hd0 dn0 => ?_
  have dp : dn ≠ p := fun e => by rw [e, upd_same] at hd0; cases hd0
  have dla : dn ≠ la := fun e => by rw [e, upd_ne lp, upd_same] at hd0; cases hd0
  have hd1 : H dn = none := by rw [upd_ne dp, upd_ne dla, upd_ne dp] at hd0; exact hd0
  refine ⟨_, rfl, p, c.S, dx, _, rfl, (by rw [upd_ne dp.symm, upd_same]), T.clSumGraph, T.no "numbers" (by simp), (by show 2 < 1000; decide), ?_⟩
  refine fun dl hq0 => ?_
  have qp : dl ≠ p := fun e => by rw [e, upd_same] at hq0; cases hq0
  have qn : dl ≠ dn := fun e => by rw [e, upd_ne dp, upd_same] at hq0; cases hq0
  have ql : dl ≠ la := fun e => by rw [e, upd_ne lp, upd_ne dla.symm, upd_ne lp, upd_same] at hq0; cases hq0
  have hq1 : H dl = none := by rw [upd_ne qp, upd_ne qn, upd_ne qp, upd_ne ql, upd_ne qp] at hq0; exact hq0
  refine ⟨_, rfl, p, c.S, dx, _, rfl, (by rw [upd_ne qp.symm, upd_same]), T.clSumGraph, T.no "linears" (by simp), (by show 3 < 1000; decide), ?_⟩
  have step : ∀ b, b ≠ p → b ≠ la → b ≠ dn → b ≠ dl → ∀ {x1 x2 x3 x4 y1 y2 y3}, upd (upd (upd (upd (upd (upd (upd H p x1) la y1) p x2) dn y2) p x3) dl y3) p x4 b = H b := fun b h1 h2 h3 h4 => by
    intros
    rw [upd_ne h1, upd_ne h4, upd_ne h1, upd_ne h3, upd_ne h1, upd_ne h2, upd_ne h1]
  refine k _ la dn dl (fun b u e n => ?_) hl0 hd1 hq1 upd_same ⟨⟨[], ?_, .nil⟩, dn0.keep ?_ (fun b xs z => ?_), List.nodup_nil, Nat.zero_le _⟩ ?_
  · have bp : b ≠ p := fun z => by
      subst z
      rcases n with n | n
      · exact n (by simp)
      · rw [hp] at e
        cases e
        exact n
    rw [step b bp (ne_of_none e hl0) (ne_of_none e hd1) (ne_of_none e hq1)]
    exact e
  · rw [upd_ne lp, upd_ne ql.symm, upd_ne lp, upd_ne dla.symm, upd_ne lp, upd_same]
  · rw [upd_ne dp, upd_ne qn.symm, upd_ne dp]
  · have nb : ∀ {b : Addr} {u : HO}, upd (upd (upd (upd H p (.ins c.S dx (putF "graph" (.ref g) []))) la (.lst [])) p (.ins c.S dx (putF "atoms" (.ref la) (putF "graph" (.ref g) [])))) dn (exo dn o) b = some u → IsTF u → upd (upd (upd (upd (upd (upd (upd H p (.ins c.S dx (putF "graph" (.ref g) []))) la (.lst [])) p (.ins c.S dx (putF "atoms" (.ref la) (putF "graph" (.ref g) [])))) dn (exo dn o)) p (.ins c.S dx (putF "numbers" (.ref dn) (putF "atoms" (.ref la) (putF "graph" (.ref g) []))))) dl (.dK [])) p (.ins c.S dx (putF "linears" (.ref dl) (putF "numbers" (.ref dn) (putF "atoms" (.ref la) (putF "graph" (.ref g) []))))) b = some u := by
      intro b u z t
      have bp : b ≠ p := fun z2 => by
        subst z2
        rw [upd_ne dp.symm, upd_same] at z
        cases z
        exact t
      have bl : b ≠ dl := fun z2 => by
        subst z2
        rw [upd_ne qn, upd_ne qp, upd_ne ql, upd_ne qp, hq1] at z
        cases z
      rw [upd_ne bp, upd_ne bl, upd_ne bp]
      exact z
    rcases z with z | ⟨o2, z⟩
    · exact .inl (nb z True.intro)
    · exact .inr ⟨o2, nb z True.intro⟩
  · rw [upd_ne qp, upd_same]
/-! ### atom, many -/
def spSatom (w : World) (c : CC) : Sp := fun vs H Q _ => ∃ (d : Ad) (hs : List Hd) (T : List Atom) (kvs : List (Key × V)) (n : Nat) (a : Atom), vs = [.ref d.p, intN n] ∧ SGs c w H d hs T kvs ∧ T[n]? = some a ∧ ∀ v, Rep H (atomD a) v → Q v H
theorem sc_satom : FnScope ["self", "number"] ["self", "number"] (defScope (sS 4)) := ⟨rfl, rfl, rfl, by decide +kernel, rfl, by decide +kernel, by decide +kernel⟩
theorem ok_satom {f : Addr} {c : CC} {fd : FuncData} (T : ClS K c) (F : Fun K "atom" "SumGraph.atom" (sS 4) f fd) : FnOk P w K mg base CX0 1 f fd ["self", "number"] (spSatom w c) := by
  refine F.ok sc_satom (fun vs H Q E h => ?_) (fun cdv A outer s H vs Q E hr h => ?_)
  · obtain ⟨d, hs, Tb, kvs, n, a, rfl, _⟩ := h
    rfl
  obtain ⟨d, hs, Tb, kvs, n, a, rfl, hG, ha, k⟩ := h
  refine ⟨_, (pss_one (ps_ret (pe_ix ix_list (pe_fld (pv 0) rfl) (pv 1) (fun _ _ => rfl)))), ?_⟩
  obtain ⟨us, hl, rl⟩ := hG.ta.li
  obtain ⟨v, hv, rv⟩ := rl.get (i := n) (k := atomD a) (by rw [List.getElem?_map, ha]; rfl)
  refine ⟨_, rfl, d.p, c.S, d.dx, _, _, rfl, hG.ip, T.clSumGraph, T.no "atoms" (by simp), fsS_a _ _ _ _, _, rfl, d.la, us, n, v, rfl, rfl, SqL.of hl, atI_nat hv, ?_⟩
  exact k v rv
def spSmany (w : World) (c : CC) : Sp := fun vs H Q _ => ∃ (d : Ad) (hs : List Hd) (T : List Atom) (kvs : List (Key × V)), vs = [.ref d.p] ∧ SGs c w H d hs T kvs ∧ Q (.int (T.length : Int)) H
theorem sc_smany : FnScope ["self"] ["self"] (defScope (sS 5)) := ⟨rfl, rfl, rfl, by decide +kernel, rfl, by decide +kernel, by decide +kernel⟩
theorem ok_smany {f : Addr} {c : CC} {fd : FuncData} (B : Bl mg) (T : ClS K c) (F : Fun K "many" "SumGraph.many" (sS 5) f fd) : FnOk P w K mg base CX0 1 f fd ["self"] (spSmany w c) := by
  refine F.ok sc_smany (fun vs H Q E h => ?_) (fun cdv A outer s H vs Q E hr h => ?_)
  · obtain ⟨d, hs, Tb, kvs, rfl, _⟩ := h
    rfl
  obtain ⟨d, hs, Tb, kvs, rfl, hG, k⟩ := h
  refine ⟨_, (pss_one (ps_ret (pe_callB call_len rfl B.len b_len (pa_cons (pe_fld (pv 0) rfl) pa_nil)))), ?_⟩
  obtain ⟨us, hl, rl⟩ := hG.ta.li
  have hlen : us.length = Tb.length := rl.length.trans (by simp)
  refine ⟨_, rfl, d.p, c.S, d.dx, _, _, rfl, hG.ip, T.clSumGraph, T.no "atoms" (by simp), fsS_a _ _ _ _, _, us.length, rfl, .inl ⟨us, SqL.of hl, rfl⟩, ?_⟩
  rw [hlen]
  exact k
/-! ### made -/
def spMade (w : World) (c : CC) : Sp := fun vs H Q _ => ∃ (p dx g la dn dl a : Addr) (op : Str) (us : List V) (Ls : List Lin) (T : List Atom), vs = [.ref p, .str op, .ref a] ∧ H p = some (.ins c.S dx (fsS g la dn dl)) ∧ TabA w H la dn T ∧ T.length ≤ 100 ∧
  Rd H a (.tup us) ∧ LinVs H Ls us ∧ (∀ M ∈ Ls, LOk T.length M) ∧ op ∈ menu ∧
  ∀ H' v L, Fr [la, dn] H H' → TabA w H' la dn (opGrow T op Ls) → opLin (opGrow T op Ls) op Ls = some L → LinV H' L v → Q v H'
theorem linVs_reps {H : Hp} : ∀ {Ls : List Lin} {us : List V}, LinVs H Ls us → Reps H (Ls.map linD) us
  | _, _, .nil => .nil
  | _, _, .cons h t => .cons h.rep (linVs_reps t)
theorem sc_made : FnScope ["self", "op", "parts"] ["self", "op", "parts"] (defScope (sS 2)) := ⟨rfl, rfl, rfl, by decide +kernel, rfl, by decide +kernel, by decide +kernel⟩
theorem ok_made {f f1 f2 f3 : Addr} {c : CC} {fd fd1 fd2 fd3 : FuncData} (B : Bl mg) (T : ClS K c) (F : Fun K "made" "SumGraph.made" (sS 2) f fd) (Dis_sum : Df P w K mg base 1 "is_sum" f1 fd1 ["op", "many"] spIsSum)
    (Dsum_linear : Df P w K mg base 2 "sum_linear" f2 fd2 ["op", "parts"] spSumLinear) (Datom_number : Mf P w K mg base 1 c.S "atom_number" f3 fd3 ["self", "told"] (spAtomNumber w c.S)) : FnOk P w K mg base CX0 3 f fd ["self", "op", "parts"] (spMade w c) := by
  refine F.ok sc_made (fun vs H Q E h => ?_) (fun cdv A outer s H vs Q E hr h => ?_)
  · obtain ⟨p, dx, g, la, dn, dl, a, op, us, Ls, Tb, rfl, _⟩ := h
    rfl
  obtain ⟨p, dx, g, la, dn, dl, a, op, us, Ls, Tb, rfl, hp, hT, hz, ha, hL, hok, hm, k⟩ := h
  refine ⟨_, (pss_cons (ps_if (pt_val (pe_call Dis_sum.ok (hr.mono (by decide)) rfl Dis_sum.gx Dis_sum.kp Dis_sum.b .nil pass0 (pa_cons (pv 1) (pa_cons (pe_callB call_len rfl B.len b_len (pa_cons (pv 2) pa_nil)) pa_nil))) (by intro _; rfl))
      (pss_one (ps_ret (pe_call Dsum_linear.ok (hr.mono (by decide)) rfl Dsum_linear.gx Dsum_linear.kp Dsum_linear.b .nil pass0 (pa_cons (pv 1) (pa_cons (pv 2) pa_nil)))))
      pss_nil)
    (pss_one (ps_ret (pe_tup (pa_cons pe_int (pa_cons (pe_tupF (pa_cons (pe_tup (pa_cons (pe_meth (pv 0) T.clSumGraph Datom_number.me Datom_number.ok (hr.mono (by decide)) Datom_number.b .nil pass0 (pa_cons (pe_tup (pa_cons pe_str (pa_cons (pv 1) (pa_cons (pv 2) pa_nil)))) pa_nil)) (pa_cons pe_int pa_nil))) pa_nil)) pa_nil)))))), ?_⟩
  have hlen := Paired.length hL
  refine ⟨_, rfl, _, rfl, _, us.length, rfl, .inr ⟨us, .inl ha, rfl⟩, op, us.length, rfl, fun H1 f1 => ?_⟩
  have er := isR_real hm Ls
  rw [hlen] at er
  rw [er]
  refine ⟨_, rfl, ?_⟩
  cases q : real op Ls with
  | some L =>
    refine iteT ?_
    refine ⟨_, rfl, _, rfl, op, a, us, Ls, L, rfl, f1.tups _ _ ha, Paired.mapP hL (fun x y h => h.kp f1), q, fun M hM => ⟨(hok M hM).1, Nat.le_trans (LOk_len (hok M hM)) hz⟩, fun H2 v f2 hv => ?_⟩
    have e1 : opGrow Tb op Ls = Tb := by unfold opGrow; rw [q]
    have e2 : opLin Tb op Ls = some L := by unfold opLin; rw [q]
    have ff : Fr [] H H2 := f1.trans f2
    exact k H2 v L ff.nil (by rw [e1]; exact hT.kp ff (fun h => nomatch h) (fun h => nomatch h)) (by rw [e1]; exact e2) hv
  | none =>
    refine iteF ?_
    have e1 : opGrow Tb op Ls = addA Tb (.op op Ls) := by unfold opGrow; rw [q]
    refine ⟨_, rfl, p, dx, _, rfl, f1 _ _ hp (.inl (fun h => nomatch h)), rfl, _, rfl, _, rfl, (by show 3 ≤ sizeLine; decide), fun t ht => ?_⟩
    have f2 : Fr [] H (upd H1 t (.tup [.str "op", .str op, .ref a])) := f1.trans (Fr.new ht)
    refine ⟨p, dx, g, la, dn, dl, _, Tb, .op op Ls, rfl, f2 _ _ hp (.inl (fun h => nomatch h)), hT.kp f2 (fun h => nomatch h) (fun h => nomatch h), (by omega), ?_, fun H2 i f3 hT2 hi => ?_⟩
    · exact .tup (.inl upd_same) (.cons (.text _) (.cons (.text _) (.cons (.tup (f2.tups _ _ ha) (linVs_reps (Paired.mapP hL (fun x y h => h.kp f2)))) .nil)))
    refine ⟨(by show 2 ≤ sizeLine; decide), fun t1 h1 => ⟨(by show 1 ≤ sizeLine; decide), fun t2 o h2 po => ⟨(by show 2 ≤ sizeLine; decide), fun t3 h3 => ?_⟩⟩⟩
    have n21 : t2 ≠ t1 := fun e => by rw [e, upd_same] at h2; cases h2
    have n32 : t3 ≠ t2 := fun e => by rw [e, upd_same] at h3; cases h3
    have n31 : t3 ≠ t1 := fun e => by rw [e, upd_ne n21.symm, upd_same] at h3; cases h3
    have f4 : Fr [] H2 (upd (upd (upd H2 t1 (.tup [.int i, .int 1])) t2 (.frz o (.tup [.ref t1]))) t3 (.tup [.int 0, .ref t2])) := ((Fr.new h1).trans (Fr.new h2)).trans (Fr.new h3)
    refine k _ _ (Atom.unit i) ((f2.nil.trans f3).trans f4.nil) ?_ ?_ ⟨t3, t2, [t1], rfl, .inl upd_same, ⟨o, ?_, po⟩, .cons (.inl ?_) .nil⟩
    · rw [e1]
      exact hT2.kp f4 (fun h => nomatch h) (fun h => nomatch h)
    · rw [e1]
      unfold opLin
      rw [q, hi]
      rfl
    · rw [upd_ne n32.symm, upd_same]
      rfl
    · rw [upd_ne n31.symm, upd_ne n21.symm, upd_same]
end
end R60

set_option Elab.async false
set_option linter.all false
set_option maxRecDepth 100000
set_option maxHeartbeats 4000000
namespace R60
open PySem PySem.Spec PyProof.Rows L2 M60
section
variable {X : Cx} {K : PySem.W.Frag}
theorem pe_fldX {ta : TE} {e : Expr} {f : Str} {pos : Pos} (he : PE X e ta) (hK : X.K = K := by rfl) (hb : attributeBase e f X.env (eval e X.env) = eval e X.env := by rfl) : PE X (.Attribute e f pos) (tFld K ta f) := hK ▸ pe_fld he hb
theorem ix_listX (hK : X.K = K := by rfl) : IxR X (rIxL K) := hK ▸ ix_list
theorem ix_tupX (hK : X.K = K := by rfl) : IxR X (rIxT K) := hK ▸ ix_tup
end
abbrev ky (x : Nat) : Key := Sum.inl (x : Int)
structure Lp (hs : List Hd) (T0 : List Atom) (n : Nat) (S : List Nat) (T : List Atom) (kvs : List (Key × V)) : Prop where
  g : growAll T (S.map (tr hs)) = grow T0 (tr hs n)
  bt : (S = [] ∧ ∃ v, valV kvs (ky n) = some v) ∨ S.getLast? = some n
  lt : ∀ x ∈ S, x < hs.length
  as : S.Pairwise (· < ·)
  un : ∀ x ∈ S.tail, valV kvs (ky x) = none
def meas (N : Nat) (S : List Nat) (kvs : List (Key × V)) : Nat := (N - kvs.length) * (N + 3) + (match S with
  | [] => 0
  | x :: _ => if (valV kvs (ky x)).isSome = true then N + 2 else N + 1 - S.length)
theorem asc_len : ∀ {l : List Nat} (a n : Nat), l.Pairwise (· < ·) → (∀ p ∈ l, a ≤ p ∧ p < n) → l = [] ∨ l.length + a ≤ n
  | [], _, _, _, _ => .inl rfl
  | p :: r, a, n, h, hb => by
    right
    have hp := hb p List.mem_cons_self
    have h' := List.pairwise_cons.mp h
    rcases asc_len (p + 1) n h'.2 (fun q hq => ⟨h'.1 q hq, (hb q (List.mem_cons_of_mem _ hq)).2⟩) with e | e
    · subst e
      show 1 + a ≤ n
      omega
    · show r.length + 1 + a ≤ n
      omega
theorem ky_ne {x y : Nat} (h : x ≠ y) : ¬ ky x = ky y := fun e => h (by have := Sum.inl.inj e; omega)
theorem Lp.pop {hs : List Hd} {T0 T : List Atom} {n x : Nat} {S : List Nat} {kvs : List (Key × V)} {v : V} {L : Lin} (l : Lp hs T0 n (x :: S) T kvs) (hx : valV kvs (ky x) = some v) (hd : den T (tr hs x) = some L) :
    Lp hs T0 n S T kvs ∧ meas hs.length S kvs < meas hs.length (x :: S) kvs := by
  refine ⟨⟨?_, ?_, fun y hy => l.lt y (List.mem_cons_of_mem _ hy), (List.pairwise_cons.mp l.as).2, fun y hy => l.un y (List.mem_of_mem_tail hy)⟩, ?_⟩
  · have g := l.g
    rw [List.map_cons, growAll, grow_id hd] at g
    exact g
  · cases S with
    | nil =>
      rcases l.bt with ⟨e, _⟩ | e
      · cases e
      · have e : x = n := by simpa using e
        exact .inl ⟨rfl, v, by rw [← e]; exact hx⟩
    | cons y r =>
      rcases l.bt with ⟨e, _⟩ | e
      · cases e
      · exact .inr (by rw [List.getLast?_cons_cons] at e; exact e)
  · unfold meas
    cases S with
    | nil =>
      simp only [hx, Option.isSome_some, if_true]
      omega
    | cons y r =>
      have hy := l.un y (by simp)
      simp only [hx, hy, Option.isSome_some, Option.isSome_none, if_true]
      simp
      omega
theorem Lp.res {hs : List Hd} {T0 T : List Atom} {n x : Nat} {S : List Nat} {kvs : List (Key × V)} {v : V} {L : Lin} (l : Lp hs T0 n (x :: S) T kvs) (hx : valV kvs (ky x) = none) (hd : den (grow T (tr hs x)) (tr hs x) = some L) (hl : kvs.length + 1 ≤ hs.length) :
    Lp hs T0 n (x :: S) (grow T (tr hs x)) (kvs ++ [(ky x, v)]) ∧ meas hs.length (x :: S) (kvs ++ [(ky x, v)]) < meas hs.length (x :: S) kvs := by
  refine ⟨⟨?_, ?_, l.lt, l.as, fun y hy => ?_⟩, ?_⟩
  · have g := l.g
    rw [List.map_cons, growAll] at g ⊢
    rw [grow_id hd]
    exact g
  · rcases l.bt with ⟨e, _⟩ | e
    · cases e
    · exact .inr e
  · have lt := (List.pairwise_cons.mp l.as).1 y hy
    rw [valV_snoc _ _ _ _ hx, if_neg (ky_ne (by omega))]
    exact l.un y hy
  · unfold meas
    have e : valV (kvs ++ [(ky x, v)]) (ky x) = some v := by rw [valV_snoc _ _ _ _ hx, if_pos rfl]
    simp only [hx, e, Option.isSome_some, Option.isSome_none, if_true, List.length_append, List.length_cons, List.length_nil]
    obtain ⟨q, hq⟩ : ∃ q, hs.length - kvs.length = q + 1 := ⟨hs.length - kvs.length - 1, by omega⟩
    have hq2 : hs.length - (kvs.length + (0 + 1)) = q := by omega
    rw [hq, hq2, Nat.succ_mul]
    simp
    omega
theorem Lp.push {hs : List Hd} {T0 T : List Atom} {n x c : Nat} {S l1 l2 : List Nat} {kvs : List (Key × V)} {o : Str} {Ls : List Lin} (W : WF hs) (l : Lp hs T0 n (x :: S) T kvs) (hx : valV kvs (ky x) = none) (hh : hs[x]? = some (.op o (l1 ++ c :: l2))) (hc : valV kvs (ky c) = none)
    (h1 : denAll T (l1.map (tr hs)) = some Ls) : Lp hs T0 n (c :: x :: S) T kvs ∧ meas hs.length (c :: x :: S) kvs < meas hs.length (x :: S) kvs := by
  have cx : c < x := (W x o _ hh).2.2 c (by simp)
  have xl : x < hs.length := l.lt x (by simp)
  have as := l.as
  have h' := List.pairwise_cons.mp as
  refine ⟨⟨?_, ?_, fun y hy => ?_, ?_, fun y hy => ?_⟩, ?_⟩
  · have g := l.g
    rw [List.map_cons, growAll, tr_op W hh, List.map_append, List.map_cons, grow_skip h1] at g
    rw [List.map_cons, growAll, List.map_cons, growAll, tr_op W hh, List.map_append, List.map_cons]
    exact g
  · rcases l.bt with ⟨e, _⟩ | e
    · cases e
    · exact .inr (by rw [List.getLast?_cons_cons]; exact e)
  · rcases List.mem_cons.mp hy with e | hy
    · omega
    · exact l.lt y hy
  · refine List.pairwise_cons.mpr ⟨fun y hy => ?_, as⟩
    rcases List.mem_cons.mp hy with e | hy
    · omega
    · have := h'.1 y hy
      omega
  · rcases List.mem_cons.mp hy with e | hy
    · rw [e]; exact hx
    · exact l.un y hy
  · have z := asc_len 0 hs.length as (fun p hp => ⟨Nat.zero_le _, l.lt p hp⟩)
    have z : (x :: S).length ≤ hs.length := by
      rcases z with z | z
      · cases z
      · omega
    unfold meas
    simp only [hx, hc, Option.isSome_none, List.length_cons] at z ⊢
    simp
    omega
theorem Lp.start {hs : List Hd} {T : List Atom} {n : Nat} (kvs : List (Key × V)) (h : n < hs.length) : Lp hs T n [n] T kvs := ⟨rfl, .inr rfl, fun x hx => by rw [List.mem_singleton.mp hx]; exact h, List.pairwise_singleton _ _, fun _ hy => nomatch hy⟩
theorem nodup_le {α : Type} [DecidableEq α] : ∀ {l m : List α}, l.Nodup → (∀ x ∈ l, x ∈ m) → l.length ≤ m.length
  | [], _, _, _ => Nat.zero_le _
  | a :: l, m, h, s => by
    have h' := List.nodup_cons.mp h
    have am := s a (by simp)
    have e := List.length_erase_of_mem am
    have := nodup_le (m := m.erase a) h'.2 fun x hx => by
      have ne : x ≠ a := fun z => h'.1 (z ▸ hx)
      exact (List.mem_erase_of_ne ne).mpr (s x (List.mem_cons_of_mem _ hx))
    have pos : 0 < m.length := List.length_pos_of_mem am
    show l.length + 1 ≤ _
    omega
theorem SGs.len {c : CC} {w : World} {H : Hp} {d : Ad} {hs : List Hd} {T : List Atom} {kvs : List (Key × V)} (g : SGs c w H d hs T kvs) : kvs.length ≤ hs.length := by
  have := nodup_le (m := (List.range hs.length).map ky) g.nd fun x hx => by
    obtain ⟨q, hq, e⟩ := List.mem_map.mp hx
    obtain ⟨n, L, e1, lt, _⟩ := g.en q hq
    exact List.mem_map.mpr ⟨n, by simpa using lt, by rw [← e, e1]⟩
  simpa using this
theorem SGs.len1 {c : CC} {w : World} {H : Hp} {d : Ad} {hs : List Hd} {T : List Atom} {kvs : List (Key × V)} {x : Nat} (g : SGs c w H d hs T kvs) (hx : valV kvs (ky x) = none) (lt : x < hs.length) : kvs.length + 1 ≤ hs.length := by
  have nm := valV_not hx
  have := nodup_le (l := ky x :: kvs.map (·.1)) (m := (List.range hs.length).map ky) (List.nodup_cons.mpr ⟨nm, g.nd⟩) fun y hy => by
    rcases List.mem_cons.mp hy with e | hy
    · exact List.mem_map.mpr ⟨x, by simpa using lt, e.symm⟩
    · obtain ⟨q, hq, e⟩ := List.mem_map.mp hy
      obtain ⟨n, L, e1, lt, _⟩ := g.en q hq
      exact List.mem_map.mpr ⟨n, by simpa using lt, by rw [← e, e1]⟩
  simpa using this
theorem valV_mem2 {κ : Type} [DecidableEq κ] {kvs : List (κ × V)} {k : κ} {v : V} (h : valV kvs k = some v) : (k, v) ∈ kvs := by
  induction kvs with
  | nil => cases h
  | cons p r ih =>
    by_cases e : p.1 = k
    · rw [valV_pos e] at h
      have h := Option.some.inj h
      rw [← e, ← h]
      exact List.mem_cons_self
    · rw [valV_neg e] at h
      exact List.mem_cons_of_mem _ (ih h)
theorem SGs.at {c : CC} {w : World} {H : Hp} {d : Ad} {hs : List Hd} {T : List Atom} {kvs : List (Key × V)} {x : Nat} {v : V} (g : SGs c w H d hs T kvs) (hx : valV kvs (ky x) = some v) : x < hs.length ∧ ∃ L, den T (tr hs x) = some L ∧ LinV H L v := by
  obtain ⟨n, L, e1, lt, h1, h2⟩ := g.en _ (valV_mem2 hx)
  have e : x = n := by have := Sum.inl.inj e1; omega
  subst e
  exact ⟨lt, L, h1, h2⟩
/-- kept, where nothing of it is at S -/
theorem SGs.kp {c : CC} {w : World} {H H' : Hp} {d : Ad} {hs : List Hd} {T : List Atom} {kvs : List (Key × V)} (g : SGs c w H d hs T kvs) (f : Fr [] H H') : SGs c w H' d hs T kvs := by
  have nn : ∀ {b : Addr}, b ∉ ([] : List Addr) := fun h => nomatch h
  refine ⟨f _ _ g.ip (.inl nn), f _ _ g.ig (.inl nn), g.th.kp f nn nn, g.ta.kp f nn nn, f _ _ g.dl (.inl nn), fun q hq => ?_, g.nd, g.tz, g.n1, g.n2⟩
  obtain ⟨n, L, e1, lt, h1, h2⟩ := g.en q hq
  exact ⟨n, L, e1, lt, h1, h2.kp f⟩
/-- after the table of atoms grew and one more linear was put -/
theorem SGs.put {c : CC} {w : World} {H H1 : Hp} {d : Ad} {hs : List Hd} {T M : List Atom} {kvs : List (Key × V)} {x : Nat} {L : Lin} {v : V} (g : SGs c w H d hs T kvs) (f : Fr [d.la, d.dn] H H1) (ta : TabA w H1 d.la d.dn (T ++ M)) (hM : M.length ≤ 1) (hx : valV kvs (ky x) = none) (lt : x < hs.length)
    (hd : den (T ++ M) (tr hs x) = some L) (hv : LinV H1 L v) : H1 d.dl = some (.dK kvs) ∧ Fr [d.la, d.dn, d.dl] H (upd H1 d.dl (.dK (putK kvs (ky x) v))) ∧ putK kvs (ky x) v = kvs ++ [(ky x, v)] ∧ SGs c w (upd H1 d.dl (.dK (putK kvs (ky x) v))) d hs (T ++ M) (kvs ++ [(ky x, v)]) := by
  obtain ⟨us, hl, rl⟩ := g.ta.li
  obtain ⟨o, hn⟩ := g.ta.nu.at
  obtain ⟨us2, hl2, rl2⟩ := g.th.li
  obtain ⟨o2, hn2⟩ := g.th.nu.at
  have a1 : d.dl ∉ [d.la, d.dn] := by
    simp only [List.mem_cons, List.not_mem_nil, or_false, not_or]
    exact ⟨ne_of g.dl hl (fun z => by cases z), ne_of g.dl hn (fun z => by cases z)⟩
  have a2 : d.p ∉ [d.la, d.dn] := by
    simp only [List.mem_cons, List.not_mem_nil, or_false, not_or]
    exact ⟨ne_of g.ip hl (fun z => by cases z), ne_of g.ip hn (fun z => by cases z)⟩
  have a3 : d.g ∉ [d.la, d.dn] := by
    simp only [List.mem_cons, List.not_mem_nil, or_false, not_or]
    exact ⟨ne_of g.ig hl (fun z => by cases z), ne_of g.ig hn (fun z => by cases z)⟩
  have a4 : d.lh ∉ [d.la, d.dn] := by
    simp only [List.mem_cons, List.not_mem_nil, or_false, not_or]
    exact ⟨g.n1, ne_of hl2 hn (fun z => by cases z)⟩
  have a5 : d.dh ∉ [d.la, d.dn] := by
    simp only [List.mem_cons, List.not_mem_nil, or_false, not_or]
    exact ⟨ne_of hn2 hl (fun z => by cases z), g.n2⟩
  have e1 : H1 d.dl = some (.dK kvs) := f _ _ g.dl (.inl a1)
  have ep := putK_new v hx
  rw [ep]
  have f2 : Fr [d.dl] H1 (upd H1 d.dl (.dK (kvs ++ [(ky x, v)]))) := Fr.old List.mem_cons_self e1 (fun z => z)
  obtain ⟨us3, hl3, rl3⟩ := ta.li
  obtain ⟨o3, hn3⟩ := ta.nu.at
  have b1 : ∀ {b : Addr} {u : HO}, H1 b = some u → u ≠ .dK kvs → b ∉ [d.dl] := fun h n z => by
    rw [List.mem_singleton.mp z, e1] at h
    exact n (Option.some.inj h).symm
  have ff : Fr [d.la, d.dn, d.dl] H (upd H1 d.dl (.dK (kvs ++ [(ky x, v)]))) := (f.mono (by simp)).trans (f2.mono (by simp))
  have th1 := g.th.kp f a4 a5
  obtain ⟨us4, hl4, rl4⟩ := th1.li
  obtain ⟨o4, hn4⟩ := th1.nu.at
  refine ⟨e1, ff, rfl, ⟨?_, ?_, th1.kp f2 (b1 hl4 (fun z => by cases z)) (b1 hn4 (fun z => by cases z)), ta.kp f2 (b1 hl3 (fun z => by cases z)) (b1 hn3 (fun z => by cases z)), upd_same, fun q hq => ?_, ?_, ?_, g.n1, g.n2⟩⟩
  · exact f2 _ _ (f _ _ g.ip (.inl a2)) (.inl (b1 (f _ _ g.ip (.inl a2)) (fun z => by cases z)))
  · exact f2 _ _ (f _ _ g.ig (.inl a3)) (.inl (b1 (f _ _ g.ig (.inl a3)) (fun z => by cases z)))
  · rcases List.mem_append.mp hq with hq | hq
    · obtain ⟨n, L, e1, lt, h1, h2⟩ := g.en q hq
      exact ⟨n, L, e1, lt, den_more h1, h2.kp ff⟩
    · rw [List.mem_singleton.mp hq]
      exact ⟨x, L, rfl, lt, hd, hv.kp f2⟩
  · rw [List.map_append]
    exact nd_snoc g.nd (valV_not hx)
  · rw [List.length_append, List.length_append]
    have := g.tz
    show T.length + M.length ≤ kvs.length + 1
    omega
theorem SGs.kpS {c : CC} {w : World} {H H' : Hp} {d : Ad} {hs : List Hd} {T : List Atom} {kvs : List (Key × V)} {S : List Addr} (g : SGs c w H d hs T kvs) (f : Fr S H H') (n : ∀ b ∈ [d.p, d.g, d.lh, d.dh, d.la, d.dn, d.dl], b ∉ S) : SGs c w H' d hs T kvs := by
  refine ⟨f _ _ g.ip (.inl (n _ (by simp))), f _ _ g.ig (.inl (n _ (by simp))), g.th.kp f (n _ (by simp)) (n _ (by simp)), g.ta.kp f (n _ (by simp)) (n _ (by simp)), f _ _ g.dl (.inl (n _ (by simp))), fun q hq => ?_, g.nd, g.tz, g.n1, g.n2⟩
  obtain ⟨n, L, e1, lt, h1, h2⟩ := g.en q hq
  exact ⟨n, L, e1, lt, h1, h2.kp f⟩
/-- all its places are taken -/
theorem SGs.here {c : CC} {w : World} {H : Hp} {d : Ad} {hs : List Hd} {T : List Atom} {kvs : List (Key × V)} (g : SGs c w H d hs T kvs) : ∀ b ∈ [d.p, d.g, d.lh, d.dh, d.la, d.dn, d.dl], ∃ u, H b = some u := by
  obtain ⟨us, hl, rl⟩ := g.ta.li
  obtain ⟨o, hn⟩ := g.ta.nu.at
  obtain ⟨us2, hl2, rl2⟩ := g.th.li
  obtain ⟨o2, hn2⟩ := g.th.nu.at
  intro b hb
  simp only [List.mem_cons, List.not_mem_nil, or_false] at hb
  rcases hb with e | e | e | e | e | e | e <;> subst e
  · exact ⟨_, g.ip⟩
  · exact ⟨_, g.ig⟩
  · exact ⟨_, hl2⟩
  · exact ⟨_, hn2⟩
  · exact ⟨_, hl⟩
  · exact ⟨_, hn⟩
  · exact ⟨_, g.dl⟩
/-- a list of one's own is written anew -/
theorem SGs.kpT {c : CC} {w : World} {H0 H : Hp} {d : Ad} {hs : List Hd} {T T0 : List Atom} {kvs kvs0 : List (Key × V)} {td : Addr} {xs : List V} (ys : List V) (g : SGs c w H d hs T kvs) (g0 : SGs c w H0 d hs T0 kvs0) (h0 : H0 td = none) (ht : H td = some (.lst xs)) : SGs c w (upd H td (.lst ys)) d hs T kvs :=
  g.kpS (S := [td]) (Fr.old List.mem_cons_self ht (fun z => z)) fun b hb z => by
    obtain ⟨u, hu⟩ := g0.here b hb
    rw [List.mem_singleton.mp z, h0] at hu
    cases hu
theorem grow_op {T : List Atom} {o : Str} {ps : List M60.Tree} {Ls : List Lin} (h : denAll T ps = some Ls) : grow T (.op o ps) = opGrow T o Ls := by
  rw [grow, growAll_id h, h]
theorem opGrow_one (T : List Atom) (o : Str) (Ls : List Lin) : ∃ M, opGrow T o Ls = T ++ M ∧ M.length ≤ 1 := by
  unfold opGrow
  cases real o Ls with
  | some L => exact ⟨[], by simp⟩
  | none =>
    show ∃ M, addA T (.op o Ls) = T ++ M ∧ M.length ≤ 1
    by_cases h : Atom.op o Ls ∈ T
    · exact ⟨[], by rw [addA_old h]; simp⟩
    · exact ⟨[_], addA_new h, Nat.le_refl _⟩
theorem addA_one (T : List Atom) (a : Atom) : ∃ M, addA T a = T ++ M ∧ M.length ≤ 1 := by
  by_cases h : a ∈ T
  · exact ⟨[], by rw [addA_old h]; simp⟩
  · exact ⟨[_], addA_new h, Nat.le_refl _⟩
theorem denAll_of {T : List Atom} {f : Nat → M60.Tree} : ∀ {l : List Nat}, (∀ y ∈ l, ∃ L, den T (f y) = some L) → ∃ Ls, denAll T (l.map f) = some Ls
  | [], _ => ⟨[], by rw [List.map_nil, denAll]⟩
  | y :: l, h => by
    obtain ⟨L, h1⟩ := h y (by simp)
    obtain ⟨Ls, h2⟩ := denAll_of (l := l) fun x hx => h x (List.mem_cons_of_mem _ hx)
    exact ⟨L :: Ls, by rw [List.map_cons, denAll, h1, h2]; rfl⟩
/-- the linears of resolved nodes -/
theorem SGs.all {c : CC} {w : World} {H : Hp} {d : Ad} {hs : List Hd} {T : List Atom} {kvs : List (Key × V)} (g : SGs c w H d hs T kvs) : ∀ {ps : List Nat}, (∀ p ∈ ps, ∃ v, valV kvs (ky p) = some v) → ∃ Ls, denAll T (ps.map (tr hs)) = some Ls ∧ LinVs H Ls (ps.map fun p => (valV kvs (ky p)).getD .non)
  | [], _ => ⟨[], by rw [List.map_nil, denAll], .nil⟩
  | p :: ps, h => by
    obtain ⟨v, hv⟩ := h p (by simp)
    obtain ⟨_, L, h1, h2⟩ := g.at hv
    obtain ⟨Ls, h3, h4⟩ := g.all (ps := ps) fun x hx => h x (List.mem_cons_of_mem _ hx)
    refine ⟨L :: Ls, by rw [List.map_cons, denAll, h1, h3]; rfl, .cons ?_ h4⟩
    show LinV H L ((valV kvs (ky p)).getD V.non)
    rw [hv]
    exact h2
end R60

set_option Elab.async false
set_option linter.all false
set_option maxRecDepth 100000
set_option maxHeartbeats 4000000
namespace R60
open PySem PySem.Spec PyProof.Rows L2 M60
section
variable {P : Program} {w : World} {K : PySem.W.Frag} {mg : Str → Option Value} {base : Heap}
def spSlinear (w : World) (c : CC) : Sp := fun vs H Q _ => ∃ (d : Ad) (hs : List Hd) (T : List Atom) (kvs : List (Key × V)) (n : Nat), vs = [.ref d.p, intN n] ∧ SGs c w H d hs T kvs ∧ WF hs ∧ hs.length ≤ 60 ∧ n < hs.length ∧
  ∀ H' v T' kvs' L, Fr [d.la, d.dn, d.dl] H H' → SGs c w H' d hs T' kvs' → T' = grow T (tr hs n) → den T' (tr hs n) = some L → LinV H' L v → Q v H'
theorem sc_slinear : FnScope ["self", "node", "todo", "here", "number", "parts", "left", "told", "part"] ["self", "node"] (defScope (sS 3)) := ⟨rfl, rfl, rfl, by decide +kernel, rfl, by decide +kernel, by decide +kernel⟩
theorem ok_slinear {f f1 f2 f3 f4 f5 f6 : Addr} {c : CC} {fd fd1 fd2 fd3 fd4 fd5 fd6 : FuncData} (B : Bl mg) (T : ClS K c) (F : Fun K "linear" "SumGraph.linear" (sS 3) f fd) (Dmade : Mf P w K mg base 3 c.S "made" f1 fd1 ["self", "op", "parts"] (spMade w c))
    (Datom_number : Mf P w K mg base 1 c.S "atom_number" f3 fd3 ["self", "told"] (spAtomNumber w c.S)) (Dis_letter : Mf P w K mg base 2 c.G "is_letter" f2 fd2 ["self", "n"] (spIsLetter w c.G))
    (Dkey_of : Mf P w K mg base 2 c.G "key_of" f4 fd4 ["self", "n"] (spKeyOf w c.G)) (Dop_of : Mf P w K mg base 2 c.G "op_of" f5 fd5 ["self", "n"] (spOpOf w c.G)) (Dparts_of : Mf P w K mg base 2 c.G "parts_of" f6 fd6 ["self", "n"] (spPartsOf w c.G)) : FnOk P w K mg base CX0 4 f fd ["self", "node"] (spSlinear w c) := by
  refine F.ok sc_slinear (fun vs H Q E h => ?_) (fun cdv A outer s H vs Q E hr h => ?_)
  · obtain ⟨d, hs, Tb, kvs, n, rfl, _⟩ := h
    rfl
  obtain ⟨d, hs, Tb, kvs, n, rfl, hG, hW, hN, hn, k⟩ := h
  have hu := hr.units
  refine ⟨_, (pss_cons (ps_set (i := 2) sc_slinear.nd rfl (Or.inl rfl) (pe_lst (pa_cons (pv 1) pa_nil)))
    (pss_cons (ps_while PassesOwn.never (pt_truth (pv 2) (by intro _; rfl))
      (pss_cons (ps_set (i := 3) sc_slinear.nd rfl (Or.inl rfl) (pe_ix ix_list (pv 2) (pe_un un_neg pe_int) (fun _ _ => rfl)))
    (pss_cons (ps_if (pt_cmp (xc_in (P := P) (w := w) (pv 3) (pe_fld (pv 0) rfl) hu))
      (pss_cons (ps_expr (pe_bm0 PySem.F.plainAttrs_list PySem.F.slot_list_pop PySem.F.type_list_pop mt_pop (pv 2)))
    (pss_one ps_continue))
      pss_nil)
    (pss_cons (ps_if (pt_val (pe_meth (pe_fld (pv 0) rfl) T.clGraph Dis_letter.me Dis_letter.ok (hr.mono (by decide)) Dis_letter.b .nil pass0 (pa_cons (pv 3) pa_nil)) (by intro _; rfl))
      (pss_cons (ps_set (i := 4) sc_slinear.nd rfl (Or.inl rfl) (pe_meth (pv 0) T.clSumGraph Datom_number.me Datom_number.ok (hr.mono (by decide)) Datom_number.b .nil pass0 (pa_cons (pe_tup (pa_cons pe_str (pa_cons (pe_meth (pe_fld (pv 0) rfl) T.clGraph Dkey_of.me Dkey_of.ok (hr.mono (by decide)) Dkey_of.b .nil pass0 (pa_cons (pv 3) pa_nil)) pa_nil))) pa_nil)))
    (pss_cons (xs_put (P := P) (w := w) (pe_fld (pv 0) rfl) (pv 3) (pe_tup (pa_cons pe_int (pa_cons (pe_tupF (pa_cons (pe_tup (pa_cons (pv 4) (pa_cons pe_int pa_nil))) pa_nil)) pa_nil))) hu rfl)
    (pss_one ps_continue)))
      pss_nil)
    (pss_cons (ps_set (i := 5) sc_slinear.nd rfl (Or.inl rfl) (pe_meth (pe_fld (pv 0) rfl) T.clGraph Dparts_of.me Dparts_of.ok (hr.mono (by decide)) Dparts_of.b .nil pass0 (pa_cons (pv 3) pa_nil)))
    (pss_cons (ps_setLc (i := 6) (own := [("part", 8)]) rfl sc_slinear.nd rfl rfl (sw_true rfl rfl rfl (by decide +kernel)) (pi_tup (pv 5)) (blkOk_by (N := ["self", "node", "todo", "here", "number", "parts", "left", "told", "part"]) (sc := defScope (sS 3)) (by decide +kernel)) (fun _ _ _ _ _ => (pg_name (i := 8) sc_slinear.nd rfl (Or.inl rfl))) (fun _ _ _ _ _ => (pts_one (pt_cmp (xc_notin (P := P) (w := w) (pv 8) (pe_fldX (K := K) (pv 0)) hu)))) (fun _ _ _ _ _ => (pv 8)))
    (pss_one (ps_if (pt_truth (pv 6) (by intro _; rfl))
      (pss_one (ps_expr (pe_bm PySem.F.plainAttrs_list PySem.F.slot_list_append PySem.F.type_list_append mt_append (pv 2) (pa_cons (pe_ix ix_list (pv 6) pe_int (fun _ _ => rfl)) pa_nil))))
      (pss_cons (ps_set (i := 7) sc_slinear.nd rfl (Or.inl rfl) (pe_callTy call_tuple_of rfl B.tuple b_tuple (pa_cons (pe_lc (own := [("part", 8)]) rfl sc_slinear.nd (pi_tup (pv 5)) (blkOk_by (N := ["self", "node", "todo", "here", "number", "parts", "left", "told", "part"]) (sc := defScope (sS 3)) (by decide +kernel)) (fun _ _ _ _ _ => (pg_name (i := 8) sc_slinear.nd rfl (Or.inl rfl))) (fun _ _ _ _ _ => pts_nil) (fun _ _ _ _ _ => (xe_get (P := P) (w := w) (pe_fldX (K := K) (pv 0)) (pv 8) (fun _ _ => rfl) hu))) pa_nil)))
    (pss_one (xs_put (P := P) (w := w) (pe_fld (pv 0) rfl) (pv 3) (pe_meth (pv 0) T.clSumGraph Dmade.me Dmade.ok (hr.mono (by decide)) Dmade.b .nil pass0 (pa_cons (pe_meth (pe_fld (pv 0) rfl) T.clGraph Dop_of.me Dop_of.ok (hr.mono (by decide)) Dop_of.b .nil pass0 (pa_cons (pv 3) pa_nil)) (pa_cons (pv 7) pa_nil))) hu rfl)))))))))))
    (pss_one (ps_ret (xe_get (P := P) (w := w) (pe_fld (pv 0) rfl) (pv 1) (fun _ _ => rfl) hu))))), ?_⟩
  refine ⟨_, rfl, (by show 1 ≤ sizeLine; decide), fun td htd => ?_⟩
  have f0 : Fr [] H (upd H td (.lst [intN n])) := Fr.new htd
  have nG := T.no "graph" (by simp)
  have nL := T.no "linears" (by simp)
  -- what holds at the head of the loop
  let I : Nat → List (Option V) → Hp → Prop := fun m σ' H' => ∃ (S : List Nat) (T1 : List Atom) (kvs1 : List (Key × V)) (z1 z2 z3 z4 z5 z6 : Option V), σ' = [some (.ref d.p), some (intN n), some (.ref td), z1, z2, z3, z4, z5, z6] ∧ H' td = some (.lst (S.reverse.map intN)) ∧
    (∀ b u, H b = some u → (b ∉ [d.la, d.dn, d.dl] ∨ IsTF u) → H' b = some u) ∧ SGs c w H' d hs T1 kvs1 ∧ Lp hs Tb n S T1 kvs1 ∧ m = meas hs.length S kvs1
  have hI : ∃ m, I m [some (.ref d.p), some (intN n), some (.ref td), none, none, none, none, none, none] (upd H td (.lst [intN n])) :=
    ⟨_, [n], Tb, kvs, _, _, _, _, _, _, rfl, upd_same, f0.nil, hG.kp f0, Lp.start kvs hn, rfl⟩
  refine ⟨I, hI, ?_⟩
  have tdn : td ∉ [d.la, d.dn, d.dl] := fun z => by
    obtain ⟨u, hu⟩ := hG.here td (by
      simp only [List.mem_cons, List.not_mem_nil, or_false] at z ⊢
      rcases z with z | z | z <;> simp [z])
    rw [htd] at hu
    cases hu
  have frT : ∀ {H' : Hp} (ys : List V) (_ : Unit), (∀ b u, H b = some u → (b ∉ [d.la, d.dn, d.dl] ∨ IsTF u) → H' b = some u) → ∀ b u, H b = some u → (b ∉ [d.la, d.dn, d.dl] ∨ IsTF u) → upd H' td (.lst ys) b = some u := fun ys _ fr b u e n => by
    rw [upd_ne (ne_of_none e htd)]
    exact fr b u e n
  rintro m σ' H' ⟨S, T1, kvs1, z1, z2, z3, z4, z5, z6, rfl, ht, fr, g1, l1, rfl⟩
  refine ⟨_, rfl, _, .inl ⟨_, SqL.of ht, rfl⟩, ?_⟩
  have done : ∀ b : Bool, b = !(S.reverse.map intN).isEmpty → (S = [] ∧ b = false) ∨ ∃ x r, S = x :: r ∧ b = true := by
    intro b e
    cases S with
    | nil => exact .inl ⟨rfl, by rw [e]; rfl⟩
    | cons x r => exact .inr ⟨x, r, rfl, by rw [e]; simp⟩
  rcases done _ rfl with ⟨rfl, e⟩ | ⟨x, r, rfl, e⟩
  · rw [e]
    refine iteF ?_
    rcases l1.bt with ⟨_, v, hv⟩ | z
    · obtain ⟨_, L, hd, hL⟩ := g1.at hv
      refine ⟨_, rfl, d.p, c.S, d.dx, _, _, rfl, g1.ip, T.clSumGraph, nL, fsS_l _ _ _ _, _, rfl, d.dl, v, rfl, hv ▸ GG.k g1.dl rfl, ?_⟩
      exact k H' v T1 kvs1 L fr g1 l1.g hd hL
    · cases z
  · rw [e]
    refine iteT ?_
    have xl : x < hs.length := l1.lt x (by simp)
    have hrev : (x :: r).reverse.map intN = r.reverse.map intN ++ [intN x] := by simp
    refine ⟨fun σ' H' => ∃ m', m' < meas hs.length (x :: r) kvs1 ∧ I m' σ' H', fun σ' H' h => h, ?_⟩
    -- here = todo[-1]
    refine ⟨_, rfl, _, rfl, td, _, -1, intN x, rfl, rfl, SqL.of ht, (by rw [hrev]; exact atI_last _ _), ?_⟩
    -- if here in self.linears
    refine ⟨_, rfl, _, rfl, d.p, c.S, d.dx, _, _, rfl, g1.ip, T.clSumGraph, nL, fsS_l _ _ _ _, d.dl, _, rfl, GG.k (k := ky x) g1.dl rfl, _, rfl, ?_⟩
    cases hx : valV kvs1 (ky x) with
    | some v =>
      refine iteT ?_
      obtain ⟨_, L, hd, hL⟩ := g1.at hx
      obtain ⟨l2, lt⟩ := l1.pop hx hd
      refine ⟨_, rfl, .inl ⟨rfl, _, SqL.of ht⟩, td, _, intN x, rfl, rfl, ht, ?_, ?_⟩
      · rw [hrev]
        simp
      have ed : ((x :: r).reverse.map intN).dropLast = r.reverse.map intN := by rw [hrev]; simp
      rw [ed]
      exact ⟨_, lt, r, T1, kvs1, _, _, _, _, _, _, rfl, upd_same, frT _ () fr, g1.kpT _ hG htd ht, l2, rfl⟩
    | none =>
      refine iteF ?_
      obtain ⟨h, hh⟩ : ∃ h, hs[x]? = some h := ⟨hs[x], List.getElem?_eq_getElem xl⟩
      refine ⟨_, rfl, d.p, c.S, d.dx, _, _, rfl, g1.ip, T.clSumGraph, nG, fsS_g _ _ _ _, d.g, d.dxg, _, rfl, g1.ig, rfl, _, rfl, d.g, d.dxg, d.lh, d.dh, x, hs, h, rfl, g1.ig, g1.th, hh, _, rfl, ?_⟩
      have gd := grow_den T1 (tr hs x)
      cases h with
      | letter i =>
        refine iteT ?_
        have et : grow T1 (tr hs x) = addA T1 (.letter i) := by rw [tr_letter hh, grow]
        obtain ⟨M, eM, hM⟩ := addA_one T1 (.letter i)
        obtain ⟨L, hL⟩ := gd
        refine ⟨_, rfl, d.p, d.dx, _, rfl, g1.ip, rfl, _, rfl, d.p, c.S, d.dx, _, _, rfl, g1.ip, T.clSumGraph, nG, fsS_g _ _ _ _, d.g, d.dxg, _, rfl, g1.ig, rfl, _, rfl, d.g, d.dxg, d.lh, d.dh, x, hs, i, rfl, g1.ig, g1.th, hh, fun v rv => ⟨(by show 2 ≤ sizeLine; decide), fun t ht1 => ?_⟩⟩
        have f1 : Fr [] H' (upd H' t (.tup [.str "letter", v])) := Fr.new ht1
        refine ⟨d.p, d.dx, d.g, d.la, d.dn, d.dl, _, T1, .letter i, rfl, (g1.kp f1).ip, (g1.kp f1).ta, ?_, ?_, fun H2 j f2 hT2 hj => ?_⟩
        · have := g1.len
          have := g1.tz
          omega
        · exact .tup (.inl upd_same) (.cons (.text _) (.cons (rv.kp f1.tups) .nil))
        have g2 := g1.kp f1
        refine ⟨_, rfl, (by show 2 ≤ sizeLine; decide), fun t1 h1 => ⟨(by show 1 ≤ sizeLine; decide), fun t2 o2 h2 po => ⟨(by show 2 ≤ sizeLine; decide), fun t3 h3 => ?_⟩⟩⟩
        have n21 : t2 ≠ t1 := fun e => by rw [e, upd_same] at h2; cases h2
        have n32 : t3 ≠ t2 := fun e => by rw [e, upd_same] at h3; cases h3
        have n31 : t3 ≠ t1 := fun e => by rw [e, upd_ne n21.symm, upd_same] at h3; cases h3
        have f4 : Fr [] H2 (upd (upd (upd H2 t1 (.tup [.int j, .int 1])) t2 (.frz o2 (.tup [.ref t1]))) t3 (.tup [.int 0, .ref t2])) := ((Fr.new h1).trans (Fr.new h2)).trans (Fr.new h3)
        have hv : LinV (upd (upd (upd H2 t1 (.tup [.int j, .int 1])) t2 (.frz o2 (.tup [.ref t1]))) t3 (.tup [.int 0, .ref t2])) (Atom.unit j) (.ref t3) := by
          refine ⟨t3, t2, [t1], rfl, .inl upd_same, ⟨o2, ?_, po⟩, .cons (.inl ?_) .nil⟩
          · rw [upd_ne n32.symm, upd_same]
            rfl
          · rw [upd_ne n31.symm, upd_ne n21.symm, upd_same]
        generalize upd (upd (upd H2 t1 (.tup [.int j, .int 1])) t2 (.frz o2 (.tup [.ref t1]))) t3 (.tup [.int 0, .ref t2]) = H3 at *
        have eL : L = Atom.unit j := by
          have := hL
          rw [et, tr_letter hh, den, hj] at this
          exact (Option.some.inj this).symm
        rw [eM] at hT2
        rw [et, eM] at hL
        rw [← eL] at hv
        have f5 : Fr [d.la, d.dn] H' H3 := (f1.nil.trans f2).trans f4.nil
        obtain ⟨e1, f6, ep, g6⟩ := g1.put f5 (hT2.kp f4 (fun h => nomatch h) (fun h => nomatch h)) hM hx xl hL hv
        have lz := g1.len1 hx xl
        obtain ⟨l2, lt⟩ := l1.res (v := .ref t3) (L := L) hx (by rw [et, eM]; exact hL) lz
        rw [et, eM] at l2
        have ip3 : H3 d.p = some (.ins c.S d.dx (fsS d.g d.la d.dn d.dl)) := by
          have := g6.ip
          rw [upd_ne (ne_of g1.ip g1.dl (fun z => by cases z))] at this
          exact this
        refine ⟨_, rfl, d.p, c.S, d.dx, _, _, rfl, ip3, T.clSumGraph, nL, fsS_l _ _ _ _, _, rfl, d.dl, rfl, GP.k (k := ky x) e1 rfl (small_line (by omega)) ?_⟩
        refine ⟨_, lt, x :: r, _, _, _, _, _, _, _, _, rfl, ?_, Fr.trans fr f6, ep ▸ g6, l2, rfl⟩
        rw [f6 td _ ht (.inl tdn)]
      | op o ps =>
        refine iteF ?_
        have W := hW x o ps hh
        refine ⟨_, rfl, d.p, c.S, d.dx, _, _, rfl, g1.ip, T.clSumGraph, nG, fsS_g _ _ _ _, d.g, d.dxg, _, rfl, g1.ig, rfl, _, rfl, d.g, d.dxg, d.lh, d.dh, x, hs, _, rfl, g1.ig, g1.th, hh, fun H2 a f2 ha => ?_⟩
        have ha : Rd H2 a (.tup (ps.map intN)) := ha
        have g2 := g1.kp f2
        -- left
        refine ⟨_, rfl, a, rfl, ⟨_, .inl ha⟩, fun D hD => ?_⟩
        refine lc_it (walk_tup (xs := ps.map intN)) (fun i H3 => H3 = upd H2 D (.lst (((ps.take i).filter fun p => (valV kvs1 (ky p)).isNone).map intN))) rfl (fun i H3 _ e => ?_) (fun i y H3 H4 hi e yy => ?_) (fun H3 e => ?_)
        · rw [e]
          exact .inl ((Fr.new hD : Fr [] H2 _).tups _ _ ha)
        · obtain ⟨rfl, hy⟩ := yy
          rw [List.getElem?_map] at hy
          obtain ⟨q, hq, rfl⟩ := Option.map_eq_some_iff.mp hy
          have hi' : i < ps.length := by simpa using hi
          have eq' : ps[i] = q := by
            have := List.getElem?_eq_getElem hi'
            rw [hq] at this
            exact (Option.some.inj this).symm
          have fD : Fr [] H2 H4 := by rw [e]; exact Fr.new hD
          have g3 := g2.kp fD
          have tk : (ps.take (i + 1)).filter (fun p => (valV kvs1 (ky p)).isNone) = ((ps.take i).filter fun p => (valV kvs1 (ky p)).isNone) ++ (if (valV kvs1 (ky q)).isNone = true then [q] else []) := by
            rw [List.take_succ_eq_append_getElem hi', List.filter_append, eq']
            refine congrArg _ ?_
            cases h : (valV kvs1 (ky q)).isNone <;> simp [h]
          refine ⟨rfl, _, rfl, _, rfl, d.p, c.S, d.dx, _, _, rfl, g3.ip, T.clSumGraph, nL, fsS_l _ _ _ _, d.dl, _, rfl, GG.k (k := ky q) g3.dl rfl, _, rfl, ?_⟩
          cases hv : valV kvs1 (ky q) with
          | none =>
            refine iteT ?_
            rw [hv] at tk
            have zf := List.length_filter_le (fun p => (valV kvs1 (ky p)).isNone) (ps.take i)
            have W2 := W.2.1
            refine ⟨_, rfl, _, (by rw [e, upd_same]), small_line ?_, ?_⟩
            · rw [List.length_map]
              rw [List.length_take] at zf
              omega
            · rw [e, upd_upd, tk]
              simp
          | some v =>
            refine iteF ?_
            rw [hv] at tk
            rw [tk, e]
            simp
        · have eL : (ps.take (ps.map intN).length) = ps := by simp
          rw [eL] at e
          have fD : Fr [] H2 H3 := by rw [e]; exact Fr.new hD
          have g3 := g2.kp fD
          have f3 : Fr [] H' H3 := f2.trans fD
          have eD : H3 D = some (.lst ((ps.filter fun p => (valV kvs1 (ky p)).isNone).map intN)) := by rw [e, upd_same]
          have ht3 : H3 td = some (.lst ((x :: r).reverse.map intN)) := f3 _ _ ht (.inl (fun h => nomatch h))
          have ha3 := fD.tups _ _ ha
          clear e
          refine ⟨_, rfl, _, .inl ⟨_, SqL.of eD, rfl⟩, ?_⟩
          cases hf : ps.filter (fun p => (valV kvs1 (ky p)).isNone) with
          | cons q rest =>
            rw [hf] at eD
            refine iteT ?_
            obtain ⟨p1, p2, ep, h1, h2, _⟩ := List.filter_eq_cons_iff.mp hf
            have hq : valV kvs1 (ky q) = none := by simpa using h2
            obtain ⟨Ls, h3, _⟩ := g1.all (ps := p1) fun y hy => by
              have := h1 y hy
              cases z : valV kvs1 (ky y) with
              | none => rw [z] at this; exact absurd rfl this
              | some v => exact ⟨v, rfl⟩
            have hh' := hh
            rw [ep] at hh'
            obtain ⟨l2, lt⟩ := l1.push hW hx hh' hq h3
            have xz : (x :: r).length ≤ hs.length := by
              rcases asc_len 0 hs.length l1.as (fun p hp => ⟨Nat.zero_le _, l1.lt p hp⟩) with z | z
              · cases z
              · omega
            refine ⟨_, rfl, .inl ⟨rfl, _, SqL.of ht3⟩, _, rfl, D, _, 0, intN q, rfl, rfl, SqL.of eD, atI_nat rfl, td, _, intN q, rfl, rfl, ht3, small_line (by rw [List.length_map, List.length_reverse]; omega), ?_⟩
            refine ⟨_, lt, q :: x :: r, T1, kvs1, _, _, _, _, _, _, rfl, ?_, frT _ () (Fr.trans fr f3.nil), g3.kpT _ hG htd ht3, l2, rfl⟩
            rw [upd_same]
            simp
          | nil =>
            rw [hf] at eD
            refine iteF ?_
            have all : ∀ p ∈ ps, ∃ v, valV kvs1 (ky p) = some v := fun p hp => by
              cases z : valV kvs1 (ky p) with
              | some v => exact ⟨v, rfl⟩
              | none =>
                have := List.filter_eq_nil_iff.mp hf p hp
                rw [z] at this
                exact absurd rfl this
            obtain ⟨Ls, hLs, _⟩ := g3.all all
            -- told
            refine ⟨_, rfl, a, rfl, ⟨_, .inl ha3⟩, fun D2 hD2 => ?_⟩
            refine lc_it (walk_tup (xs := ps.map intN)) (fun i H4 => H4 = upd H3 D2 (.lst ((ps.take i).map fun p => (valV kvs1 (ky p)).getD .non))) rfl (fun i H4 _ e => ?_) (fun i y H4 H5 hi e yy => ?_) (fun H4 e => ?_)
            · rw [e]
              exact .inl ((Fr.new hD2 : Fr [] H3 _).tups _ _ ha3)
            · obtain ⟨rfl, hy⟩ := yy
              rw [List.getElem?_map] at hy
              obtain ⟨q, hq, rfl⟩ := Option.map_eq_some_iff.mp hy
              have hi' : i < ps.length := by simpa using hi
              have eq' : ps[i] = q := by
                have := List.getElem?_eq_getElem hi'
                rw [hq] at this
                exact (Option.some.inj this).symm
              have fD2 : Fr [] H3 H5 := by rw [e]; exact Fr.new hD2
              have g4 := g3.kp fD2
              obtain ⟨v, hv⟩ := all q (List.mem_of_getElem? hq)
              have W2 := W.2.1
              refine ⟨rfl, _, rfl, d.p, c.S, d.dx, _, _, rfl, g4.ip, T.clSumGraph, nL, fsS_l _ _ _ _, _, rfl, d.dl, v, rfl, hv ▸ GG.k (k := ky q) g4.dl rfl, _, (by rw [e, upd_same]), small_line ?_, ?_⟩
              · rw [List.length_map, List.length_take]
                omega
              · rw [e, upd_upd, List.take_succ_eq_append_getElem hi', List.map_append, eq']
                show _ = upd H3 D2 (.lst (_ ++ [(valV kvs1 (ky q)).getD .non]))
                rw [hv]
                rfl
            · have eL2 : (ps.take (ps.map intN).length) = ps := by simp
              rw [eL2] at e
              have fD2 : Fr [] H3 H4 := by rw [e]; exact Fr.new hD2
              have e2 : H4 D2 = some (.lst (ps.map fun p => (valV kvs1 (ky p)).getD .non)) := by rw [e, upd_same]
              have g4 := g3.kp fD2
              clear e
              obtain ⟨Ls', hLs', hV⟩ := g4.all all
              have eLs : Ls' = Ls := by
                rw [hLs] at hLs'
                exact (Option.some.inj hLs').symm
              subst eLs
              refine ⟨D2, _, rfl, .inl ⟨SqL.of e2, fun t ht5 => ?_⟩⟩
              have f5 : Fr [] H4 (upd H4 t (.tup (ps.map fun p => (valV kvs1 (ky p)).getD .non))) := Fr.new ht5
              have eT : upd H4 t (.tup (ps.map fun p => (valV kvs1 (ky p)).getD .non)) t = some (.tup (ps.map fun p => (valV kvs1 (ky p)).getD .non)) := upd_same
              generalize upd H4 t (.tup (ps.map fun p => (valV kvs1 (ky p)).getD .non)) = H5 at *
              have g5 := g4.kp f5
              have f35 : Fr [] H' H5 := (f3.trans fD2).trans f5
              have tz : T1.length ≤ 60 := by
                have := g1.len
                have := g1.tz
                omega
              refine ⟨_, rfl, d.p, d.dx, _, rfl, g5.ip, rfl, _, rfl, d.p, c.S, d.dx, _, _, rfl, g5.ip, T.clSumGraph, nG, fsS_g _ _ _ _, d.g, d.dxg, _, rfl, g5.ig, rfl, _, rfl, d.g, d.dxg, d.lh, d.dh, x, hs, o, ps, rfl, g5.ig, g5.th, hh, _, rfl,
                d.p, d.dx, d.g, d.la, d.dn, d.dl, t, o, _, Ls', T1, rfl, g5.ip, g5.ta, by omega, .inl eT, Paired.mapP hV (fun _ _ h => h.kp f5), denAll_ok hLs, W.1, fun H6 v L f6 hT6 hL6 hv => ?_⟩
              have et : grow T1 (tr hs x) = opGrow T1 o Ls' := by rw [tr_op hW hh, grow_op hLs]
              obtain ⟨M, eM, hM⟩ := opGrow_one T1 o Ls'
              have hden : den (T1 ++ M) (tr hs x) = some L := by
                rw [tr_op hW hh, den, denAll_more hLs, ← eM]
                exact hL6
              rw [eM] at hT6
              have f7 : Fr [d.la, d.dn] H' H6 := f35.nil.trans f6
              obtain ⟨e1, f8, ep, g8⟩ := g1.put f7 hT6 hM hx xl hden hv
              have lz := g1.len1 hx xl
              obtain ⟨l2, lt⟩ := l1.res (v := v) (L := L) hx (by rw [et, eM]; exact hden) lz
              rw [et, eM] at l2
              have ip3 : H6 d.p = some (.ins c.S d.dx (fsS d.g d.la d.dn d.dl)) := by
                have := g8.ip
                rw [upd_ne (ne_of g1.ip g1.dl (fun z => by cases z))] at this
                exact this
              refine ⟨_, rfl, d.p, c.S, d.dx, _, _, rfl, ip3, T.clSumGraph, nL, fsS_l _ _ _ _, _, rfl, d.dl, rfl, GP.k (k := ky x) e1 rfl (small_line (by omega)) ?_⟩
              refine ⟨_, lt, x :: r, _, _, _, _, _, _, _, _, rfl, ?_, Fr.trans fr f8, ep ▸ g8, l2, rfl⟩
              rw [f8 td _ ht (.inl tdn)]
end
end R60

set_option Elab.async false
set_option linter.all false
set_option maxRecDepth 100000
set_option maxHeartbeats 4000000
namespace R60
open PySem PySem.Spec PyProof.Rows L2 M60
/-! ### data that repr and == take -/
def GdD (d : PyData) (n m : Nat) : Prop := d.canLay0 = true ∧ d.intsShort 13 = true ∧ d.showable = true ∧ d.depth ≤ n ∧ d.weight ≤ m
def GdA (ds : List PyData) (n m : Nat) : Prop := PyData.canLayAll0 ds = true ∧ PyData.intsShortAll 13 ds = true ∧ PyData.showableAll ds = true ∧ PyData.depthAll ds ≤ n ∧ PyData.weightAll ds ≤ m
theorem GdA.nil (n m : Nat) : GdA [] n m := ⟨rfl, rfl, rfl, Nat.zero_le _, Nat.zero_le _⟩
theorem GdA.cons {x : PyData} {xs : List PyData} {n a b c : Nat} (h : GdD x n a) (g : GdA xs n b) (hc : a + 1 + b ≤ c) : GdA (x :: xs) n c := by
  obtain ⟨h1, h2, h3, h4, h5⟩ := h
  obtain ⟨g1, g2, g3, g4, g5⟩ := g
  refine ⟨?_, ?_, ?_, ?_, ?_⟩
  · rw [PyData.canLayAll0, h1, g1]; rfl
  · rw [PyData.intsShortAll, h2, g2]; rfl
  · rw [PyData.showableAll, h3, g3]; rfl
  · rw [PyData.depthAll]; omega
  · rw [PyData.weightAll]; omega
theorem GdA.tup {xs : List PyData} {n m : Nat} (h : GdA xs n m) : GdD (.tuple xs) (n + 1) m := by
  obtain ⟨g1, g2, g3, g4, g5⟩ := h
  refine ⟨?_, ?_, ?_, ?_, ?_⟩
  · rw [PyData.canLay0, g1]
  · rw [PyData.intsShort, g2]
  · rw [PyData.showable, g3]
  · rw [PyData.depth]; omega
  · rw [PyData.weight]; omega
theorem GdD.mono {d : PyData} {n m n' m' : Nat} (h : GdD d n m) (h1 : n ≤ n') (h2 : m ≤ m') : GdD d n' m' := ⟨h.1, h.2.1, h.2.2.1, Nat.le_trans h.2.2.2.1 h1, Nat.le_trans h.2.2.2.2 h2⟩
theorem gd_int {i : Int} (h : i.natAbs < 10 ^ 12) (n : Nat) : GdD (.int i) n 41 := by
  have l : i.natAbs.log2 < 40 := by
    by_cases z : i.natAbs = 0
    · rw [z]; decide
    · exact (Nat.log2_lt z).mpr (Nat.lt_trans h (by decide))
  refine ⟨by rw [PyData.canLay0], ?_, ?_, by rw [PyData.depth]; omega, ?_⟩
  · rw [PyData.intsShort]
    exact decide_eq_true (PyData.shown_int_le h)
  · rw [PyData.showable]
    exact decide_eq_true (by omega)
  · rw [PyData.weight]
    split <;> omega
theorem gd_str {x : Str} (h : PyData.strOk x = true) {m : Nat} (hm : x.cps.size ≤ m) (n : Nat) : GdD (.str x) n m := by
  refine ⟨by rw [PyData.canLay0]; exact h, by rw [PyData.intsShort], by rw [PyData.showable], by rw [PyData.depth]; omega, by rw [PyData.weight]; exact hm⟩
/-- what repr and == ask -/
def OkD (k : Dt) : Prop := k.data.showable = true ∧ k.data.depth ≤ 60 ∧ k.data.shown.length ≤ sizeLine ∧ SeqAt.shaped k.data = true
theorem GdD.ok {k : Dt} (h : GdD k.data 60 1000000) : OkD k := by
  obtain ⟨h1, h2, h3, h4, h5⟩ := h
  refine ⟨h3, h4, ?_, ?_⟩
  · refine Nat.le_trans (shown_le13 ?_ h2) (by rw [sizeLine_eq]; decide)
    unfold PyData.layable0
    rw [h1]
    simp only [Bool.true_and, Bool.and_eq_true, decide_eq_true_eq]
    exact ⟨by omega, Nat.le_trans h5 (by decide)⟩
  · unfold SeqAt.shaped
    rw [h1]
    simp only [Bool.true_and, decide_eq_true_eq]
    omega
/-! ### small linears -/
def Sm (B : Nat) (L : Lin) : Prop := L.1.natAbs ≤ B ∧ ∀ p ∈ L.2, p.2.natAbs ≤ B
theorem Sm.mono {B C : Nat} {L : Lin} (h : Sm B L) (hc : B ≤ C) : Sm C L := ⟨Nat.le_trans h.1 hc, fun p hp => Nat.le_trans (h.2 p hp) hc⟩
theorem look_sm {B : Nat} {l : List (Int × Int)} (h : ∀ p ∈ l, p.2.natAbs ≤ B) (a : Int) : (look l a).natAbs ≤ B := by
  induction l with
  | nil => exact Nat.zero_le _
  | cons p r ih =>
    by_cases e : p.1 = a
    · rw [look_pos e]; exact h p (by simp)
    · rw [look_neg e]; exact ih fun q hq => h q (List.mem_cons_of_mem _ hq)
theorem addL_sm {B C : Nat} {l m : List (Int × Int)} (hl : IsLin l) (hm : IsLin m) (h : ∀ p ∈ l, p.2.natAbs ≤ B) (g : ∀ p ∈ m, p.2.natAbs ≤ C) : ∀ p ∈ addL l m, p.2.natAbs ≤ B + C := fun p hp => by
  have e := look_mem (addL_lin (l := l) hm).nodup hp
  rw [← e, look_addL _ hl hm]
  have h1 := look_sm h p.1
  have h2 := look_sm g p.1
  omega
theorem real_sm {B : Nat} {o : Str} {Ls : List Lin} {L : Lin} (hl : ∀ M ∈ Ls, IsLin M.2 ∧ Sm B M) (hB : 7 ≤ B) (e : real o Ls = some L) : Sm (B + B) L := by
  have ng : ∀ {M : Lin}, Sm B M → ∀ p ∈ negL M.2, p.2.natAbs ≤ B := fun {M} h p hp => by
    obtain ⟨q, hq, e⟩ := List.mem_map.mp hp
    have := h.2 q hq
    rw [← e]
    show (q.2 * -1).natAbs ≤ B
    omega
  unfold real at e
  repeat' split at e
  all_goals first | (cases e; done) | skip
  all_goals (have e' := Option.some.inj e; subst e')
  · have a := hl _ (List.mem_cons_self)
    have b := hl _ (List.mem_cons_of_mem _ List.mem_cons_self)
    refine ⟨?_, addL_sm a.1 b.1 a.2.2 b.2.2⟩
    have := a.2.1
    have := b.2.1
    show (_ + _ : Int).natAbs ≤ _
    omega
  · have a := hl _ (List.mem_cons_self)
    have b := hl _ (List.mem_cons_of_mem _ List.mem_cons_self)
    refine ⟨?_, addL_sm a.1 (negL_lin b.1) a.2.2 (ng b.2)⟩
    have := a.2.1
    have := b.2.1
    show (_ - _ : Int).natAbs ≤ _
    omega
  · have a := hl _ (List.mem_cons_self)
    refine ⟨?_, fun p hp => Nat.le_trans (ng a.2 p hp) (by omega)⟩
    have := a.2.1
    show (-_ : Int).natAbs ≤ _
    omega
  · exact ⟨by show (7 : Nat) ≤ _; omega, fun _ h => nomatch h⟩
  · exact ⟨Nat.zero_le _, fun _ h => nomatch h⟩
theorem unit_sm (i : Nat) {B : Nat} (h : 1 ≤ B) : Sm B (Atom.unit i) := ⟨Nat.zero_le _, fun p hp => by rw [List.mem_singleton.mp hp]; exact h⟩
theorem denAll_mem {T : List Atom} : ∀ {ts : List M60.Tree} {Ls : List Lin}, denAll T ts = some Ls → ∀ M ∈ Ls, ∃ t ∈ ts, den T t = some M
  | [], Ls, h, M, hM => by
    rw [denAll] at h
    cases h
    cases hM
  | t :: ts, Ls, h, M, hM => by
    rw [denAll] at h
    obtain ⟨L, h1, h2⟩ := Option.bind_eq_some_iff.mp h
    obtain ⟨Ls', h3, h4⟩ := Option.map_eq_some_iff.mp h2
    subst h4
    rcases List.mem_cons.mp hM with e | hM
    · rw [e]; exact ⟨t, by simp, h1⟩
    · obtain ⟨t', ht, e⟩ := denAll_mem h3 M hM
      exact ⟨t', List.mem_cons_of_mem _ ht, e⟩
theorem real_cases0' {o : Str} {Ls : List Lin} {L : Lin} (h : real o Ls = some L) (e : Ls = []) : L = (7, []) ∨ L = (0, []) := by
  unfold real at h
  repeat' split at h
  all_goals first | (cases h; done) | (cases e; done) | skip
  all_goals (have e' := Option.some.inj h; subst e')
  · exact .inl rfl
  · exact .inr rfl
theorem real_cases0 {o : Str} {L : Lin} (h : real o [] = some L) : L = (7, []) ∨ L = (0, []) := real_cases0' h rfl
/-- the linear of the n-th of well formed heads is small -/
theorem den_sm {hs : List Hd} (W : WF hs) {T : List Atom} : ∀ (n m : Nat), m ≤ n → m < hs.length → ∀ L, den T (tr hs m) = some L → Sm (7 * 2 ^ m) L
  | n, m, hm, lt, L, h => by
    have p1 : 1 ≤ 2 ^ m := Nat.one_le_two_pow
    obtain ⟨hd, hh⟩ : ∃ hd, hs[m]? = some hd := ⟨hs[m], List.getElem?_eq_getElem lt⟩
    cases hd with
    | letter k =>
      rw [tr_letter hh, den] at h
      obtain ⟨i, _, e⟩ := Option.map_eq_some_iff.mp h
      rw [← e]
      exact unit_sm i (by omega)
    | op o ps =>
      rw [tr_op W hh, den] at h
      obtain ⟨Ls, h1, h2⟩ := Option.bind_eq_some_iff.mp h
      unfold opLin at h2
      cases q : real o Ls with
      | none =>
        rw [q] at h2
        obtain ⟨i, _, e⟩ := Option.map_eq_some_iff.mp h2
        rw [← e]
        exact unit_sm i (by omega)
      | some L' =>
        rw [q] at h2
        have e := Option.some.inj h2
        subst e
        cases m with
        | zero =>
          have : ps = [] := by
            cases ps with
            | nil => rfl
            | cons p r => exact absurd ((W 0 o _ hh).2.2 p (by simp)) (by omega)
          subst this
          have e : Ls = [] := by
            rw [List.map_nil, denAll] at h1
            exact (Option.some.inj h1).symm
          subst e
          rcases real_cases0 q with e | e <;> rw [e]
          · exact ⟨by decide, fun _ h => nomatch h⟩
          · exact ⟨by decide, fun _ h => nomatch h⟩
        | succ m' =>
          have hB : 7 ≤ 7 * 2 ^ m' := by
            have : 1 ≤ 2 ^ m' := Nat.one_le_two_pow
            omega
          have := real_sm (B := 7 * 2 ^ m') (fun M hM => by
            obtain ⟨t, ht, hd⟩ := denAll_mem h1 M hM
            obtain ⟨p, hp, e⟩ := List.mem_map.mp ht
            subst e
            have lp := (W (m' + 1) o ps hh).2.2 p hp
            refine ⟨(den_ok hd).1, (den_sm W (n - 1) p (by omega) (by omega) M hd).mono ?_⟩
            exact Nat.mul_le_mul_left _ (Nat.pow_le_pow_right (by decide) (by omega))) hB q
          exact this.mono (by rw [Nat.pow_succ]; omega)
theorem gd_pair {p : Int × Int} (h1 : p.1.natAbs < 10 ^ 12) (h2 : p.2.natAbs < 10 ^ 12) : GdD (pairD p).data 1 84 := by
  show GdD (.tuple (NestedKey.datas [.num p.1, .num p.2])) 1 84
  rw [NestedKey.datas, NestedKey.datas, NestedKey.datas, NestedKey.data, NestedKey.data]
  exact ((GdA.nil 0 0).cons (gd_int h2 0) (Nat.le_refl _) |>.cons (gd_int h1 0) (by omega)).tup
theorem gd_pairs {B : Nat} (hB : B < 10 ^ 12) : ∀ (l : List (Int × Int)), (∀ p ∈ l, p.1.natAbs < 10 ^ 12 ∧ p.2.natAbs ≤ B) → GdA (NestedKey.datas (l.map pairD)) 1 (85 * l.length)
  | [], _ => by
    rw [List.map_nil, NestedKey.datas]
    exact .nil _ _
  | p :: l, h => by
    rw [List.map_cons, NestedKey.datas]
    have hp := h p (by simp)
    exact .cons (gd_pair hp.1 (by omega)) (gd_pairs hB l fun q hq => h q (List.mem_cons_of_mem _ hq)) (by rw [List.length_cons]; omega)
theorem gd_lin {n B : Nat} {L : Lin} (hL : LOk n L) (hs : Sm B L) (hB : B < 10 ^ 12) (hn : n ≤ 60) : GdD (linD L).data 3 6000 := by
  have hl := LOk_len hL
  show GdD (.tuple (NestedKey.datas [.num L.1, .tup (L.2.map pairD)])) 3 6000
  rw [NestedKey.datas, NestedKey.datas, NestedKey.datas, NestedKey.data, NestedKey.data]
  have a := gd_pairs hB L.2 fun p hp => ⟨by have := hL.2 p hp; omega, hs.2 p hp⟩
  have b := a.tup
  exact ((GdA.nil 2 0).cons b (Nat.le_refl _) |>.cons (gd_int (by have := hs.1; omega) 2) (by omega)).tup
theorem gd_lins {n B : Nat} (hB : B < 10 ^ 12) (hn : n ≤ 60) : ∀ (Ls : List Lin), (∀ L ∈ Ls, LOk n L ∧ Sm B L) → GdA (NestedKey.datas (Ls.map linD)) 3 (6001 * Ls.length)
  | [], _ => by
    rw [List.map_nil, NestedKey.datas]
    exact .nil _ _
  | L :: Ls, h => by
    rw [List.map_cons, NestedKey.datas]
    have hp := h L (by simp)
    exact .cons (gd_lin hp.1 hp.2 hB hn) (gd_lins hB hn Ls fun q hq => h q (List.mem_cons_of_mem _ hq)) (by rw [List.length_cons]; omega)
theorem menu_ok {o : Str} (h : o ∈ menu) : PyData.strOk o = true ∧ o.cps.size ≤ 3 := by
  unfold menu at h
  simp only [List.mem_cons, List.not_mem_nil, or_false] at h
  rcases h with rfl | rfl | rfl | rfl | rfl | rfl | rfl | rfl | rfl <;> decide +kernel
/-- an atom that repr takes -/
def AOk (B : Nat) (n : Nat) : Atom → Prop
  | .letter k => 0 ≤ k ∧ k < 4
  | .op o Ls => o ∈ menu ∧ Ls.length ≤ 3 ∧ (∀ L ∈ Ls, LOk n L ∧ Sm B L) ∧ real o Ls = none
theorem gd_atom {n B : Nat} (hB : B < 10 ^ 12) (hn : n ≤ 60) {a : Atom} (h : AOk B n a) : GdD (atomD a).data 60 1000000 := by
  cases a with
  | letter k =>
    show GdD (.tuple (NestedKey.datas [.text "letter", .tup [.text "read", .num k]])) 60 1000000
    rw [NestedKey.datas, NestedKey.datas, NestedKey.datas, NestedKey.data, NestedKey.data, NestedKey.datas, NestedKey.datas, NestedKey.datas, NestedKey.data, NestedKey.data]
    have h1 : GdA [PyData.str "read", .int k] 1 100 := ((GdA.nil 1 0).cons (gd_int (by have := h.1; have := h.2; omega) 1) (Nat.le_refl _)).cons (gd_str (m := 6) (by decide +kernel) (by decide +kernel) 1) (by omega)
    have h2 : GdA [PyData.str "letter", .tuple [PyData.str "read", .int k]] 2 200 := ((GdA.nil 2 0).cons h1.tup (Nat.le_refl _)).cons (gd_str (m := 6) (by decide +kernel) (by decide +kernel) 2) (by omega)
    exact h2.tup.mono (by decide) (by decide)
  | op o Ls =>
    obtain ⟨ho, hl, hL, _⟩ := h
    show GdD (.tuple (NestedKey.datas [.text "op", .text o, .tup (Ls.map linD)])) 60 1000000
    rw [NestedKey.datas, NestedKey.datas, NestedKey.datas, NestedKey.datas, NestedKey.data, NestedKey.data, NestedKey.data]
    have mo := menu_ok ho
    have h1 := (gd_lins hB hn Ls hL).tup
    have h2 : GdA [PyData.str "op", PyData.str o, .tuple (NestedKey.datas (Ls.map linD))] 4 20000 := (((GdA.nil 4 0).cons h1 (Nat.le_refl _)).cons (gd_str mo.1 mo.2 4) (Nat.le_refl _)).cons (gd_str (m := 6) (by decide +kernel) (by decide +kernel) 4) (by omega)
    exact h2.tup.mono (by decide) (by decide)
/-! ### the worth of trees, linears and atoms -/
section
variable (ap : Str → List Int → Int) (rd : Int → Int)
mutual
def evT : M60.Tree → Int
  | .letter k => rd k
  | .op o ps => ap o (evTs ps)
def evTs : List M60.Tree → List Int
  | [] => []
  | t :: ts => evT t :: evTs ts
end
theorem evTs_map : ∀ ts : List M60.Tree, evTs ap rd ts = ts.map (evT ap rd)
  | [] => by rw [evTs]; rfl
  | t :: ts => by rw [evTs, List.map_cons, evTs_map ts]
def sumL (V : List Int) : List (Int × Int) → Int
  | [] => 0
  | p :: l => p.2 * V.getD p.1.toNat 0 + sumL V l
def evL (V : List Int) (L : Lin) : Int := L.1 + sumL V L.2
def atV (V : List Int) : Atom → Int
  | .letter k => rd k
  | .op o Ls => ap o (Ls.map (evL V))
def vals (T : List Atom) : List Int := T.foldl (fun V a => V ++ [atV ap rd V a]) []
theorem vals_snoc (T : List Atom) (a : Atom) : vals ap rd (T ++ [a]) = vals ap rd T ++ [atV ap rd (vals ap rd T) a] := by simp [vals, List.foldl_append]
theorem vals_app (T : List Atom) : ∀ M : List Atom, ∃ W, vals ap rd (T ++ M) = vals ap rd T ++ W ∧ W.length = M.length := by
  intro M
  induction M generalizing T with
  | nil => exact ⟨[], by simp⟩
  | cons h ms ih =>
    obtain ⟨M, e, l⟩ := ih (T ++ [h])
    refine ⟨atV ap rd (vals ap rd T) h :: M, ?_, by simp [l]⟩
    rw [List.append_assoc] at e
    rw [show h :: ms = [h] ++ ms from rfl, e, vals_snoc]
    simp
theorem vals_len (T : List Atom) : (vals ap rd T).length = T.length := by
  obtain ⟨M, e, l⟩ := vals_app ap rd [] T
  rw [List.nil_append] at e
  rw [e]
  show (([] : List Int) ++ M).length = _
  simpa using l
theorem sumL_app {V W : List Int} : ∀ {l : List (Int × Int)}, (∀ p ∈ l, 0 ≤ p.1 ∧ p.1 < (V.length : Int)) → sumL (V ++ W) l = sumL V l
  | [], _ => rfl
  | p :: l, h => by
    have hp := h p (by simp)
    rw [sumL, sumL, sumL_app fun q hq => h q (List.mem_cons_of_mem _ hq)]
    rw [List.getD_eq_getElem?_getD, List.getElem?_append_left (by omega), ← List.getD_eq_getElem?_getD]
theorem evL_app {V W : List Int} {L : Lin} (h : LOk V.length L) : evL (V ++ W) L = evL V L := by
  unfold evL
  rw [sumL_app h.2]
/-- atoms of linears over what stands before -/
def WFA (T : List Atom) : Prop := ∀ (i : Nat) (o : Str) (Ls : List Lin), T[i]? = some (.op o Ls) → ∀ L ∈ Ls, LOk i L
theorem vals_at {T : List Atom} (W : WFA T) {i : Nat} {a : Atom} (h : T[i]? = some a) : (vals ap rd T).getD i 0 = atV ap rd (vals ap rd T) a := by
  have hi : i < T.length := (List.getElem?_eq_some_iff.mp h).1
  have e1 : T = (T.take i ++ [a]) ++ T.drop (i + 1) := by
    have e2 := (List.getElem?_eq_some_iff.mp h).2
    rw [← e2, ← List.take_succ_eq_append_getElem hi, List.take_append_drop]
  have l : (T.take i).length = i := by simp; omega
  obtain ⟨M, e3, _⟩ := vals_app ap rd (T.take i ++ [a]) (T.drop (i + 1))
  rw [← e1, vals_snoc] at e3
  have lv : (vals ap rd (T.take i)).length = i := by rw [vals_len, l]
  rw [e3, List.append_assoc, List.getD_eq_getElem?_getD, List.getElem?_append_right (by omega), lv]
  simp only [Nat.sub_self, List.cons_append, List.nil_append, List.getElem?_cons_zero, Option.getD_some]
  cases a with
  | letter k => rfl
  | op o Ls =>
    show ap o _ = ap o _
    refine congrArg _ (List.map_congr_left fun L hL => ?_)
    exact (evL_app (by rw [lv]; exact W i o Ls h L hL)).symm
theorem sumL_ins {V : List Int} {a v : Int} : ∀ {l : List (Int × Int)}, sumL V (ins a v l) = sumL V l + v * V.getD a.toNat 0
  | [] => by
    unfold ins
    split
    · rename_i e
      rw [e]; simp [sumL]
    · simp [sumL]
  | p :: r => by
    unfold ins
    split
    · split
      · rename_i e; rw [e]; simp
      · show v * V.getD a.toNat 0 + sumL V (p :: r) = _
        omega
    · split
      · rename_i e
        split
        · rename_i z
          rw [sumL, ← e]
          have : (p.2 + v) * V.getD a.toNat 0 = 0 := by rw [z]; simp
          rw [Int.add_mul] at this
          omega
        · rw [sumL, sumL, ← e]
          show (p.2 + v) * V.getD a.toNat 0 + _ = _
          rw [Int.add_mul]
          omega
      · rw [sumL, sumL, sumL_ins]
        omega
theorem sumL_add {V : List Int} : ∀ {l m : List (Int × Int)}, sumL V (addL l m) = sumL V l + sumL V m
  | [], m => by show sumL V m = 0 + _; omega
  | p :: l, m => by
    show sumL V (ins p.1 p.2 (addL l m)) = _
    rw [sumL_ins, sumL_add, sumL]
    omega
theorem sumL_neg {V : List Int} : ∀ {l : List (Int × Int)}, sumL V (negL l) = - sumL V l
  | [] => rfl
  | p :: l => by
    show p.2 * -1 * V.getD p.1.toNat 0 + sumL V (negL l) = -(p.2 * V.getD p.1.toNat 0 + sumL V l)
    rw [sumL_neg, Int.mul_neg, Int.mul_one, Int.neg_mul]
    omega
/-- ap keeps the real operations -/
def ApOk : Prop := ∀ (V : List Int) (o : Str) (Ls : List Lin) (L : Lin), real o Ls = some L → ap o (Ls.map (evL V)) = evL V L
variable {ap rd}
mutual
theorem den_ev (A : ApOk ap) {T : List Atom} (W : WFA T) : ∀ {t : M60.Tree} {L : Lin}, den T t = some L → evT ap rd t = evL (vals ap rd T) L
  | .letter k, L, h => by
    rw [den] at h
    obtain ⟨i, hi, e⟩ := Option.map_eq_some_iff.mp h
    rw [← e, evT]
    have := vals_at ap rd W (pos_at hi)
    show rd k = 0 + (1 * (vals ap rd T).getD (i : Int).toNat 0 + 0)
    rw [Int.toNat_natCast, this]
    show rd k = 0 + (1 * rd k + 0)
    omega
  | .op o ps, L, h => by
    rw [den] at h
    obtain ⟨Ls, h1, h2⟩ := Option.bind_eq_some_iff.mp h
    have ih := denAll_ev A W h1
    rw [evT, ih]
    unfold opLin at h2
    cases q : real o Ls with
    | some L' =>
      rw [q] at h2
      have e := Option.some.inj h2
      subst e
      exact A _ o Ls _ q
    | none =>
      rw [q] at h2
      obtain ⟨i, hi, e⟩ := Option.map_eq_some_iff.mp h2
      rw [← e]
      have := vals_at ap rd W (pos_at hi)
      show ap o _ = 0 + (1 * (vals ap rd T).getD (i : Int).toNat 0 + 0)
      rw [Int.toNat_natCast, this]
      show _ = 0 + (1 * ap o (Ls.map (evL (vals ap rd T))) + 0)
      omega
theorem denAll_ev (A : ApOk ap) {T : List Atom} (W : WFA T) : ∀ {ts : List M60.Tree} {Ls : List Lin}, denAll T ts = some Ls → evTs ap rd ts = Ls.map (evL (vals ap rd T))
  | [], Ls, h => by
    rw [denAll] at h
    cases h
    rw [evTs]
    rfl
  | t :: ts, Ls, h => by
    rw [denAll] at h
    obtain ⟨L, h1, h2⟩ := Option.bind_eq_some_iff.mp h
    obtain ⟨Ls', h3, h4⟩ := Option.map_eq_some_iff.mp h2
    subst h4
    rw [evTs, List.map_cons, den_ev A W h1, denAll_ev A W h3]
end
end
/-! ### tables that grow stay well -/
def TOk (B : Nat) (T : List Atom) : Prop := WFA T ∧ ∀ a ∈ T, AOk B T.length a
theorem AOk.mono {B n m : Nat} {a : Atom} (h : AOk B n a) (l : n ≤ m) : AOk B m a := by
  cases a with
  | letter k => exact h
  | op o Ls => exact ⟨h.1, h.2.1, fun L hL => ⟨(h.2.2.1 L hL).1.mono l, (h.2.2.1 L hL).2⟩, h.2.2.2⟩
theorem TOk.add {B : Nat} {T : List Atom} {a : Atom} (h : TOk B T) (ha : AOk B T.length a) : TOk B (addA T a) := by
  by_cases q : a ∈ T
  · rw [addA_old q]; exact h
  rw [addA_new q]
  refine ⟨fun i o Ls e L hL => ?_, fun b hb => ?_⟩
  · by_cases z : i < T.length
    · rw [List.getElem?_append_left z] at e
      exact h.1 i o Ls e L hL
    · rw [List.getElem?_append_right (by omega)] at e
      have e2 := List.mem_of_getElem? e
      have e3 := List.mem_singleton.mp e2
      subst e3
      exact (ha.2.2.1 L hL).1.mono (by omega)
  · rw [List.length_append]
    rcases List.mem_append.mp hb with hb | hb
    · exact (h.2 b hb).mono (by omega)
    · rw [List.mem_singleton.mp hb]
      exact ha.mono (by omega)
theorem TOk.nil (B : Nat) : TOk B [] := ⟨fun _ _ _ e => (by cases e), fun _ h => nomatch h⟩
mutual
def TrOk : M60.Tree → Prop
  | .letter k => 0 ≤ k ∧ k < 4
  | .op o ps => o ∈ menu ∧ ps.length ≤ 3 ∧ TrsOk ps
def TrsOk : List M60.Tree → Prop
  | [] => True
  | t :: ts => TrOk t ∧ TrsOk ts
end
theorem denAll_len {T : List Atom} : ∀ {ts : List M60.Tree} {Ls : List Lin}, denAll T ts = some Ls → Ls.length = ts.length
  | [], Ls, h => by
    rw [denAll] at h
    cases h
    rfl
  | t :: ts, Ls, h => by
    rw [denAll] at h
    obtain ⟨L, h1, h2⟩ := Option.bind_eq_some_iff.mp h
    obtain ⟨Ls', h3, h4⟩ := Option.map_eq_some_iff.mp h2
    subst h4
    rw [List.length_cons, List.length_cons, denAll_len h3]
/-- a tree of the heads, whose linears are small -/
def SmAll (B : Nat) (hs : List Hd) : Prop := ∀ (T : List Atom) (n : Nat) (L : Lin), n < hs.length → den T (tr hs n) = some L → Sm B L
def LetOk (hs : List Hd) : Prop := ∀ (n : Nat) (k : Int), hs[n]? = some (.letter k) → 0 ≤ k ∧ k < 4
theorem TOk.grow {B : Nat} {hs : List Hd} (W : WF hs) (Lk : LetOk hs) (S : SmAll B hs) : ∀ (n m : Nat), m ≤ n → m < hs.length → ∀ {T : List Atom}, TOk B T → TOk B (grow T (tr hs m))
  | n, m, hm, lt, T, h => by
    obtain ⟨hd, hh⟩ : ∃ hd, hs[m]? = some hd := ⟨hs[m], List.getElem?_eq_getElem lt⟩
    cases hd with
    | letter k =>
      rw [tr_letter hh, M60.grow]
      exact h.add (Lk m k hh)
    | op o ps =>
      have Wm := W m o ps hh
      have all : ∀ (l : List Nat), (∀ p ∈ l, p < m) → ∀ {T : List Atom}, TOk B T → TOk B (growAll T (l.map (tr hs))) := by
        intro l
        induction l with
        | nil =>
          intro _ T h
          rw [List.map_nil, growAll]
          exact h
        | cons p l ih =>
          intro hl T h
          rw [List.map_cons, growAll]
          have lp := hl p (by simp)
          exact ih (fun q hq => hl q (List.mem_cons_of_mem _ hq)) (TOk.grow W Lk S (n - 1) p (by omega) (by omega) h)
      obtain ⟨Ls, hd⟩ := growAll_den T (ps.map (tr hs))
      have a := all ps Wm.2.2 h
      have e : M60.grow T (tr hs m) = opGrow (growAll T (ps.map (tr hs))) o Ls := by rw [tr_op W hh, M60.grow, hd]
      rw [e]
      unfold opGrow
      cases q : real o Ls with
      | some L => exact a
      | none =>
        have hl : Ls.length = ps.length := by
          have := denAll_len hd
          rw [List.length_map] at this
          exact this
        refine a.add ⟨Wm.1, by rw [hl]; exact Wm.2.1, fun L hL => ⟨denAll_ok hd L hL, ?_⟩, q⟩
        obtain ⟨t, ht, hden⟩ := denAll_mem hd L hL
        obtain ⟨p, hp, e⟩ := List.mem_map.mp ht
        subst e
        exact S _ p L (by have := Wm.2.2 p hp; omega) hden
theorem smAll {hs : List Hd} (W : WF hs) (hl : hs.length ≤ 30) : SmAll (7 * 2 ^ 30) hs := fun T n L lt h => (den_sm W n n (Nat.le_refl _) lt L h).mono (Nat.mul_le_mul_left _ (Nat.pow_le_pow_right (by decide) (by omega)))
end R60

set_option Elab.async false
set_option linter.all false
set_option maxRecDepth 100000
set_option maxHeartbeats 4000000
namespace R60
open PySem PySem.Spec PyProof.Rows L2 M60
section
variable {X : Cx}
theorem get_list : PGet X (fun o i H Q => ∃ p xs j v, o = .ref p ∧ i = intN j ∧ H p = some (.lst xs) ∧ xs[j]? = some v ∧ Q v H) := by
  intro pins s σ H o i ov iv Q I ro ri h
  obtain ⟨p, xs, j, v, rfl, rfl, hp, hv, q⟩ := h
  cases ro
  obtain ⟨t, rfl⟩ := ri
  obtain ⟨its, r, pl, hz⟩ := I.list (SqL.of hp)
  obtain ⟨w, ew, rw'⟩ := r.get hv
  have hj : j < its.length := (List.getElem?_eq_some_iff.mp ew).1
  have hl := r.length
  have hn := line63
  refine getItem_listL pl.isList (by omega) (by omega) (by simpa using ew) ⟨v, H, I, rw', q⟩
end
/-- the bag of the draws -/
def BagC (H : Hp) (a c : Addr) : Prop := ∃ (b0 b1 : Int) (b2 : Nat) (cs : List Int), H a = some (.lst [.int b0, .int b1, intN b2, .ref c]) ∧ H c = some (.lst (cs.map V.int)) ∧ 0 ≤ b0 ∧ 0 ≤ b1 ∧ b1 < 2147483647 ∧ (∀ x ∈ cs, 0 ≤ x) ∧ cs.length ≤ 63
theorem BagC.kp {S : List Addr} {H H' : Hp} {a c : Addr} (b : BagC H a c) (f : Fr S H H') (ha : a ∉ S) (hc : c ∉ S) : BagC H' a c := by
  obtain ⟨b0, b1, b2, cs, h1, h2, r⟩ := b
  exact ⟨b0, b1, b2, cs, f _ _ h1 (.inl ha), f _ _ h2 (.inl hc), r⟩
theorem BagC.fr {H H' : Hp} {a c : Addr} (b : BagC H a c) (f : Fr [] H H') : BagC H' a c := b.kp f (fun h => nomatch h) (fun h => nomatch h)
theorem BagC.here {H : Hp} {a c : Addr} (b : BagC H a c) : (∃ xs, H a = some (.lst xs)) ∧ ∃ xs, H c = some (.lst xs) := by
  obtain ⟨b0, b1, b2, cs, h1, h2, r⟩ := b
  exact ⟨⟨_, h1⟩, ⟨_, h2⟩⟩
/-- kept, where one's own new place changes -/
theorem BagC.own {H0 H : Hp} {a c p : Addr} {u : HO} (b : BagC H a c) (b0 : BagC H0 a c) (h0 : H0 p = none) : BagC (upd H p u) a c := by
  obtain ⟨⟨x1, e1⟩, ⟨x2, e2⟩⟩ := b0.here
  have na : a ≠ p := fun z => by rw [z, h0] at e1; cases e1
  have nc : c ≠ p := fun z => by rw [z, h0] at e2; cases e2
  obtain ⟨b0, b1, b2, cs, h1, h2, r⟩ := b
  exact ⟨b0, b1, b2, cs, (upd_ne na).trans h1, (upd_ne nc).trans h2, r⟩
theorem tSeq_mid {t1 t2 : TS} {D : Ends} {σ : L2.St} {H : Hp} (Pm : L2.St → Hp → Prop) (h2 : ∀ σ H, Pm σ H → t2 D σ H) (h1 : ∀ N : L2.St → Hp → Prop, (∀ σ H, Pm σ H → N σ H) → t1 { D with nx := N } σ H) : tSeq t1 t2 D σ H := h1 _ h2
theorem ixn {n j : Nat} (h : j < n) : ixN n (j : Int) = some j := by
  unfold ixN
  rw [if_pos (by omega), if_pos (by omega)]
  simp
theorem absV (i : Int) : 0 ≤ (if i < 0 then -i else i) := by
  split <;> omega
section
variable {P : Program} {w : World} {K : PySem.W.Frag} {mg : Str → Option Value} {base : Heap}
/-! ### _law_bag -/
def spBag (K : PySem.W.Frag) : Sp := fun vs H Q _ => ∃ (a : Addr) (ns : List Int), vs = [.ref a] ∧ SqL K H a (ns.map V.int) ∧ ∀ H' p c, Fr [] H H' → H p = none → H c = none → BagC H' p c → Q (.ref p) H'
theorem sc__law_bag : FnScope ["script", "cell"] ["script"] (defScope s_law_bag) := ⟨rfl, rfl, rfl, by decide +kernel, rfl, by decide +kernel, by decide +kernel⟩
theorem ok_law_bag {f : Addr} {fd : FuncData} (B : Bl mg) (F : Fun K "_law_bag" "_law_bag" s_law_bag f fd) : FnOk P w K mg base CX0 1 f fd ["script"] (spBag K) := by
  refine F.ok sc__law_bag (fun vs H Q E h => ?_) (fun cdv A outer s H vs Q E hr h => ?_)
  · obtain ⟨a, ns, rfl, _⟩ := h
    rfl
  obtain ⟨a, ns, rfl, ha, k⟩ := h
  refine ⟨_, (pss_one (ps_ret (pe_lst (pa_cons pe_int (pa_cons pe_int (pa_cons pe_int (pa_cons (pe_lc (own := [("cell", 1)]) rfl sc__law_bag.nd (pi_list (pe_slice sl_list (pv 0) po_none (po_some pe_int))) (blkOk_by (N := ["script", "cell"]) (sc := defScope s_law_bag) (by decide +kernel)) (fun _ _ _ _ _ => (pg_name (i := 1) sc__law_bag.nd rfl (Or.inl rfl))) (fun _ _ _ _ _ => pts_nil) (fun _ _ _ _ _ => (pe_callB call_abs rfl B.abs b_abs (pa_cons (pv 1) pa_nil)))) pa_nil))))))), ?_⟩
  refine ⟨_, rfl, 63, rfl, a, _, rfl, ha, fun c0 h0 => ⟨c0, rfl, ⟨_, SqL.of upd_same⟩, fun c hc => ?_⟩⟩
  have n0 : c ≠ c0 := fun e => by rw [e, upd_same] at hc; cases hc
  have hcH : H c = none := by rw [upd_ne n0] at hc; exact hc
  generalize ex : cutV (ns.map V.int) none (some 63) = xs at hc ⊢
  have hx : ∀ i (hi : i < xs.length), ∃ z, xs[i] = V.int z := fun i hi => by
    have : xs[i] ∈ ns.map V.int := by
      have h1 : xs[i] ∈ cutV (ns.map V.int) none (some 63) := by rw [ex]; exact List.getElem_mem hi
      unfold cutV at h1
      exact List.mem_of_mem_drop (List.mem_of_mem_take h1)
    obtain ⟨z, _, e⟩ := List.mem_map.mp this
    exact ⟨z, e.symm⟩
  have hl : xs.length ≤ 63 := by
    rw [← ex]
    unfold cutV
    rw [List.length_take]
    have : HT.sIx (ns.map V.int).length (ns.map V.int).length (some 63) ≤ 63 := by
      rw [show (some 63 : Option Int) = some ((63 : Nat) : Int) from rfl, HT.sIx_nat]
      omega
    omega
  refine lc_it (walk_list (xs := xs)) (fun i H1 => ∃ cs : List Int, cs.length = i ∧ (∀ x ∈ cs, 0 ≤ x) ∧ H1 = upd (upd H c0 (.lst xs)) c (.lst (cs.map V.int))) ⟨[], rfl, (fun _ h => nomatch h), rfl⟩ (fun i H1 _ e => ?_) (fun i y H1 H2 hi e yy => ?_) (fun H1 e => ?_)
  · obtain ⟨cs, _, _, e⟩ := e
    rw [e]
    exact SqL.of (by rw [upd_ne n0.symm, upd_same])
  · obtain ⟨cs, hcs, hp, e⟩ := e
    obtain ⟨rfl, hy⟩ := yy
    obtain ⟨z, hz⟩ := hx i hi
    rw [List.getElem?_eq_getElem hi, hz] at hy
    have hy := Option.some.inj hy
    subst hy
    refine ⟨rfl, _, rfl, z, rfl, cs.map V.int, (by rw [e, upd_same]), small_line (by rw [List.length_map]; omega), cs ++ [if z < 0 then -z else z], by simp [hcs], fun x hx => ?_, ?_⟩
    · rcases List.mem_append.mp hx with hx | hx
      · exact hp x hx
      · rw [List.mem_singleton.mp hx]
        exact absV z
    · rw [e, upd_upd]
      simp
  · obtain ⟨cs, hcs, hp, e⟩ := e
    have e1 : H1 c = some (.lst (cs.map V.int)) := by rw [e, upd_same]
    refine ⟨(by show 4 ≤ sizeLine; decide), fun p hp0 => ?_⟩
    have pc : p ≠ c := fun z => by rw [z, e1] at hp0; cases hp0
    have p0 : p ≠ c0 := fun z => by rw [z, e, upd_ne n0.symm, upd_same] at hp0; cases hp0
    have hpH : H p = none := by rw [e, upd_ne pc, upd_ne p0] at hp0; exact hp0
    refine k _ p c (((Fr.new h0).trans (by rw [e]; exact Fr.new hc)).trans (Fr.new hp0)) hpH hcH ⟨0, 1234567891, 0, cs, upd_same, by rw [upd_ne pc.symm]; exact e1, by decide, by decide, by decide, hp, by omega⟩
/-! ### _law_take -/
def spTake : Sp := fun vs H Q _ => ∃ (a c : Addr) (m : Int), vs = [.ref a, .int m] ∧ BagC H a c ∧ 0 < m ∧ m < 1073741824 ∧ ∀ H' (v : Nat), Fr [a] H H' → BagC H' a c → (v : Int) < m → Q (intN v) H'
theorem sc__law_take : FnScope ["bag", "many", "cell", "stirred", "value", "begin", "second"] ["bag", "many"] (defScope s_law_take) := ⟨rfl, rfl, rfl, by decide +kernel, rfl, by decide +kernel, by decide +kernel⟩
theorem ok_law_take {f : Addr} {fd : FuncData} (B : Bl mg) (F : Fun K "_law_take" "_law_take" s_law_take f fd) : FnOk P w K mg base CX0 1 f fd ["bag", "many"] spTake := by
  refine F.ok sc__law_take (fun vs H Q E h => ?_) (fun cdv A outer s H vs Q E hr h => ?_)
  · obtain ⟨a, c, m, rfl, _⟩ := h
    rfl
  obtain ⟨a, c, m, rfl, ha, m1, m2, k⟩ := h
  refine ⟨_, (pss_cons (ps_if (pt_cmpR op_eq (pe_ix ix_list (pv 0) pe_int (fun _ _ => rfl)) pe_int (nomark _))
      (pss_cons (ps_set (i := 2) sc__law_take.nd rfl (Or.inl rfl) (pe_ix ix_list (pe_op op_cat (pe_slice sl_list (pe_ix ix_list (pv 0) pe_int (fun _ _ => rfl)) (po_some (pe_ix ix_list (pv 0) pe_int (fun _ _ => rfl))) po_none) (pe_lst (pa_cons pe_int pa_nil))) pe_int (fun _ _ => rfl)))
    (pss_cons (ps_augS (pv 0) pe_int get_list pe_int ip_add set_list)
    (pss_cons (ps_if (pt_cmpR op_ge (pv 2) (pe_op op_pow pe_int pe_int) (nomark _))
      (pss_one (ps_asg (pv 2) (pg_sub (pv 0) pe_int set_list)))
      pss_nil)
    (pss_cons (ps_set (i := 3) sc__law_take.nd rfl (Or.inl rfl) (pe_op op_add (pe_op op_add (pe_op op_mul (pe_ix ix_list (pv 0) pe_int (fun _ _ => rfl)) pe_int) (pe_op op_mod (pe_callTy call_int1 rfl B.int b_int (pa_cons (pv 2) pa_nil)) pe_int)) (pe_op op_mul pe_int (pe_ix ix_list (pv 0) pe_int (fun _ _ => rfl)))))
    (pss_one (ps_asg (pe_op op_mod (pe_callTy call_int1 rfl B.int b_int (pa_cons (pv 3) pa_nil)) pe_int) (pg_sub (pv 0) pe_int set_list)))))))
      pss_nil)
    (pss_cons (ps_if (pt_cmpR op_gt (pe_ix ix_list (pv 0) pe_int (fun _ _ => rfl)) pe_int (nomark _))
      (pss_cons (ps_set (i := 4) sc__law_take.nd rfl (Or.inl rfl) (pe_op op_mod (pe_callTy call_int1 rfl B.int b_int (pa_cons (pe_ix ix_list (pv 0) pe_int (fun _ _ => rfl)) pa_nil)) (pv 1)))
    (pss_cons (ps_asg (pe_op op_fdiv (pe_callTy call_int1 rfl B.int b_int (pa_cons (pe_ix ix_list (pv 0) pe_int (fun _ _ => rfl)) pa_nil)) (pv 1)) (pg_sub (pv 0) pe_int set_list))
    (pss_one (ps_ret (pv 4)))))
      pss_nil)
    (pss_cons (ps_set (i := 5) sc__law_take.nd rfl (Or.inl rfl) (pe_op op_mod (pe_callTy call_int1 rfl B.int b_int (pa_cons (pe_op op_mul (pe_op op_add (pe_ix ix_list (pv 0) pe_int (fun _ _ => rfl)) pe_int) pe_int) pa_nil)) pe_int))
    (pss_cons (ps_set (i := 6) sc__law_take.nd rfl (Or.inl rfl) (pe_op op_mod (pe_callTy call_int1 rfl B.int b_int (pa_cons (pe_op op_mul (pe_op op_mod (pe_callTy call_int1 rfl B.int b_int (pa_cons (pe_op op_mul (pv 5) (pv 5)) pa_nil)) pe_int) pe_int) pa_nil)) pe_int))
    (pss_one (ps_ret (pe_op op_mod (pe_callTy call_int1 rfl B.int b_int (pa_cons (pe_op op_fdiv (pv 6) pe_int) pa_nil)) (pv 1)))))))), ?_⟩
  refine tSeq_mid (fun σ' H' => (∃ z1 z2, σ' = [some (.ref a), some (.int m), z1, z2, none, none, none]) ∧ Fr [a] H H' ∧ BagC H' a c) (fun σ' H' e => ?_) (fun N hN => ?_)
  · obtain ⟨⟨z1, z2, rfl⟩, fr, b0, b1, b2, cs, h1, h2, p0, p1, p2, p3, p4⟩ := e
    have s0 : SqL K H' a [.int b0, .int b1, intN b2, .ref c] := SqL.of h1
    refine ⟨_, rfl, a, _, 0, _, rfl, rfl, s0, atI_nat (j := 0) rfl, _, _, rfl, rfl, _, rfl, ?_⟩
    refine ite2 (fun c0 => ?_) (fun c0 => ?_)
    · have c0 := of_decide_eq_true c0
      refine ⟨_, rfl, a, _, 0, _, rfl, rfl, s0, atI_nat (j := 0) rfl, .inl ⟨b0, rfl, _, rfl, _, _, rfl, rfl, m1, ?_⟩⟩
      refine ⟨_, rfl, a, _, 0, _, rfl, rfl, s0, atI_nat (j := 0) rfl, .inl ⟨b0, rfl, _, rfl, _, _, rfl, rfl, ⟨m1, m2⟩, _, rfl, a, _, 0, 0, rfl, rfl, h1, ixn (n := 4) (j := 0) (by decide), ?_⟩⟩
      refine ⟨_, rfl, ?_⟩
      have e1 : 0 ≤ b0 % m := Int.emod_nonneg _ (by omega)
      have e2 : b0 % m < m := Int.emod_lt_of_pos _ m1
      obtain ⟨v, hv⟩ := Int.eq_ofNat_of_zero_le e1
      rw [hv] at e2
      have ca : c ≠ a := fun z => by
        rw [z, h1] at h2
        have := HO.lst.inj (Option.some.inj h2)
        cases cs with
        | nil => cases this
        | cons x0 r0 =>
          have e := List.cons.inj this
          have e := e.2
          have q := congrArg (fun l : List V => l[2]?) e
          have q2 : ((r0.map V.int)[2]?) = some (.ref c) := q.symm
          rw [List.getElem?_map] at q2
          obtain ⟨z, _, q3⟩ := Option.map_eq_some_iff.mp q2
          cases q3
      have ev : V.int (b0 % m) = intN v := by rw [hv]
      show Q (V.int (b0 % m)) _
      rw [ev]
      refine k _ v (fr.trans (Fr.old List.mem_cons_self h1 (fun z => z))) ⟨b0 / m, b1, b2, cs, upd_same, by rw [upd_ne ca]; exact h2, Int.ediv_nonneg p0 (by omega), p1, p2, p3, p4⟩ e2
    · refine ⟨_, rfl, a, _, 1, _, rfl, rfl, s0, atI_nat (j := 1) rfl, _, _, rfl, rfl, _, _, rfl, rfl, .inr (by decide), .inl ⟨_, rfl, _, _, rfl, rfl, (show (0 : Int) < 1000000007 by decide), ?_⟩⟩
      have g1 : 0 ≤ (b1 + 1) * 39373 % 1000000007 := Int.emod_nonneg _ (by decide)
      have g2 : (b1 + 1) * 39373 % 1000000007 < 1000000007 := Int.emod_lt_of_pos _ (by decide)
      refine ⟨_, rfl, _, rfl, _, _, rfl, rfl, .inl ⟨Int.lt_of_lt_of_le (by decide) g1, Int.lt_trans g2 (by decide)⟩, .inl ⟨_, rfl, _, _, rfl, rfl, (show (0 : Int) < 998244353 by decide), _, _, rfl, rfl, .inr (by decide), .inl ⟨_, rfl, _, _, rfl, rfl, (show (0 : Int) < 998244353 by decide), ?_⟩⟩⟩
      refine ⟨_, rfl, _, _, rfl, rfl, ⟨by decide, by decide⟩, .inl ⟨_, rfl, _, rfl, _, _, rfl, rfl, m1, ?_⟩⟩
      have key : ∀ sc : Int, Q (V.int (sc % m)) H' := fun sc => by
        have e1 : 0 ≤ sc % m := Int.emod_nonneg _ (by omega)
        have e2 : sc % m < m := Int.emod_lt_of_pos _ m1
        obtain ⟨v, hv⟩ := Int.eq_ofNat_of_zero_le e1
        rw [hv] at e2
        have ev : V.int (sc % m) = intN v := by rw [hv]
        rw [ev]
        exact k _ v fr ⟨b0, b1, b2, cs, h1, h2, p0, p1, p2, p3, p4⟩ e2
      exact key _
  · obtain ⟨b0, b1, b2, cs, h1, h2, p0, p1, p2, p3, p4⟩ := ha
    have s0 : SqL K H a [.int b0, .int b1, intN b2, .ref c] := SqL.of h1
    have ca : c ≠ a := fun z => by
      rw [z, h1] at h2
      have := HO.lst.inj (Option.some.inj h2)
      cases cs with
      | nil => cases this
      | cons x0 r0 =>
        have e := List.cons.inj this
        have e := e.2
        have q := congrArg (fun l : List V => l[2]?) e
        have q2 : ((r0.map V.int)[2]?) = some (.ref c) := q.symm
        rw [List.getElem?_map] at q2
        obtain ⟨z, _, q3⟩ := Option.map_eq_some_iff.mp q2
        cases q3
    refine ⟨_, rfl, a, _, 0, _, rfl, rfl, s0, atI_nat (j := 0) rfl, rfl, _, rfl, ?_⟩
    refine ite2 (fun c0 => ?_) (fun c0 => ?_)
    · have b00 : b0 = 0 := V.int.inj (of_decide_eq_true c0)
      generalize ex : cutV (cs.map V.int) (some (b2 : Int)) none = xs
      have hl : xs.length ≤ 63 := by
        rw [← ex]
        have := cutV_length (cs.map V.int) (some (b2 : Int)) none
        rw [List.length_map] at this
        omega
      obtain ⟨z, hz, z0⟩ : ∃ z, (xs ++ [V.int 0])[0]? = some (V.int z) ∧ 0 ≤ z := by
        cases hxs : xs with
        | nil => exact ⟨0, rfl, by decide⟩
        | cons y r =>
          have : y ∈ cs.map V.int := by
            have h1 : y ∈ cutV (cs.map V.int) (some (b2 : Int)) none := by rw [ex, hxs]; simp
            unfold cutV at h1
            exact List.mem_of_mem_drop (List.mem_of_mem_take h1)
          obtain ⟨z, hz, e⟩ := List.mem_map.mp this
          exact ⟨z, by rw [← e]; rfl, p3 z hz⟩
      refine ⟨_, rfl, a, _, 3, _, rfl, rfl, s0, atI_nat (j := 3) rfl, _, rfl, a, _, 2, _, rfl, rfl, s0, atI_nat (j := 2) rfl, (b2 : Int), rfl, c, _, rfl, SqL.of h2, fun q1 n1 => ?_⟩
      rw [ex]
      refine ⟨(by show 1 ≤ sizeLine; decide), fun q2 n2 => ⟨q1, q2, xs, [.int 0], rfl, rfl, ?_, upd_same, small_le (by show xs.length + 1 ≤ _; omega), fun q3 n3 => ⟨q3, _, 0, _, rfl, rfl, SqL.of upd_same, atI_nat (j := 0) hz, ?_⟩⟩⟩
      · have n12 : q1 ≠ q2 := fun e => by rw [← e, upd_same] at n2; cases n2
        rw [upd_ne n12, upd_same]
      have f1 : Fr [a] H (upd (upd (upd H q1 (.lst xs)) q2 (.lst [.int 0])) q3 (.lst (xs ++ [.int 0]))) := ((Fr.new n1).trans (Fr.new n2)).trans (Fr.new n3)
      have f1' : Fr [] H (upd (upd (upd H q1 (.lst xs)) q2 (.lst [.int 0])) q3 (.lst (xs ++ [.int 0]))) := ((Fr.new n1).trans (Fr.new n2)).trans (Fr.new n3)
      have g1 := f1' _ _ h1 (.inl (fun h => nomatch h))
      have g2 := f1' _ _ h2 (.inl (fun h => nomatch h))
      generalize upd (upd (upd H q1 (.lst xs)) q2 (.lst [.int 0])) q3 (.lst (xs ++ [.int 0])) = H1 at *
      -- bag[2] += 1
      refine ⟨_, rfl, a, _, 2, intN b2, rfl, rfl, g1, rfl, _, _, rfl, rfl, a, _, 2, 2, rfl, rfl, g1, ixn (n := 4) (j := 2) (by decide), ?_⟩
      dsimp only
      refine tSeq_mid (fun σ' H' => σ' = [some (.ref a), some (.int m), some (.int z), none, none, none, none] ∧ Fr [a] H H' ∧ ∃ d0, 0 ≤ d0 ∧ H' a = some (.lst [.int d0, .int b1, intN (b2 + 1), .ref c]) ∧ H' c = some (.lst (cs.map V.int))) (fun σ' H' e => ?_) (fun N2 hN2 => ?_)
      · obtain ⟨rfl, fr, d0, pd, k1, k2⟩ := e
        have s1 : SqL K H' a [.int d0, .int b1, intN (b2 + 1), .ref c] := SqL.of k1
        refine ⟨_, rfl, a, _, 1, _, rfl, rfl, s1, atI_nat (j := 1) rfl, _, _, rfl, rfl, .inr (by decide), _, rfl, .inl ⟨_, rfl, _, _, rfl, rfl, (show (0 : Int) < 2147483647 by decide), _, _, rfl, rfl, _, rfl, a, _, 2, _, rfl, rfl, s1, atI_nat (j := 2) rfl, _, _, rfl, rfl, .inl (by decide), _, _, rfl, rfl, ?_⟩⟩
        have key : ∀ st : Int, N [some (.ref a), some (.int m), some (.int z), some (.int st), none, none, none] (upd H' a (.lst [.int d0, .int (st % 2147483647), intN (b2 + 1), .ref c])) := fun st => by
          refine hN _ _ ⟨⟨_, _, rfl⟩, fr.trans (Fr.old List.mem_cons_self k1 (fun z => z)), d0, st % 2147483647, b2 + 1, cs, upd_same, by rw [upd_ne ca]; exact k2, pd, Int.emod_nonneg _ (by decide), Int.emod_lt_of_pos _ (by decide), p3, p4⟩
        exact ⟨_, rfl, .inl ⟨_, rfl, _, _, rfl, rfl, (show (0 : Int) < 2147483647 by decide), _, rfl, a, _, 1, 1, rfl, rfl, k1, ixn (n := 4) (j := 1) (by decide), key _⟩⟩
      · have f2 : Fr [a] H (upd H1 a (.lst [.int b0, .int b1, intN (b2 + 1), .ref c])) := f1.trans (Fr.old List.mem_cons_self g1 (fun z => z))
        refine ⟨_, rfl, _, _, rfl, rfl, ⟨by decide, by decide, by decide⟩, _, _, rfl, rfl, _, rfl, ?_⟩
        refine ite2 (fun cz => ?_) (fun cz => ?_)
        · refine ⟨_, rfl, _, rfl, a, _, 0, 0, rfl, rfl, upd_same, ixn (n := 4) (j := 0) (by decide), ?_⟩
          refine hN2 _ _ ⟨rfl, f2.trans (Fr.old List.mem_cons_self upd_same (fun z => z)), z, z0, upd_same, ?_⟩
          rw [upd_ne ca]
          exact (upd_ne ca).trans g2
        · exact hN2 _ _ ⟨rfl, f2, b0, p0, upd_same, (upd_ne ca).trans g2⟩
    · exact hN _ _ ⟨⟨_, _, rfl⟩, Fr.refl _ _, b0, b1, b2, cs, h1, h2, p0, p1, p2, p3, p4⟩
end
end R60

set_option Elab.async false
set_option linter.all false
set_option maxRecDepth 100000
set_option maxHeartbeats 4000000
namespace R60
open PySem PySem.Spec PyProof.Rows L2 M60
section
variable {P : Program} {w : World} {K : PySem.W.Frag} {mg : Str → Option Value} {base : Heap}
/-! ### _law_some -/
def spSome : Sp := fun vs H Q _ => ∃ (a c b : Addr) (xs : List V), vs = [.ref a, .ref b] ∧ BagC H a c ∧ H b = some (.lst xs) ∧ b ≠ a ∧ xs ≠ [] ∧ xs.length < 1000000 ∧ ∀ H' (i : Nat) v, Fr [a] H H' → BagC H' a c → xs[i]? = some v → Q v H'
theorem sc__law_some : FnScope ["bag", "things"] ["bag", "things"] (defScope s_law_some) := ⟨rfl, rfl, rfl, by decide +kernel, rfl, by decide +kernel, by decide +kernel⟩
theorem ok_law_some {f f1 : Addr} {fd fd1 : FuncData} (B : Bl mg) (F : Fun K "_law_some" "_law_some" s_law_some f fd) (D_law_take : Df P w K mg base 1 "_law_take" f1 fd1 ["bag", "many"] spTake) : FnOk P w K mg base CX0 2 f fd ["bag", "things"] spSome := by
  refine F.ok sc__law_some (fun vs H Q E h => ?_) (fun cdv A outer s H vs Q E hr h => ?_)
  · obtain ⟨a, c, b, xs, rfl, _⟩ := h
    rfl
  obtain ⟨a, c, b, xs, rfl, ha, hb, ne, nn, hl, k⟩ := h
  refine ⟨_, (pss_one (ps_ret (pe_ix ix_list (pv 1) (pe_call D_law_take.ok hr rfl D_law_take.gx D_law_take.kp D_law_take.b .nil pass0 (pa_cons (pv 0) (pa_cons (pe_callB call_len rfl B.len b_len (pa_cons (pv 1) pa_nil)) pa_nil))) (fun _ _ => rfl)))), ?_⟩
  have h0 : 0 < xs.length := List.length_pos_iff.mpr nn
  refine ⟨_, rfl, _, rfl, _, rfl, _, xs.length, rfl, .inl ⟨xs, SqL.of hb, rfl⟩, a, c, _, rfl, ha, by omega, by omega, fun H1 v f1 b1 lt => ?_⟩
  have lt' : v < xs.length := by omega
  refine ⟨b, xs, v, xs[v], rfl, rfl, SqL.of (f1 _ _ hb (.inl (by simp [ne]))), atI_nat (List.getElem?_eq_getElem lt'), ?_⟩
  exact k H1 v _ f1 b1 (List.getElem?_eq_getElem lt')
/-! ### _law_mixed -/
def spMixed : Sp := fun vs H Q _ => ∃ (a c b : Addr) (xs : List V), vs = [.ref a, .ref b] ∧ BagC H a c ∧ H b = some (.lst xs) ∧ b ≠ a ∧ xs.length < 1000000 ∧ ∀ H' p ys, Fr [a] H H' → BagC H' a c → H p = none → H' p = some (.lst ys) → ys.Perm xs → Q (.ref p) H'
theorem sc__law_mixed : FnScope ["bag", "things", "found", "thing"] ["bag", "things"] (defScope s_law_mixed) := ⟨rfl, rfl, rfl, by decide +kernel, rfl, by decide +kernel, by decide +kernel⟩
theorem ok_law_mixed {f f1 : Addr} {fd fd1 : FuncData} (B : Bl mg) (F : Fun K "_law_mixed" "_law_mixed" s_law_mixed f fd) (D_law_take : Df P w K mg base 1 "_law_take" f1 fd1 ["bag", "many"] spTake) : FnOk P w K mg base CX0 2 f fd ["bag", "things"] spMixed := by
  refine F.ok sc__law_mixed (fun vs H Q E h => ?_) (fun cdv A outer s H vs Q E hr h => ?_)
  · obtain ⟨a, c, b, xs, rfl, _⟩ := h
    rfl
  obtain ⟨a, c, b, xs, rfl, ha, hb, ne, hl, k⟩ := h
  refine ⟨_, (pss_cons (ps_set (i := 2) sc__law_mixed.nd rfl (Or.inl rfl) (pe_lst pa_nil))
    (pss_cons (ps_for PassesOwn.never rfl (pi_list (pv 1)) (pg_name (i := 3) sc__law_mixed.nd rfl (Or.inl rfl))
      (pss_one (ps_expr (pe_bm PySem.F.plainAttrs_list PySem.F.slot_list_insert PySem.F.type_list_insert mt_insert (pv 2) (pa_cons (pe_call D_law_take.ok hr rfl D_law_take.gx D_law_take.kp D_law_take.b .nil pass0 (pa_cons (pv 0) (pa_cons (pe_op op_add (pe_callB call_len rfl B.len b_len (pa_cons (pv 2) pa_nil)) pe_int) pa_nil))) (pa_cons (pv 3) pa_nil))))))
    (pss_one (ps_ret (pv 2))))), ?_⟩
  refine ⟨(by show 0 ≤ sizeLine; decide), fun p hp => ?_⟩
  have fp : Fr [] H (upd H p (.lst [])) := Fr.new hp
  have eb := fp _ _ hb (.inl (fun h => nomatch h))
  have pb : b ≠ p := ne_of_none hb hp
  refine ⟨_, rfl, b, rfl, ⟨_, SqL.of eb⟩, ?_⟩
  refine for_it (walk_list (xs := xs)) (fun i σ' H' => (∃ z, σ' = [some (.ref a), some (.ref b), some (.ref p), z]) ∧ Fr [a] H H' ∧ BagC H' a c ∧ ∃ ys, H' p = some (.lst ys) ∧ ys.Perm (xs.take i))
    ⟨⟨_, rfl⟩, fp.nil, ha.fr fp, [], upd_same, .refl _⟩ (fun i σ' H' _ e => SqL.of (e.2.1 _ _ hb (.inl (by simp [ne])))) (fun i x σ' H1 H' hi e y => ?_) (fun σ' H' e => ?_)
  · obtain ⟨⟨z, rfl⟩, fr, bg, ys, ey, pm⟩ := e
    obtain ⟨rfl, hx⟩ := y
    have ly : ys.length ≤ i := by
      have := pm.length_eq
      rw [List.length_take] at this
      omega
    refine ⟨_, rfl, .inl ⟨rfl, _, SqL.of ey⟩, _, rfl, _, rfl, _, ys.length, rfl, .inl ⟨ys, SqL.of ey, rfl⟩, _, _, rfl, rfl, a, c, _, rfl, bg, by omega, by omega, fun H2 v f2 b2 lt => ?_⟩
    have pa : p ∉ [a] := fun z => by
      obtain ⟨⟨_, e1⟩, _⟩ := ha.here
      rw [List.mem_singleton.mp z, e1] at hp
      cases hp
    have ey2 := f2 _ _ ey (.inl pa)
    refine ⟨_, rfl, p, ys, v, x, rfl, rfl, ey2, small_line (by omega), by omega, by omega, ⟨_, rfl⟩, fun b u e n => ?_, b2.own ha hp, _, upd_same, ?_⟩
    · rw [upd_ne (ne_of_none e hp)]
      exact (fr.trans f2) b u e n
    · rw [List.getElem?_eq_getElem hi] at hx
      have hx := Option.some.inj hx
      rw [List.take_succ_eq_append_getElem hi, hx]
      have e1 : (ys.take (v : Int).toNat ++ [x] ++ ys.drop (v : Int).toNat).Perm (x :: (ys.take (v : Int).toNat ++ ys.drop (v : Int).toNat)) := by
        rw [List.append_assoc]
        exact List.perm_middle
      refine e1.trans ?_
      rw [List.take_append_drop]
      exact (List.Perm.cons x pm).trans (List.perm_append_singleton x (xs.take i)).symm
  · obtain ⟨⟨z, rfl⟩, fr, bg, ys, ey, pm⟩ := e
    rw [List.take_length] at pm
    exact ⟨_, rfl, k H' p ys fr bg hp ey pm⟩
end
end R60

set_option Elab.async false
set_option linter.all false
set_option maxRecDepth 100000
set_option maxHeartbeats 4000000
namespace R60
open PySem PySem.Spec PyProof.Rows L2 M60
/-! ### keys of the law -/
def keyK : Hd → List Dt
  | .letter k => [.text "letter", .text "read", .num k]
  | .op o ps => [.text "op", .text o, .tup (ps.map numN)]
def keyD (h : Hd) : Dt := .tup (keyK h)
theorem keyD_inj (a b : Hd) (h : keyD a = keyD b) : a = b := by
  unfold keyD at h
  injection h with h
  cases a with
  | letter k =>
    cases b with
    | letter j =>
      unfold keyK at h
      injection h with _ h
      injection h with _ h
      injection h with h _
      injection h with h
      rw [h]
    | op o Ls =>
      unfold keyK at h
      injection h with h _
      injection h with h
      exact absurd h lo_ne
  | op o Ls =>
    cases b with
    | letter j =>
      unfold keyK at h
      injection h with h _
      injection h with h
      exact absurd h.symm lo_ne
    | op o' Ls' =>
      unfold keyK at h
      injection h with _ h
      injection h with h1 h
      injection h with h _
      injection h with h
      injection h1 with h1
      rw [h1, map_inj numN_inj h]
theorem keyD_depth (a : Hd) : (NestedKey.tup (keyK a)).depth ≤ 8 := by
  cases a with
  | letter k =>
    show max 0 (max 0 (max 0 0)) + 1 ≤ 8
    decide
  | op o Ls =>
    have h := nums_depth Ls
    show max 0 (max 0 (max (NestedKey.depthAll (Ls.map numN) + 1) 0)) + 1 ≤ 8
    omega
/-! ### the worth of an operation -/
def signs : Str := "0123456789abcdefghijklmnopqrstuvwxyz"
def digs : Str := "0123456789"
def idx (c : Nat) : Int := (((Builtin.Str.occurrences signs ⟨#[c]⟩ 0 signs.length 1).headD 0 : Nat) : Int)
def hashS (h : Int) (l : List Nat) : Int := l.foldl (fun h c => (31 * h + idx c + 1) % 1000003) h
def hashW (h : Int) (l : List Int) : Int := l.foldl (fun h c => (37 * h + c + 1) % 1000003) h
def dig (o : Str) : Bool := !(Builtin.Str.occurrences digs ⟨#[o.cps.toList.headD 0]⟩ 0 digs.length 1).isEmpty
def apI (m : Int) (o : Str) (ws : List Int) : Int := if ws.isEmpty = true ∧ dig o = true then (PySem.intText? o).getD 0 else if inV (.str o) [.str "add", .str "sub"] = true ∧ ws.length = 2 then ws.getD 0 0 + ws.getD 1 0 * (if decide (V.str o = V.str "add") = true then 1 else -1) else
  if decide (V.str o = V.str "neg") = true ∧ ws.length = 1 then - ws.getD 0 0 else hashW (hashS (m % 1000003) o.cps.toList) ws - 500000
theorem apOk (m : Int) : ApOk (apI m) := fun V o Ls L h => by
  unfold apI
  rcases real_cases h with ⟨rfl, x, y, rfl, rfl⟩ | ⟨rfl, x, y, rfl, rfl⟩ | ⟨rfl, x, rfl, rfl⟩ | ⟨rfl, rfl, rfl⟩ | ⟨rfl, rfl, rfl⟩
  · rw [if_neg (fun z => by cases z.1), if_pos ⟨by rfl, rfl⟩, if_pos (se _)]
    show evL V x + evL V y * 1 = (x.1 + y.1) + sumL V (addL x.2 y.2)
    rw [sumL_add]
    unfold evL
    omega
  · rw [if_neg (fun z => by cases z.1), if_pos ⟨by rfl, rfl⟩, if_neg (sn (by decide))]
    show evL V x + evL V y * -1 = (x.1 - y.1) + sumL V (addL x.2 (negL y.2))
    rw [sumL_add, sumL_neg]
    unfold evL
    omega
  · rw [if_neg (fun z => by cases z.1), if_neg (fun z => by cases z.2), if_pos ⟨se _, rfl⟩]
    show - evL V x = (-x.1) + sumL V (negL x.2)
    rw [sumL_neg]
    unfold evL
    omega
  · rw [if_pos ⟨rfl, by decide +kernel⟩, it7]
    rfl
  · rw [if_pos ⟨rfl, by decide +kernel⟩, it0]
    rfl
theorem menu_first {o : Str} (h : o ∈ menu) : o.cps.toList[0]? = some (o.cps.toList.headD 0) ∧ o.length ≤ 3 := by
  unfold menu at h
  simp only [List.mem_cons, List.not_mem_nil, or_false] at h
  rcases h with rfl | rfl | rfl | rfl | rfl | rfl | rfl | rfl | rfl <;> decide +kernel
theorem menu_dig {o : Str} (h : o ∈ menu) (d : dig o = true) : ∃ n, PySem.intText? o = some n := by
  unfold menu at h
  simp only [List.mem_cons, List.not_mem_nil, or_false] at h
  rcases h with rfl | rfl | rfl | rfl | rfl | rfl | rfl | rfl | rfl
  all_goals first | exact ⟨7, it7⟩ | exact ⟨0, it0⟩ | exact absurd d (by decide +kernel)
theorem menu_sign {o : Str} (h : o ∈ menu) : ∀ c ∈ o.cps.toList, ∃ i r, Builtin.Str.occurrences signs ⟨#[c]⟩ 0 signs.length 1 = i :: r := by
  unfold menu at h
  simp only [List.mem_cons, List.not_mem_nil, or_false] at h
  have key : ∀ o : Str, (o.cps.toList.all fun c => !(Builtin.Str.occurrences signs ⟨#[c]⟩ 0 signs.length 1).isEmpty) = true → ∀ c ∈ o.cps.toList, ∃ i r, Builtin.Str.occurrences signs ⟨#[c]⟩ 0 signs.length 1 = i :: r := fun o h c hc => by
    have := List.all_eq_true.mp h c hc
    cases q : Builtin.Str.occurrences signs ⟨#[c]⟩ 0 signs.length 1 with
    | nil => rw [q] at this; cases this
    | cons i r => exact ⟨i, r, rfl⟩
  rcases h with rfl | rfl | rfl | rfl | rfl | rfl | rfl | rfl | rfl <;> exact key _ (by decide +kernel)
section
variable {P : Program} {w : World} {K : PySem.W.Frag} {mg : Str → Option Value} {base : Heap}
/-! ### _law_alike -/
def spAlike : Sp := fun vs H Q _ => ∃ (x y : V) (k : Dt), vs = [x, y] ∧ Rep H k x ∧ Rep H k y ∧ OkD k ∧ Q (.bl true) H
theorem sc__law_alike : FnScope ["found", "due"] ["found", "due"] (defScope s_law_alike) := ⟨rfl, rfl, rfl, by decide +kernel, rfl, by decide +kernel, by decide +kernel⟩
theorem ok_law_alike {f : Addr} {fd : FuncData} (B : Bl mg) (F : Fun K "_law_alike" "_law_alike" s_law_alike f fd) : FnG P w K mg base 1 f fd ["found", "due"] spAlike := by
  refine okG F sc__law_alike (fun vs H Q E h => ?_) (fun cdv A outer s H vs Q E hgd hr h => ?_)
  · obtain ⟨x, y, k, rfl, _⟩ := h
    rfl
  obtain ⟨x, y, k, rfl, hx, hy, ⟨h1, h2, h3, h4⟩, q⟩ := h
  have hu := hr.units
  refine ⟨_, (pss_one (ps_ret (pe_and (pe_cmpR op_eq (pe_callB (call_reprD hu hgd) rfl B.repr b_repr (pa_cons (pv 0) pa_nil)) (pe_callB (call_reprD hu hgd) rfl B.repr b_repr (pa_cons (pv 1) pa_nil)) (nomark _)) (pe_one (pe_cmpR (op_eq_same hu) (pv 0) (pv 1) (nomark _)))))), ?_⟩
  refine ⟨_, rfl, k, x, rfl, hx, h1, h2, h3, _, rfl, k, y, rfl, hy, h1, h2, h3, rfl, _, rfl, ?_⟩
  refine ite2 (fun _ => ?_) (fun c => absurd (decide_eq_true rfl) c)
  exact ⟨_, rfl, _, rfl, k, hx, hy, h4, q⟩
/-! ### _law_graph -/
def spGraphL (w : World) : Sp := fun vs H Q _ => vs = [] ∧ ∀ H' t l d, Fr [] H H' → H t = none → H l = none → H d = none → Rd H' t (.tup [.ref d, .ref l]) → TabH keyD w H' l d [] → Q (.ref t) H'
theorem sc__law_graph : FnScope [] [] (defScope s_law_graph) := ⟨rfl, rfl, rfl, by decide +kernel, rfl, by decide +kernel, by decide +kernel⟩
theorem ok_law_graph {f : Addr} {fd : FuncData} (B : Bl mg) (F : Fun K "_law_graph" "_law_graph" s_law_graph f fd) : FnOk P w K mg base CX0 1 f fd [] (spGraphL w) := by
  refine F.ok sc__law_graph (fun vs H Q E h => ?_) (fun cdv A outer s H vs Q E hr h => ?_)
  · obtain ⟨rfl, _⟩ := h
    rfl
  obtain ⟨rfl, k⟩ := h
  refine ⟨_, (pss_one (ps_ret (pe_tup (pa_cons (pe_newN (w := w)) (pa_cons (pe_lst pa_nil) pa_nil))))), ?_⟩
  refine fun d o hd dn => ⟨(by show 0 ≤ sizeLine; decide), fun l hl => ⟨(by show 2 ≤ sizeLine; decide), fun t ht => ?_⟩⟩
  have ld : l ≠ d := fun e => by rw [e, upd_same] at hl; cases hl
  have hl0 : H l = none := by rw [upd_ne ld] at hl; exact hl
  have tl : t ≠ l := fun e => by rw [e, upd_same] at ht; cases ht
  have td : t ≠ d := fun e => by rw [e, upd_ne ld.symm, upd_same] at ht; cases ht
  have ht0 : H t = none := by rw [upd_ne tl, upd_ne td] at ht; exact ht
  have fl : Fr [] (upd H d (exo d o)) (upd (upd (upd H d (exo d o)) l (.lst [])) t (.tup [.ref d, .ref l])) := (Fr.new hl).trans (Fr.new ht)
  refine k _ t l d ((Fr.new hd).trans fl) ht0 hl0 hd (.inl upd_same) ⟨⟨[], ?_, .nil⟩, dn.keep ?_ fl.tups, List.nodup_nil, Nat.zero_le _⟩
  · rw [upd_ne tl.symm, upd_same]
  · rw [upd_ne td.symm, upd_ne ld.symm]
/-! ### _law_node -/
def spNodeL (w : World) : Sp := fun vs H Q _ => ∃ (g l d : Addr) (v : V) (T : List Hd) (a : Hd), vs = [.ref g, v] ∧ Rd H g (.tup [.ref d, .ref l]) ∧ TabH keyD w H l d T ∧ T.length ≤ 500 ∧ Rep H (keyD a) v ∧
  ∀ H' (i : Nat), Fr [l, d] H H' → TabH keyD w H' l d (addH T a) → (addH T a)[i]? = some a → Q (.int (i : Int)) H'
theorem sc__law_node : FnScope ["graph", "key"] ["graph", "key"] (defScope s_law_node) := ⟨rfl, rfl, rfl, by decide +kernel, rfl, by decide +kernel, by decide +kernel⟩
theorem ok_law_node {f : Addr} {fd : FuncData} (B : Bl mg) (F : Fun K "_law_node" "_law_node" s_law_node f fd) : FnOk P w K mg base CX0 1 f fd ["graph", "key"] (spNodeL w) := by
  refine F.ok sc__law_node (fun vs H Q E h => ?_) (fun cdv A outer s H vs Q E hr h => ?_)
  · obtain ⟨g, l, d, v, T, a, rfl, _⟩ := h
    rfl
  obtain ⟨g, l, d, v, Tb, a, rfl, hg, hT, hz, hv, k⟩ := h
  have hu := hr.units
  refine ⟨_, (pss_cons (ps_if (pt_cmp (xc_notin (P := P) (w := w) (pv 1) (pe_ix ix_tup (pv 0) pe_int (fun _ _ => rfl)) hu))
      (pss_cons (xs_put (P := P) (w := w) (pe_ix ix_tup (pv 0) pe_int (fun _ _ => rfl)) (pv 1) (pe_callB call_len rfl B.len b_len (pa_cons (pe_ix ix_tup (pv 0) pe_int (fun _ _ => rfl)) pa_nil)) hu rfl)
    (pss_one (ps_expr (pe_bm PySem.F.plainAttrs_list PySem.F.slot_list_append PySem.F.type_list_append mt_append (pe_ix ix_tup (pv 0) pe_int (fun _ _ => rfl)) (pa_cons (pv 1) pa_nil)))))
      pss_nil)
    (pss_one (ps_ret (xe_get (P := P) (w := w) (pe_ix ix_tup (pv 0) pe_int (fun _ _ => rfl)) (pv 1) (fun _ _ => rfl) hu)))), ?_⟩
  obtain ⟨us, hl, rl⟩ := hT.li
  have hlen : us.length = Tb.length := rl.length.trans (by simp)
  refine ⟨_, rfl, _, rfl, g, _, 0, _, rfl, rfl, .inl hg, atI_nat (j := 0) rfl, d, _, rfl, GG.n hT.nu hv (keyD_depth a), _, rfl, ?_⟩
  have ev := enumH_val keyD_inj Tb a
  cases q : Tb.idxOf? a with
  | some i =>
    rw [q] at ev
    have ev : valV (enumF keyD 0 Tb) (.tup (keyK a)) = some (V.int (i : Int)) := ev
    rw [ev]
    refine iteF ?_
    refine ⟨_, rfl, g, _, 0, _, rfl, rfl, .inl hg, atI_nat (j := 0) rfl, _, rfl, d, _, rfl, ev ▸ GG.n hT.nu hv (keyD_depth a), ?_⟩
    have am : a ∈ Tb := List.mem_of_getElem? (idx_at q)
    exact k H i (Fr.refl _ _) (by rw [addH_old am]; exact hT) (by rw [addH_old am]; exact idx_at q)
  | none =>
    rw [q] at ev
    have ev : valV (enumF keyD 0 Tb) (.tup (keyK a)) = none := ev
    rw [ev]
    refine iteT ?_
    have am : a ∉ Tb := idx_none.mp q
    refine ⟨_, rfl, g, _, 1, _, rfl, rfl, .inl hg, atI_nat (j := 1) rfl, _, us.length, rfl, .inl ⟨us, SqL.of hl, rfl⟩, ?_⟩
    refine ⟨_, rfl, g, _, 0, _, rfl, rfl, .inl hg, atI_nat (j := 0) rfl, _, rfl, d, rfl, GP.n hT.nu hv (keyD_depth a) ?_ fun o dnew => ?_⟩
    · refine small_line ?_
      rw [enumF_len]
      omega
    obtain ⟨hl1, f3, hT2⟩ := hT.add keyD_inj am hl rl hv hz dnew
    obtain ⟨o0, e0⟩ := hT.nu.at
    have hg1 : Rd (upd H d (exo d o)) g (.tup [.ref d, .ref l]) := (Fr.old (S := [d]) List.mem_cons_self e0 (fun z => z)).tups _ _ hg
    have hg2 := f3.tups _ _ hg
    refine ⟨_, rfl, g, _, 1, _, rfl, rfl, .inl hg1, atI_nat (j := 1) rfl, .inl ⟨rfl, _, SqL.of hl1⟩, _, rfl, l, us, v, rfl, rfl, hl1, (small_line (by omega)), ?_⟩
    have ev2 : valV (enumF keyD 0 (Tb ++ [a])) (.tup (keyK a)) = some (V.int (Tb.length : Int)) := by
      have := enumH_val keyD_inj (Tb ++ [a]) a
      rw [idx_new am] at this
      exact this
    refine ⟨_, rfl, g, _, 0, _, rfl, rfl, .inl hg2, atI_nat (j := 0) rfl, _, rfl, d, _, rfl, ev2 ▸ GG.n hT2.nu (hv.kp f3.tups) (keyD_depth a), ?_⟩
    exact k _ Tb.length f3 (by rw [addH_new am]; exact hT2) (by rw [addH_new am, List.getElem?_append_right (Nat.le_refl _)]; simp)
/-! ### _law_applied -/
def spApplied : Sp := fun vs H Q _ => ∃ (t a : Addr) (m : Int) (o : Str) (ws : List Int), vs = [.ref t, .str o, .ref a] ∧ Rd H t (.tup [.str "numbers", .int m]) ∧ Rd H a (.tup (ws.map V.int)) ∧ o ∈ menu ∧ ws.length ≤ 3 ∧ ∀ H', Fr [] H H' → Q (.int (apI m o ws)) H'
theorem sc__law_applied : FnScope ["meaning", "o", "parts", "h", "sign", "w", "rows", "op", "its", "worth"] ["meaning", "o", "parts"] (defScope s_law_applied) := ⟨rfl, rfl, rfl, by decide +kernel, rfl, by decide +kernel, by decide +kernel⟩
theorem ok_law_applied {f : Addr} {fd : FuncData} (B : Bl mg) (F : Fun K "_law_applied" "_law_applied" s_law_applied f fd) : FnOk P w K mg base CX0 1 f fd ["meaning", "o", "parts"] spApplied := by
  refine F.ok sc__law_applied (fun vs H Q E h => ?_) (fun cdv A outer s H vs Q E hr h => ?_)
  · obtain ⟨t, a, m, o, ws, rfl, _⟩ := h
    rfl
  obtain ⟨t, a, m, o, ws, rfl, ht, ha, ho, hw, k⟩ := h
  have hu := hr.units
  refine ⟨_, (pss_cons (ps_if (pt_cmpR op_ne (pe_ix ix_tup (pv 0) pe_int (fun _ _ => rfl)) pe_str (nomark _))
      (pss_cons (ps_if (PW.pt (pw_and (pt_cmpR (op_eqD hu) (pv 2) (pe_tup pa_nil) (nomark _)) (pw_and1 (pt_cmpR op_in_str (pe_ix ix_str (pv 1) pe_int (fun _ _ => rfl)) pe_str rfl))))
      (pss_one (ps_ret (pe_callTy call_int_str rfl B.int b_int (pa_cons (pv 1) pa_nil))))
      pss_nil)
    (pss_cons (ps_if (PW.pt (pw_and (pt_cmpR op_in_seq (pv 1) (pe_tup (pa_cons pe_str (pa_cons pe_str pa_nil))) rfl) (pw_and1 (pt_cmpR op_eq (pe_callB call_len rfl B.len b_len (pa_cons (pv 2) pa_nil)) pe_int (nomark _)))))
      (pss_one (ps_ret (pe_op op_add (pe_ix ix_tup (pv 2) pe_int (fun _ _ => rfl)) (pe_op op_mul (pe_ix ix_tup (pv 2) pe_int (fun _ _ => rfl)) (pe_ifExp (pt_cmpR op_eq (pv 1) pe_str (nomark _)) pe_int (pe_un un_neg pe_int))))))
      pss_nil)
    (pss_one (ps_if (PW.pt (pw_and (pt_cmpR op_eq (pv 1) pe_str (nomark _)) (pw_and1 (pt_cmpR op_eq (pe_callB call_len rfl B.len b_len (pa_cons (pv 2) pa_nil)) pe_int (nomark _)))))
      (pss_one (ps_ret (pe_un un_neg (pe_ix ix_tup (pv 2) pe_int (fun _ _ => rfl)))))
      pss_nil))))
      pss_nil)
    (pss_cons (ps_if (pt_cmpR op_eq (pe_ix ix_tup (pv 0) pe_int (fun _ _ => rfl)) pe_str (nomark _))
      (pss_cons (ps_set (i := 3) sc__law_applied.nd rfl (Or.inl rfl) (pe_op op_mod (pe_callTy call_int1 rfl B.int b_int (pa_cons (pe_ix ix_tup (pv 0) pe_int (fun _ _ => rfl)) pa_nil)) pe_int))
    (pss_cons (ps_for PassesOwn.never rfl (pi_str (pv 1)) (pg_name (i := 4) sc__law_applied.nd rfl (Or.inl rfl))
      (pss_one (ps_set (i := 3) sc__law_applied.nd rfl (Or.inl rfl) (pe_op op_mod (pe_callTy call_int1 rfl B.int b_int (pa_cons (pe_op op_add (pe_op op_add (pe_op op_mul pe_int (pv 3)) (pe_bm PySem.F.plainAttrs_str PySem.F.slot_str_index PySem.F.type_str_index mt_sindex pe_str (pa_cons (pv 4) pa_nil))) pe_int) pa_nil)) pe_int))))
    (pss_cons (ps_for PassesOwn.never rfl (pi_tup (pv 2)) (pg_name (i := 5) sc__law_applied.nd rfl (Or.inl rfl))
      (pss_one (ps_set (i := 3) sc__law_applied.nd rfl (Or.inl rfl) (pe_op op_mod (pe_callTy call_int1 rfl B.int b_int (pa_cons (pe_op op_add (pe_op op_add (pe_op op_mul pe_int (pv 3)) (pv 5)) pe_int) pa_nil)) pe_int))))
    (pss_one (ps_ret (pe_op op_sub (pv 3) pe_int))))))
      pss_nil)
    (pss_cons ps_never
    (pss_one ps_never)))), ?_⟩
  have ra : Rep H (.tup (ws.map NestedKey.num)) (.ref a) := .tup ha (reps_nums ws)
  have e0 : SeqAt.shaped (NestedKey.tup []).data = true := by decide +kernel
  have sh : SeqAt.shaped (NestedKey.tup (ws.map NestedKey.num)).data = true ∧ PyData.eqv (NestedKey.tup (ws.map NestedKey.num)).data (NestedKey.tup []).data = ws.isEmpty := by
    match ws, hw with
    | [], _ => exact ⟨e0, by simp [NestedKey.data, NestedKey.datas, PyData.eqv, PyData.eqvAll]⟩
    | [x], _ => exact ⟨by simp [SeqAt.shaped, NestedKey.data, NestedKey.datas, PyData.canLay0, PyData.canLayAll0, PyData.depth, PyData.depthAll], by simp [NestedKey.data, NestedKey.datas, PyData.eqv, PyData.eqvAll]⟩
    | [x, y], _ => exact ⟨by simp [SeqAt.shaped, NestedKey.data, NestedKey.datas, PyData.canLay0, PyData.canLayAll0, PyData.depth, PyData.depthAll], by simp [NestedKey.data, NestedKey.datas, PyData.eqv, PyData.eqvAll]⟩
    | [x, y, z], _ => exact ⟨by simp [SeqAt.shaped, NestedKey.data, NestedKey.datas, PyData.canLay0, PyData.canLayAll0, PyData.depth, PyData.depthAll], by simp [NestedKey.data, NestedKey.datas, PyData.eqv, PyData.eqvAll]⟩
    | _ :: _ :: _ :: _ :: _, h => simp at h
  obtain ⟨m1, m2⟩ := menu_first ho
  refine tSeq_mid (fun σ' H' => σ' = L2.start ["meaning", "o", "parts", "h", "sign", "w", "rows", "op", "its", "worth"] [.ref t, .str o, .ref a] ∧ Fr [] H H' ∧ apI m o ws = hashW (hashS (m % 1000003) o.cps.toList) ws - 500000) (fun σ' H' e => ?_) (fun N hN => ?_)
  · obtain ⟨rfl, fr, ea⟩ := e
    have ht' := fr.tups _ _ ht
    have ha' := fr.tups _ _ ha
    refine ⟨_, rfl, t, _, 0, _, rfl, rfl, .inl ht', atI_nat (j := 0) rfl, rfl, _, rfl, ?_⟩
    refine ite2 (fun _ => ?_) (fun z => absurd (se _) z)
    refine ⟨_, rfl, t, _, 1, _, rfl, rfl, .inl ht', atI_nat (j := 1) rfl, .inl ⟨m, rfl, _, _, rfl, rfl, (show (0 : Int) < 1000003 by decide), ?_⟩⟩
    have first : ∀ i, i ≤ o.cps.toList.length → hashS (m % 1000003) (o.cps.toList.take (i + 1)) = hashS (m % 1000003) (o.cps.toList.take (i + 1)) := fun _ _ => rfl
    -- for sign in o
    dsimp only
    refine ⟨_, rfl, o, rfl, ?_⟩
    refine for_it (walk_str (z := o)) (fun i σ2 H2 => (∃ z1, σ2 = [some (.ref t), some (.str o), some (.ref a), some (.int (hashS (m % 1000003) (o.cps.toList.take i))), z1, none, none, none, none, none]) ∧ H2 = H') ⟨⟨_, rfl⟩, rfl⟩ (fun _ _ _ _ _ => True.intro) (fun i x σ2 H1 H2 hi e y => ?_) (fun σ2 H2 e => ?_)
    · obtain ⟨⟨z1, rfl⟩, rfl⟩ := e
      obtain ⟨rfl, c, hc, rfl⟩ := y
      have hc' : o.cps.toList[i]? = some c := by simpa using hc
      obtain ⟨j, r, hj⟩ := menu_sign ho c (List.mem_of_getElem? hc')
      have hi' : i < o.cps.toList.length := (List.getElem?_eq_some_iff.mp hc').1
      have tk : o.cps.toList.take (i + 1) = o.cps.toList.take i ++ [c] := by
        rw [List.take_succ_eq_append_getElem hi']
        rw [List.getElem?_eq_getElem hi'] at hc'
        rw [Option.some.inj hc']
      refine ⟨_, rfl, _, _, rfl, rfl, .inl (by decide), rfl, _, rfl, signs, _, j, r, rfl, rfl, hj, _, _, rfl, rfl, _, _, rfl, rfl, .inl ⟨_, rfl, _, _, rfl, rfl, (show (0 : Int) < 1000003 by decide), ⟨⟨some (.str ⟨#[c]⟩), ?_⟩, rfl⟩⟩⟩
      rw [tk]
      unfold hashS
      rw [List.foldl_append]
      show _ = [_, _, _, some (V.int ((31 * _ + idx c + 1) % 1000003)), _, _, _, _, _, _]
      have ei : idx c = (j : Int) := by
        unfold idx
        rw [hj]
        rfl
      rw [ei]
      rfl
    · obtain ⟨⟨z1, rfl⟩, rfl⟩ := e
      have eo : o.cps.toList.take o.cps.size = o.cps.toList := List.take_of_length_le (by simp)
      rw [eo]
      refine ⟨_, rfl, a, rfl, ⟨_, .inl ha'⟩, ?_⟩
      refine for_it (walk_tup (xs := ws.map V.int)) (fun i σ3 H3 => (∃ z2, σ3 = [some (.ref t), some (.str o), some (.ref a), some (.int (hashW (hashS (m % 1000003) o.cps.toList) (ws.take i))), z1, z2, none, none, none, none]) ∧ H3 = H2) ⟨⟨_, rfl⟩, rfl⟩ (fun i σ3 H3 _ e => by rw [e.2]; exact .inl ha') (fun i x σ3 H1 H3 hi e y => ?_) (fun σ3 H3 e => ?_)
      · obtain ⟨⟨z2, rfl⟩, rfl⟩ := e
        obtain ⟨rfl, hx⟩ := y
        rw [List.getElem?_map] at hx
        obtain ⟨v, hv, rfl⟩ := Option.map_eq_some_iff.mp hx
        have hi' : i < ws.length := (List.getElem?_eq_some_iff.mp hv).1
        have tk : ws.take (i + 1) = ws.take i ++ [v] := by
          rw [List.take_succ_eq_append_getElem hi']
          rw [List.getElem?_eq_getElem hi'] at hv
          rw [Option.some.inj hv]
        refine ⟨_, rfl, _, _, rfl, rfl, .inl (by decide), _, rfl, _, _, rfl, rfl, _, _, rfl, rfl, .inl ⟨_, rfl, _, _, rfl, rfl, (show (0 : Int) < 1000003 by decide), ⟨⟨some (.int v), ?_⟩, rfl⟩⟩⟩
        rw [tk]
        unfold hashW
        rw [List.foldl_append]
        rfl
      · obtain ⟨⟨z2, rfl⟩, rfl⟩ := e
        have el : ws.take (ws.map V.int).length = ws := by simp
        rw [el]
        refine ⟨_, rfl, _, _, rfl, rfl, ?_⟩
        have := k H3 fr
        rw [ea] at this
        exact this
  · refine ⟨_, rfl, t, _, 0, _, rfl, rfl, .inl ht, atI_nat (j := 0) rfl, rfl, _, rfl, ?_⟩
    refine iteT ?_
    have len2 : ∀ {H2 : Hp}, Rd H2 a (.tup (ws.map V.int)) → LenV K (.ref a) H2 ws.length := fun h => .inr ⟨_, .inl h, by simp⟩
    refine tSeq_mid (fun σ' H' => σ' = L2.start ["meaning", "o", "parts", "h", "sign", "w", "rows", "op", "its", "worth"] [.ref t, .str o, .ref a] ∧ Fr [] H H' ∧ ¬ (ws.isEmpty = true ∧ dig o = true)) (fun σ' H' e => ?_) (fun N1 hN1 => ?_)
    · obtain ⟨rfl, fr, n1⟩ := e
      refine tSeq_mid (fun σ' H' => σ' = L2.start ["meaning", "o", "parts", "h", "sign", "w", "rows", "op", "its", "worth"] [.ref t, .str o, .ref a] ∧ Fr [] H H' ∧ ¬ (inV (.str o) [.str "add", .str "sub"] = true ∧ ws.length = 2)) (fun σ' H' e => ?_) (fun N2 hN2 => ?_)
      · obtain ⟨rfl, fr, n2⟩ := e
        have ha' := fr.tups _ _ ha
        have fin : ¬ (decide (V.str o = V.str "neg") = true ∧ ws.length = 1) → apI m o ws = hashW (hashS (m % 1000003) o.cps.toList) ws - 500000 := fun n3 => by
          unfold apI
          rw [if_neg n1, if_neg n2, if_neg n3]
        refine ⟨_, rfl, rfl, _, rfl, ?_⟩
        refine ite2 (fun c => ?_) (fun c => ?_)
        · refine ⟨_, rfl, _, ws.length, rfl, len2 ha', rfl, _, rfl, ?_⟩
          refine ite2 (fun c2 => ?_) (fun c2 => ?_)
          · have l1 : ws.length = 1 := by have := V.int.inj (of_decide_eq_true c2); omega
            obtain ⟨x, rfl⟩ := List.length_eq_one_iff.mp l1
            refine ⟨_, rfl, a, _, 0, _, rfl, rfl, .inl ha', atI_nat (j := 0) rfl, _, rfl, ?_⟩
            have := k H' fr
            unfold apI at this
            rw [if_neg n1, if_neg n2, if_pos ⟨c, rfl⟩] at this
            exact this
          · exact hN _ _ ⟨rfl, fr, fin fun z => c2 (decide_eq_true (by rw [z.2]; rfl))⟩
        · exact hN _ _ ⟨rfl, fr, fin fun z => c z.1⟩
      · have ha' := fr.tups _ _ ha
        refine ⟨_, rfl, (by show 2 ≤ sizeLine; decide), fun p hp => ?_⟩
        have f1 : Fr [] H (upd H' p (.tup [.str "add", .str "sub"])) := fr.trans (Fr.new hp)
        have hp1 : upd H' p (.tup [.str "add", .str "sub"]) p = some (.tup [.str "add", .str "sub"]) := upd_same
        generalize upd H' p (.tup [.str "add", .str "sub"]) = H1 at *
        have ha1 := f1.tups _ _ ha
        refine ⟨p, _, rfl, .inr (SqT.of hp1), rfl, rfl, _, rfl, ?_⟩
        refine ite2 (fun c => ?_) (fun c => ?_)
        · refine ⟨_, rfl, _, ws.length, rfl, len2 ha1, rfl, _, rfl, ?_⟩
          refine ite2 (fun c2 => ?_) (fun c2 => ?_)
          · have l2 : ws.length = 2 := by have := V.int.inj (of_decide_eq_true c2); omega
            obtain ⟨x, y, rfl⟩ : ∃ x y, ws = [x, y] := by
              match ws, l2 with
              | [x, y], _ => exact ⟨x, y, rfl⟩
            refine ⟨_, rfl, a, _, 0, _, rfl, rfl, .inl ha1, atI_nat (j := 0) rfl, _, rfl, a, _, 1, _, rfl, rfl, .inl ha1, atI_nat (j := 1) rfl, _, rfl, rfl, _, rfl, ?_⟩
            have kk := k H1 f1
            unfold apI at kk
            rw [if_neg n1, if_pos ⟨c, rfl⟩] at kk
            refine ite2 (fun c3 => ?_) (fun c3 => ?_)
            · rw [if_pos c3] at kk
              exact ⟨_, _, rfl, rfl, .inr (by decide), _, _, rfl, rfl, kk⟩
            · rw [if_neg c3] at kk
              exact ⟨1, rfl, _, _, rfl, rfl, .inr (by decide), _, _, rfl, rfl, kk⟩
          · exact hN2 _ _ ⟨rfl, f1, fun z => c2 (decide_eq_true (by rw [z.2]; rfl))⟩
        · exact hN2 _ _ ⟨rfl, f1, fun z => c z.1⟩
    · refine ⟨_, rfl, (by show 0 ≤ sizeLine; decide), fun p hp => ?_⟩
      have f1 : Fr [] H (upd H p (.tup [])) := Fr.new hp
      have hp1 : upd H p (.tup []) p = some (.tup []) := upd_same
      generalize upd H p (.tup []) = H1 at *
      refine ⟨_, _, Rep.dp _ _ (ra.kp f1.tups), Rep.dp (.tup []) _ (.tup (.inl hp1) .nil), sh.1, e0, ?_⟩
      rw [sh.2]
      refine ⟨_, rfl, ?_⟩
      refine ite2 (fun c => ?_) (fun c => ?_)
      · refine ⟨_, rfl, o, 0, _, rfl, rfl, small_le (by omega), atI_nat (j := 0) m1, _, digs, rfl, rfl, _, rfl, ?_⟩
        refine ite2 (fun c2 => ?_) (fun c2 => ?_)
        · have c2 : dig o = true := c2
          obtain ⟨n, hn⟩ := menu_dig ho c2
          refine ⟨_, rfl, o, n, rfl, hn, by omega, ?_⟩
          have := k H1 f1
          unfold apI at this
          rw [if_pos ⟨c, c2⟩, hn] at this
          exact this
        · exact hN1 _ _ ⟨rfl, f1, fun z => c2 z.2⟩
      · exact hN1 _ _ ⟨rfl, f1, fun z => c z.1⟩
end
end R60

set_option Elab.async false
set_option linter.all false
set_option maxRecDepth 100000
set_option maxHeartbeats 400000
namespace R60
open PySem PySem.Spec PyProof.Rows L2 M60
section
variable {X : Cx} {K : PySem.W.Frag}
theorem call_lenX (hK : X.K = K := by rfl) : CallR X (.builtin "len") (fun xs H Q => ∃ x n, xs = [x] ∧ LenV K x H n ∧ Q (.int n) H) := hK ▸ call_len
end
def rdI (rs : List Int) (k : Int) : Int := rs.getD k.toNat 0
/-- worths of the trees of the heads -/
def wsOf (m : Int) (rs : List Int) (hs : List Hd) : List Int := (List.range hs.length).map fun n => evT (apI m) (rdI rs) (tr hs n)
section
variable {P : Program} {w : World} {K : PySem.W.Frag} {mg : Str → Option Value} {base : Heap}
/-! ### _law_worths -/
def spWorths : Sp := fun vs H Q _ => ∃ (g l t b d : Addr) (us : List V) (m : Int) (rs : List Int) (hs : List Hd), vs = [.ref g, .ref t, .ref b] ∧ Rd H g (.tup [.ref d, .ref l]) ∧ H l = some (.lst us) ∧ Reps H (hs.map keyD) us ∧ WF hs ∧ LetOk hs ∧ hs.length ≤ 100 ∧ Rd H t (.tup [.str "numbers", .int m]) ∧ H b = some (.lst (rs.map V.int)) ∧ rs.length = 5 ∧
  ∀ H' p, Fr [] H H' → H p = none → H' p = some (.lst ((wsOf m rs hs).map V.int)) → Q (.ref p) H'
theorem sc__law_worths : FnScope ["graph", "meaning", "reads", "found", "key", "part"] ["graph", "meaning", "reads"] (defScope s_law_worths) := ⟨rfl, rfl, rfl, by decide +kernel, rfl, by decide +kernel, by decide +kernel⟩
theorem ok_law_worths {f f1 : Addr} {fd fd1 : FuncData} (B : Bl mg) (F : Fun K "_law_worths" "_law_worths" s_law_worths f fd) (D_law_applied : Df P w K mg base 1 "_law_applied" f1 fd1 ["meaning", "o", "parts"] spApplied) : FnOk P w K mg base CX0 2 f fd ["graph", "meaning", "reads"] spWorths := by
  refine F.ok sc__law_worths (fun vs H Q E h => ?_) (fun cdv A outer s H vs Q E hr h => ?_)
  · obtain ⟨g, l, t, b, d, us, m, rs, hs, rfl, _⟩ := h
    rfl
  obtain ⟨g, l, t, b, d, us, m, rs, hs, rfl, hg, hl, hus, hW, hLk, hz, ht, hb, hrs, k⟩ := h
  have hu := hr.units
  refine ⟨_, (pss_cons (ps_set (i := 3) sc__law_worths.nd rfl (Or.inr rfl) (pe_lst pa_nil))
    (pss_cons (ps_for PassesOwn.never rfl (pi_list (pe_ix ix_tup (pv 0) pe_int (fun _ _ => rfl))) (pg_name (i := 4) sc__law_worths.nd rfl (Or.inl rfl))
      (pss_one (ps_expr (pe_bm PySem.F.plainAttrs_list PySem.F.slot_list_append PySem.F.type_list_append mt_append (pv 3) (pa_cons (pe_ifExp (pt_cmpR op_eq (pe_ix ix_tup (pv 4) pe_int (fun _ _ => rfl)) pe_str (nomark _)) (pe_ix ix_list (pv 2) (pe_ix ix_tup (pv 4) pe_int (fun _ _ => rfl)) (fun _ _ => rfl)) (pe_call D_law_applied.ok hr rfl D_law_applied.gx D_law_applied.kp D_law_applied.b .nil pass0 (pa_cons (pv 1) (pa_cons (pe_ix ix_tup (pv 4) pe_int (fun _ _ => rfl)) (pa_cons (pe_callTy call_tuple_of rfl B.tuple b_tuple (pa_cons (pe_lc (own := [("part", 5)]) rfl sc__law_worths.nd (pi_tup (pe_ix ix_tup (pv 4) pe_int (fun _ _ => rfl))) (blkOk_by (N := ["graph", "meaning", "reads", "found", "key", "part"]) (sc := defScope s_law_worths) (by decide +kernel)) (fun _ _ _ _ _ => (pg_name (i := 5) sc__law_worths.nd rfl (Or.inl rfl))) (fun _ _ _ _ _ => pts_nil) (fun _ _ _ _ _ => (pe_ix (ix_listX (K := K)) (pv 3) (pv 5) (fun _ _ => rfl)))) pa_nil)) pa_nil))))) pa_nil)))))
    (pss_one (ps_ret (pv 3))))), ?_⟩
  refine ⟨(by show 0 ≤ sizeLine; decide), fun p hp => ?_⟩
  have fp : Fr [] H (upd H p (.lst [])) := Fr.new hp
  have lu : us.length = hs.length := hus.length.trans (by simp)
  refine ⟨_, rfl, g, _, 1, _, rfl, rfl, .inl (fp.tups _ _ hg), atI_nat (j := 1) rfl, l, rfl, ⟨_, SqL.of (fp _ _ hl (.inl (fun h => nomatch h)))⟩, ?_⟩
  refine for_it (walk_list (xs := us)) (fun i σ' H' => (∃ z1 z2, σ' = [some (.ref g), some (.ref t), some (.ref b), some (.ref p), z1, z2]) ∧ Fr [] H H' ∧ H' p = some (.lst (((wsOf m rs hs).take i).map V.int)))
    ⟨⟨_, _, rfl⟩, fp, upd_same⟩ (fun i σ' H' _ e => SqL.of (e.2.1 _ _ hl (.inl (fun h => nomatch h)))) (fun i x σ' H1 H' hi e y => ?_) (fun σ' H' e => ?_)
  · obtain ⟨⟨z1, z2, rfl⟩, fr, ep⟩ := e
    obtain ⟨rfl, hx⟩ := y
    obtain ⟨kd, hk, rk⟩ := hus.getV hx
    rw [List.getElem?_map] at hk
    obtain ⟨h, hh, rfl⟩ := Option.map_eq_some_iff.mp hk
    have hi' : i < hs.length := (List.getElem?_eq_some_iff.mp hh).1
    have lw : (wsOf m rs hs).length = hs.length := by simp [wsOf]
    have tk : (wsOf m rs hs).take (i + 1) = (wsOf m rs hs).take i ++ [evT (apI m) (rdI rs) (tr hs i)] := by
      rw [List.take_succ_eq_append_getElem (by omega)]
      simp [wsOf]
    have zl : (((wsOf m rs hs).take i).map V.int).length < sizeLine := small_line (by rw [List.length_map, List.length_take]; omega)
    have fin : ∀ H2, Fr [] H' H2 → ∀ v : V, v = .int (evT (apI m) (rdI rs) (tr hs i)) → ∃ l xs y, V.ref p = .ref l ∧ [v] = [y] ∧ H2 l = some (.lst xs) ∧ xs.length < sizeLine ∧ ((∃ a1 a2, [some (.ref g), some (.ref t), some (.ref b), some (.ref p), some x, z2] = [some (V.ref g), some (.ref t), some (.ref b), some (.ref p), a1, a2]) ∧ Fr [] H (upd H2 l (.lst (xs ++ [y]))) ∧ upd H2 l (.lst (xs ++ [y])) p = some (.lst (((wsOf m rs hs).take (i + 1)).map V.int))) := by
      rintro H2 f2 v rfl
      refine ⟨p, _, _, rfl, rfl, f2 _ _ ep (.inl (fun h => nomatch h)), zl, ⟨_, _, rfl⟩, fun b u e n => ?_, ?_⟩
      · rw [upd_ne (ne_of_none e hp)]
        exact f2 _ _ (fr b u e n) n
      · rw [upd_same, tk]
        simp
    obtain ⟨a, xs, rfl, ea, rs'⟩ := rk.tup_inv
    have ea := fr.tups _ _ ea
    refine ⟨_, rfl, .inl ⟨rfl, _, SqL.of ep⟩, ?_⟩
    cases h with
    | letter kk =>
      cases rs' with
      | cons h1 t1 =>
        cases t1 with
        | cons h2 t2 =>
          cases t2 with
          | cons h3 t3 =>
            have e1 := h1.text_inv
            subst e1
            have e3 := h3.int_inv
            subst e3
            refine ⟨_, rfl, a, _, 0, _, rfl, rfl, .inl ea, atI_nat (j := 0) rfl, rfl, _, rfl, ?_⟩
            refine ite2 (fun _ => ?_) (fun z => absurd (se _) z)
            have lk := hLk i kk hh
            obtain ⟨n, hn⟩ := Int.eq_ofNat_of_zero_le lk.1
            have hn2 : n < rs.length := by omega
            have eb : H' b = some (.lst (rs.map V.int)) := fr _ _ hb (.inl (fun h => nomatch h))
            refine ⟨_, rfl, _, rfl, a, _, 2, _, rfl, rfl, .inl ea, atI_nat (j := 2) rfl, b, rs.map V.int, kk, _, rfl, rfl, SqL.of eb, ?_, fin H' (Fr.refl _ _) _ rfl⟩
            rw [hn]
            refine atI_nat ?_
            rw [List.getElem?_map, List.getElem?_eq_getElem hn2, tr_letter hh, evT, rdI, hn]
            show some (V.int rs[n]) = some (V.int (rs.getD ((n : Int)).toNat 0))
            rw [Int.toNat_natCast, List.getD_eq_getElem?_getD, List.getElem?_eq_getElem hn2]
            rfl
    | op o ps =>
      cases rs' with
      | cons h1 t1 =>
        cases t1 with
        | cons h2 t2 =>
          cases t2 with
          | cons h3 t3 =>
            have e1 := h1.text_inv
            subst e1
            have e2 := h2.text_inv
            subst e2
            obtain ⟨b3, ys, rfl, eb3, rb3⟩ := h3.tup_inv
            have e3 := reps_nat rb3
            subst e3
            have eb3 := fr.tups _ _ eb3
            have W := hW i o ps hh
            refine ⟨_, rfl, a, _, 0, _, rfl, rfl, .inl ea, atI_nat (j := 0) rfl, rfl, _, rfl, ?_⟩
            refine ite2 (fun z => absurd z (sn (by decide))) (fun _ => ?_)
            refine ⟨_, rfl, _, rfl, a, _, 1, _, rfl, rfl, .inl ea, atI_nat (j := 1) rfl, _, rfl, a, _, 2, _, rfl, rfl, .inl ea, atI_nat (j := 2) rfl, b3, rfl, ⟨_, .inl eb3⟩, fun D hD => ?_⟩
            have fD : ∀ {ys : List V}, Fr [] H' (upd H' D (.lst ys)) := fun {ys} => Fr.new hD
            have pD : p ≠ D := ne_of_none ep hD
            refine lc_it (walk_tup (xs := ps.map intN)) (fun j H2 => H2 = upd H' D (.lst ((ps.take j).map fun q => V.int (evT (apI m) (rdI rs) (tr hs q))))) rfl (fun j H2 _ e => by rw [e]; exact .inl (fD.tups _ _ eb3)) (fun j y H2 H3 hj e yy => ?_) (fun H2 e => ?_)
            · obtain ⟨rfl, hy⟩ := yy
              rw [List.getElem?_map] at hy
              obtain ⟨q, hq, rfl⟩ := Option.map_eq_some_iff.mp hy
              have hj' : j < ps.length := by simpa using hj
              have eq' : ps[j] = q := by
                have := List.getElem?_eq_getElem hj'
                rw [hq] at this
                exact (Option.some.inj this).symm
              have lq : q < i := W.2.2 q (List.mem_of_getElem? hq)
              have W2 := W.2.1
              refine ⟨rfl, _, rfl, _, rfl, p, _, q, _, rfl, rfl, SqL.of (by rw [e, upd_ne pD]; exact ep), atI_nat (v := .int (evT (apI m) (rdI rs) (tr hs q))) ?_, _, (by rw [e, upd_same]), small_line (by rw [List.length_map, List.length_take]; omega), ?_⟩
              · rw [List.getElem?_map, List.getElem?_take_of_lt lq]
                simp only [wsOf, List.getElem?_map]
                rw [List.getElem?_range (by omega)]
                rfl
              · rw [e, upd_upd, List.take_succ_eq_append_getElem hj', List.map_append, eq']
                rfl
            · have el : (ps.take (ps.map intN).length) = ps := by simp
              rw [el] at e
              have eD : H2 D = some (.lst (ps.map fun q => V.int (evT (apI m) (rdI rs) (tr hs q)))) := by rw [e, upd_same]
              have f2 : Fr [] H' H2 := by rw [e]; exact fD
              refine ⟨D, _, rfl, .inl ⟨SqL.of eD, fun t2 ht2 => ?_⟩⟩
              have f3 : Fr [] H' (upd H2 t2 (.tup (ps.map fun q => V.int (evT (apI m) (rdI rs) (tr hs q))))) := f2.trans (Fr.new ht2)
              refine ⟨t, t2, m, o, ps.map fun q => evT (apI m) (rdI rs) (tr hs q), rfl, (fr.trans f3).tups _ _ ht, .inl (by rw [upd_same, List.map_map]; rfl), W.1, by rw [List.length_map]; exact W.2.1, fun H4 f4 => ?_⟩
              refine fin H4 (f3.trans f4) _ ?_
              rw [tr_op hW hh, evT, evTs_map, List.map_map]
              rfl
  · obtain ⟨⟨z1, z2, rfl⟩, fr, ep⟩ := e
    have lw : (wsOf m rs hs).length = hs.length := by simp [wsOf]
    rw [lu, ← lw, List.take_length] at ep
    exact ⟨_, rfl, k H' p fr hp ep⟩
theorem freeB {H H1 : Hp} {a c D : Addr} (f : Fr [a] H H1) (b : BagC H1 a c) (h : H1 D = none) : H D = none := by
  refine f.free (fun z => ?_) h
  obtain ⟨⟨_, e⟩, _⟩ := b.here
  rw [List.mem_singleton.mp z, e] at h
  cases h
def tPairsC : List (Str × Int) → TA
  | [] => tNil
  | p :: r => tCons (tTup (tCons (tC (.str p.1)) (tCons (tC (.int p.2)) tNil))) (tPairsC r)
theorem pairsC {σ : L2.St} : ∀ (ps : List (Str × Int)) (H : Hp) (Q : List V → Hp → Prop), (∀ H' ts, Fr [] H H' → Paired (fun t (p : Str × Int) => H' t = some (.tup [.str p.1, .int p.2])) ts ps → Q (ts.map V.ref) H') → tPairsC ps σ H Q
  | [], H, Q, h => h H [] (Fr.refl _ _) .nil
  | p :: r, H, Q, h => by
    refine ⟨(by show 2 ≤ sizeLine; decide), fun t ht => ?_⟩
    refine pairsC r _ _ fun H' ts f pr => ?_
    exact h H' (t :: ts) ((Fr.new ht).trans f) (.cons (f _ _ upd_same (.inl (fun h => nomatch h))) pr)
def menu12 : List (Str × Int) := [("add", 2), ("sub", 2), ("neg", 1), ("7", 0), ("0", 0), ("f", 1), ("g", 2), ("h", 3), ("add", 2), ("sub", 2), ("k", 0), ("f", 1)]
theorem lst12 {σ : L2.St} {H : Hp} {Q : VK} (h : ∀ H' (ts : List Addr), Fr [] H H' → Paired (fun t (p : Str × Int) => H' t = some (.tup [.str p.1, .int p.2])) ts menu12 → ∀ b, H' b = none → Q (.ref b) (upd H' b (.lst (ts.map V.ref)))) :
    tLst (tCons (tTup (tCons (tC (.str "add")) (tCons (tC (.int 2)) tNil))) (tCons (tTup (tCons (tC (.str "sub")) (tCons (tC (.int 2)) tNil))) (tCons (tTup (tCons (tC (.str "neg")) (tCons (tC (.int 1)) tNil))) (tCons (tTup (tCons (tC (.str "7")) (tCons (tC (.int 0)) tNil))) (tCons (tTup (tCons (tC (.str "0")) (tCons (tC (.int 0)) tNil))) (tCons (tTup (tCons (tC (.str "f")) (tCons (tC (.int 1)) tNil))) (tCons (tTup (tCons (tC (.str "g")) (tCons (tC (.int 2)) tNil))) (tCons (tTup (tCons (tC (.str "h")) (tCons (tC (.int 3)) tNil))) (tCons (tTup (tCons (tC (.str "add")) (tCons (tC (.int 2)) tNil))) (tCons (tTup (tCons (tC (.str "sub")) (tCons (tC (.int 2)) tNil))) (tCons (tTup (tCons (tC (.str "k")) (tCons (tC (.int 0)) tNil))) (tCons (tTup (tCons (tC (.str "f")) (tCons (tC (.int 1)) tNil))) tNil)))))))))))) σ H Q := by
  have key : ∀ R : List V → Hp → Prop, (∀ H' ts, Fr [] H H' → Paired (fun t (p : Str × Int) => H' t = some (.tup [.str p.1, .int p.2])) ts menu12 → R (ts.map V.ref) H') → tPairsC menu12 σ H R := pairsC menu12 H
  exact key _ fun H' ts f pr => ⟨by
    have l12 : ts.length = 12 := Paired.length pr
    rw [List.length_map, l12]
    show 12 ≤ sizeLine
    decide, fun b hb => h H' ts f pr b hb⟩
theorem menu12_ok : ∀ p ∈ menu12, p.1 ∈ menu ∧ ∃ n : Nat, p.2 = (n : Int) ∧ n ≤ 3 := by
  intro p hp
  unfold menu12 at hp
  simp only [List.mem_cons, List.not_mem_nil, or_false] at hp
  rcases hp with rfl | rfl | rfl | rfl | rfl | rfl | rfl | rfl | rfl | rfl | rfl | rfl
  all_goals refine ⟨by decide, ?_⟩
  all_goals first | exact ⟨2, rfl, by decide⟩ | exact ⟨1, rfl, by decide⟩ | exact ⟨0, rfl, by decide⟩ | exact ⟨3, rfl, by decide⟩
theorem paired_at {α β : Type} {F : α → β → Prop} : ∀ {xs : List α} {ys : List β}, Paired F xs ys → ∀ {i : Nat} {x : α}, xs[i]? = some x → ∃ y, ys[i]? = some y ∧ F x y
  | _, _, .nil, i, x, h => by cases h
  | _, _, .cons h t, 0, x, e => by
    have e := Option.some.inj e
    subst e
    exact ⟨_, rfl, h⟩
  | _, _, .cons h t, i + 1, x, e => paired_at t (i := i) e
theorem WF.snoc {hs : List Hd} {h : Hd} (W : WF hs) (n : ∀ o ps, h = .op o ps → o ∈ menu ∧ ps.length ≤ 3 ∧ ∀ q ∈ ps, q < hs.length) : WF (hs ++ [h]) := fun i o ps e => by
  by_cases z : i < hs.length
  · rw [List.getElem?_append_left z] at e
    exact W i o ps e
  · rw [List.getElem?_append_right (by omega)] at e
    have hi : i = hs.length := by
      have := (List.getElem?_eq_some_iff.mp e).1
      simp at this
      omega
    have e3 := List.mem_singleton.mp (List.mem_of_getElem? e)
    have := n o ps e3.symm
    rw [hi]
    exact this
theorem LetOk.snoc {hs : List Hd} {h : Hd} (W : LetOk hs) (n : ∀ k, h = .letter k → 0 ≤ k ∧ k < 4) : LetOk (hs ++ [h]) := fun i k e => by
  by_cases z : i < hs.length
  · rw [List.getElem?_append_left z] at e
    exact W i k e
  · rw [List.getElem?_append_right (by omega)] at e
    exact n k (List.mem_singleton.mp (List.mem_of_getElem? e)).symm
/-! ### _law_drawn_terms -/
def spDrawn : Sp := fun vs H Q _ => ∃ (a c : Addr) (m : Nat), vs = [.ref a, intN m] ∧ BagC H a c ∧ m ≤ 25 ∧
  ∀ H' p us hs, Fr [a] H H' → BagC H' a c → H p = none → H' p = some (.lst us) → Reps H' (hs.map keyD) us → WF hs → LetOk hs → 0 < hs.length → hs.length ≤ 30 → Q (.ref p) H'
theorem sc__law_drawn_terms : FnScope ["bag", "many", "keys", "turn", "o", "size", "k"] ["bag", "many"] (defScope s_law_drawn_terms) := ⟨rfl, rfl, rfl, by decide +kernel, rfl, by decide +kernel, by decide +kernel⟩
theorem ok_law_drawn_terms {f f1 f2 : Addr} {fd fd1 fd2 : FuncData} (B : Bl mg) (F : Fun K "_law_drawn_terms" "_law_drawn_terms" s_law_drawn_terms f fd) (D_law_take : Df P w K mg base 1 "_law_take" f1 fd1 ["bag", "many"] spTake)
    (D_law_some : Df P w K mg base 2 "_law_some" f2 fd2 ["bag", "things"] spSome) : FnOk P w K mg base CX0 3 f fd ["bag", "many"] spDrawn := by
  refine F.ok sc__law_drawn_terms (fun vs H Q E h => ?_) (fun cdv A outer s H vs Q E hr h => ?_)
  · obtain ⟨a, c, m, rfl, _⟩ := h
    rfl
  obtain ⟨a, c, m, rfl, ha, hm, k⟩ := h
  have hu := hr.units
  refine ⟨_, (pss_cons (ps_set (i := 2) sc__law_drawn_terms.nd rfl (Or.inr rfl) (pe_lc (own := [("k", 6)]) rfl sc__law_drawn_terms.nd (pi_range1 rfl B.range (pa_cons (pe_op op_add pe_int (pe_call D_law_take.ok (hr.mono (by decide)) rfl D_law_take.gx D_law_take.kp D_law_take.b .nil pass0 (pa_cons (pv 0) (pa_cons pe_int pa_nil)))) pa_nil)) (blkOk_by (N := ["bag", "many", "keys", "turn", "o", "size", "k"]) (sc := defScope s_law_drawn_terms) (by decide +kernel)) (fun _ _ _ _ _ => (pg_name (i := 6) sc__law_drawn_terms.nd rfl (Or.inl rfl))) (fun _ _ _ _ _ => pts_nil) (fun _ _ _ _ _ => (pe_tup (pa_cons pe_str (pa_cons pe_str (pa_cons (pv 6) pa_nil)))))))
    (pss_cons (ps_for PassesOwn.never rfl (pi_range1 rfl B.range (pa_cons (pv 1) pa_nil)) (pg_name (i := 3) sc__law_drawn_terms.nd rfl (Or.inl rfl))
      (pss_cons (ps_asg (pe_call D_law_some.ok (hr.mono (by decide)) rfl D_law_some.gx D_law_some.kp D_law_some.b .nil pass0 (pa_cons (pv 0) (pa_cons (pe_lst (pa_cons (pe_tup (pa_cons pe_str (pa_cons pe_int pa_nil))) (pa_cons (pe_tup (pa_cons pe_str (pa_cons pe_int pa_nil))) (pa_cons (pe_tup (pa_cons pe_str (pa_cons pe_int pa_nil))) (pa_cons (pe_tup (pa_cons pe_str (pa_cons pe_int pa_nil))) (pa_cons (pe_tup (pa_cons pe_str (pa_cons pe_int pa_nil))) (pa_cons (pe_tup (pa_cons pe_str (pa_cons pe_int pa_nil))) (pa_cons (pe_tup (pa_cons pe_str (pa_cons pe_int pa_nil))) (pa_cons (pe_tup (pa_cons pe_str (pa_cons pe_int pa_nil))) (pa_cons (pe_tup (pa_cons pe_str (pa_cons pe_int pa_nil))) (pa_cons (pe_tup (pa_cons pe_str (pa_cons pe_int pa_nil))) (pa_cons (pe_tup (pa_cons pe_str (pa_cons pe_int pa_nil))) (pa_cons (pe_tup (pa_cons pe_str (pa_cons pe_int pa_nil))) pa_nil))))))))))))) pa_nil))) (pg_tup rfl (pgs_cons (pg_name (i := 4) sc__law_drawn_terms.nd rfl (Or.inl rfl)) (pgs_cons (pg_name (i := 5) sc__law_drawn_terms.nd rfl (Or.inl rfl)) pgs_nil))))
    (pss_one (ps_expr (pe_bm PySem.F.plainAttrs_list PySem.F.slot_list_append PySem.F.type_list_append mt_append (pv 2) (pa_cons (pe_tup (pa_cons pe_str (pa_cons (pv 4) (pa_cons (pe_callTy call_tuple_of rfl B.tuple b_tuple (pa_cons (pe_lc (own := [("k", 6)]) rfl sc__law_drawn_terms.nd (pi_range1 rfl B.range (pa_cons (pv 5) pa_nil)) (blkOk_by (N := ["bag", "many", "keys", "turn", "o", "size", "k"]) (sc := defScope s_law_drawn_terms) (by decide +kernel)) (fun _ _ _ _ _ => (pg_name (i := 6) sc__law_drawn_terms.nd rfl (Or.inl rfl))) (fun _ _ _ _ _ => pts_nil) (fun _ _ _ _ _ => (pe_call D_law_take.ok (hr.mono (by decide)) rfl D_law_take.gx D_law_take.kp D_law_take.b .nil pass0 (pa_cons (pv 0) (pa_cons (pe_callB (call_lenX (K := K)) rfl B.len b_len (pa_cons (pv 2) pa_nil)) pa_nil))))) pa_nil)) pa_nil)))) pa_nil))))))
    (pss_one (ps_ret (pv 2))))), ?_⟩
  refine ⟨_, rfl, a, c, 4, rfl, ha, by decide, by decide, fun H1 v f1 b1 lt => ⟨_, _, rfl, rfl, _, rfl, by omega, by omega, fun D hD => ?_⟩⟩
  have hD0 := freeB f1 b1 hD
  have tn : (1 + (v : Int)).toNat = v + 1 := by omega
  have fD : Fr [a] H (upd H1 D (.lst [])) := f1.trans (Fr.new hD)
  refine lc_it walk_range (fun i H2 => Fr [a] H H2 ∧ BagC H2 a c ∧ ∃ us, H2 D = some (.lst us) ∧ us.length = i ∧ Reps H2 (((List.range i).map fun k : Nat => Hd.letter (k : Int)).map keyD) us) ⟨fD, b1.fr (Fr.new hD), [], upd_same, rfl, .nil⟩ (fun _ _ _ _ => True.intro) (fun i y H2 H3 hi e yy => ?_) (fun H2 e => ?_)
  · obtain ⟨fr, bg, us, eD, hl, rs⟩ := e
    obtain ⟨rfl, rfl⟩ := yy
    refine ⟨rfl, _, rfl, (by show 3 ≤ sizeLine; decide), fun t ht => ?_⟩
    have f2 : Fr [] H3 (upd H3 t (.tup [.str "letter", .str "read", .int (0 + (i : Int))])) := Fr.new ht
    have et : upd H3 t (.tup [.str "letter", .str "read", .int (0 + (i : Int))]) t = some (.tup [.str "letter", .str "read", .int (0 + (i : Int))]) := upd_same
    generalize upd H3 t (.tup [.str "letter", .str "read", .int (0 + (i : Int))]) = H4 at *
    have eD4 := f2 _ _ eD (.inl (fun h => nomatch h))
    have f3 : Fr [D] H4 (upd H4 D (.lst (us ++ [.ref t]))) := Fr.old List.mem_cons_self eD4 (fun z => z)
    have rs4 : Reps (upd H4 D (.lst (us ++ [.ref t]))) (((List.range i).map fun k : Nat => Hd.letter (k : Int)).map keyD) us := (rs.kp f2.tups).kp f3.tups
    refine ⟨us, eD4, small_line (by omega), fun b u e n => ?_, (bg.fr f2).own ha hD0, us ++ [.ref t], upd_same, by simp [hl], ?_⟩
    · rw [upd_ne (ne_of_none e hD0)]
      exact f2 _ _ (fr b u e n) (.inl (fun h => nomatch h))
    · rw [List.range_succ, List.map_append, List.map_append]
      refine rs4.append (.cons (.tup (f3.tups _ _ (.inl et)) (.cons (.text _) (.cons (.text _) (.cons ?_ .nil)))) .nil)
      show Rep _ (.num (i : Int)) (.int (0 + (i : Int)))
      rw [Int.zero_add]
      exact .num _
  · obtain ⟨fr, bg, us, eD, hl, rs⟩ := e
    rw [tn] at hl rs
    refine ⟨_, rfl, _, rfl, by omega, by omega, ?_⟩
    refine for_it walk_range (fun i σ' H' => (∃ z3 z4 z5 z6, σ' = [some (.ref a), some (intN m), some (.ref D), z3, z4, z5, z6]) ∧ Fr [a] H H' ∧ BagC H' a c ∧ ∃ us hs, H' D = some (.lst us) ∧ Reps H' (hs.map keyD) us ∧ WF hs ∧ LetOk hs ∧ 0 < hs.length ∧ hs.length ≤ 4 + i)
      ⟨⟨_, _, _, _, rfl⟩, fr, bg, us, _, eD, rs, ?_, ?_, by simp, by simp; omega⟩ (fun _ _ _ _ _ => True.intro) (fun i x σ' H1 H' hi e y => ?_) (fun σ' H' e => ?_)
    · intro n o ps e
      rw [List.getElem?_map] at e
      obtain ⟨q, _, e⟩ := Option.map_eq_some_iff.mp e
      cases e
    · intro n kk e
      rw [List.getElem?_map] at e
      obtain ⟨q, hq, e⟩ := Option.map_eq_some_iff.mp e
      have := List.mem_range.mp (List.mem_of_getElem? hq)
      cases e
      omega
    · obtain ⟨⟨z3, z4, z5, z6, rfl⟩, fr, bg, us, hs, eD, rs, W, Lk, l1, l2⟩ := e
      obtain ⟨rfl, rfl⟩ := y
      have mN : (m : Int).toNat = m := by simp
      rw [mN] at hi
      -- o, size = ..
      refine ⟨_, rfl, ?_⟩
      refine lst12 fun H2 ts f2 pr b hb => ?_
      have lts := Paired.length pr
      have l12 : ts.length = 12 := lts
      have f3 : Fr [] H' (upd H2 b (.lst (ts.map V.ref))) := f2.trans (Fr.new hb)
      have bg3 := bg.fr f3
      have ba : b ≠ a := fun z => by
        obtain ⟨⟨_, e⟩, _⟩ := (bg.fr f2).here
        rw [z, e] at hb
        cases hb
      refine ⟨a, c, b, ts.map V.ref, rfl, bg3, upd_same, ba, (fun z => by have := congrArg List.length z; rw [List.length_map, l12] at this; cases this), by rw [List.length_map]; omega, fun H4 j v f4 bg4 hv => ?_⟩
      rw [List.getElem?_map] at hv
      obtain ⟨t, ht, rfl⟩ := Option.map_eq_some_iff.mp hv
      obtain ⟨⟨o, sz⟩, hp, et⟩ := paired_at pr ht
      obtain ⟨mo, n, en, ln⟩ := menu12_ok _ (List.mem_of_getElem? hp)
      have en : sz = (n : Int) := en
      subst en
      have et4 : Rd H4 t (.tup [.str o, intN n]) := f4.tups _ _ ((Fr.new hb : Fr [] H2 _).tups _ _ (.inl et))
      have fr4 : Fr [a] H' H4 := f3.nil.trans f4
      have aD : D ∉ [a] := fun z => by
        obtain ⟨⟨_, e⟩, _⟩ := ha.here
        rw [List.mem_singleton.mp z, e] at hD0
        cases hD0
      have eD4 := fr4 _ _ eD (.inl aD)
      refine ⟨t, _, rfl, .inl et4, rfl, _, _, rfl, _, _, rfl, rfl, ?_⟩
      -- keys.append
      refine ⟨_, rfl, .inl ⟨rfl, _, SqL.of eD4⟩, _, rfl, _, rfl, _, rfl, by omega, by omega, fun D2 hD2 => ?_⟩
      have lus : us.length = hs.length := rs.length.trans (by simp)
      refine lc_it walk_range (fun j H5 => Fr [a] H4 H5 ∧ BagC H5 a c ∧ ∃ ps : List Nat, ps.length = j ∧ (∀ q ∈ ps, q < hs.length) ∧ H5 D2 = some (.lst (ps.map intN))) ⟨(Fr.new hD2 : Fr [a] H4 _), bg4.fr (Fr.new hD2), [], rfl, (fun _ h => nomatch h), upd_same⟩ (fun _ _ _ _ => True.intro) (fun j y H5 H6 hj e yy => ?_) (fun H5 e => ?_)
      · obtain ⟨f5, bg5, ps, hps, hlt, e5⟩ := e
        obtain ⟨rfl, rfl⟩ := yy
        have eD6 := f5 _ _ eD4 (.inl aD)
        refine ⟨rfl, _, rfl, _, rfl, _, us.length, rfl, .inl ⟨us, SqL.of eD6, rfl⟩, a, c, _, rfl, bg5, by omega, by omega, fun H7 q f7 bg7 lq => ?_⟩
        have a2 : D2 ∉ [a] := fun z => by
          obtain ⟨⟨_, e⟩, _⟩ := bg4.here
          rw [List.mem_singleton.mp z, e] at hD2
          cases hD2
        refine ⟨_, f7 _ _ e5 (.inl a2), small_line (by rw [List.length_map]; omega), fun b u e n => ?_, bg7.own bg4 hD2, ps ++ [q], by simp [hps], fun x hx => ?_, ?_⟩
        · rw [upd_ne (ne_of_none e hD2)]
          exact f7 _ _ (f5 b u e n) n
        · rcases List.mem_append.mp hx with hx | hx
          · exact hlt x hx
          · rw [List.mem_singleton.mp hx]
            omega
        · rw [upd_same]
          simp
      · obtain ⟨f5, bg5, ps, hps, hlt, e5⟩ := e
        refine ⟨D2, _, rfl, .inl ⟨SqL.of e5, fun t2 ht2 => ⟨(by show 3 ≤ sizeLine; decide), fun t3 ht3 => ?_⟩⟩⟩
        have n32 : t3 ≠ t2 := fun e => by rw [e, upd_same] at ht3; cases ht3
        have f6 : Fr [] H5 (upd (upd H5 t2 (.tup (ps.map intN))) t3 (.tup [.str "op", .str o, .ref t2])) := (Fr.new ht2).trans (Fr.new ht3)
        have e3 : upd (upd H5 t2 (.tup (ps.map intN))) t3 (.tup [.str "op", .str o, .ref t2]) t3 = some (.tup [.str "op", .str o, .ref t2]) := upd_same
        have e2 : upd (upd H5 t2 (.tup (ps.map intN))) t3 (.tup [.str "op", .str o, .ref t2]) t2 = some (.tup (ps.map intN)) := by rw [upd_ne n32.symm, upd_same]
        generalize upd (upd H5 t2 (.tup (ps.map intN))) t3 (.tup [.str "op", .str o, .ref t2]) = H6 at *
        have f46 : Fr [a] H4 H6 := f5.trans f6.nil
        have eD6 := f46 _ _ eD4 (.inl aD)
        have fH6 : Fr [a] H H6 := (fr.trans fr4).trans f46
        have f7 : Fr [D] H6 (upd H6 D (.lst (us ++ [.ref t3]))) := Fr.old List.mem_cons_self eD6 (fun z => z)
        refine ⟨D, us, _, rfl, rfl, eD6, small_line (by omega), ⟨_, _, _, _, rfl⟩, fun b u e n => ?_, (bg5.fr f6).own ha hD0, us ++ [.ref t3], hs ++ [.op o ps], upd_same, ?_, W.snoc fun o' ps' e => ?_, Lk.snoc fun k e => (by cases e), by simp, by simp; omega⟩
        · rw [upd_ne (ne_of_none e hD0)]
          exact fH6 b u e n
        · rw [List.map_append]
          refine Reps.append (((rs.kp fr4.tups).kp f46.tups).kp f7.tups) (.cons (.tup (f7.tups _ _ (.inl e3)) (.cons (.text _) (.cons (.text _) (.cons (.tup (f7.tups _ _ (.inl e2)) (nat_reps _ _)) .nil)))) .nil)
        · cases e
          exact ⟨mo, by rw [hps]; omega, hlt⟩
    · obtain ⟨⟨z3, z4, z5, z6, rfl⟩, fr, bg, us, hs, eD, rs, W, Lk, l1, l2⟩ := e
      have mN : (m : Int).toNat = m := by simp
      rw [mN] at l2
      exact ⟨_, rfl, k H' D us hs fr bg hD0 eD rs W Lk l1 (by omega)⟩
end
end R60

set_option Elab.async false
set_option linter.all false
set_option maxRecDepth 100000
set_option maxHeartbeats 800000
namespace R60
open PySem PySem.Spec PyProof.Rows L2 M60
/-! ### the law's linears: the constant at None -/
def lf (i : Int) : Leaf := if i = -1 then .none else .num i
theorem lf_inj {i j : Int} (h : lf i = lf j) : i = j := by
  unfold lf at h
  by_cases a : i = -1
  · rw [if_pos a] at h
    by_cases b : j = -1
    · omega
    · rw [if_neg b] at h
      cases h
  · rw [if_neg a] at h
    by_cases b : j = -1
    · rw [if_pos b] at h
      cases h
    · rw [if_neg b] at h
      exact Leaf.num.inj h
def encF (l : List (Int × Int)) : List (Leaf × V) := l.map fun p => (lf p.1, V.int p.2)
theorem encF_len (l : List (Int × Int)) : (encF l).length = l.length := by simp [encF]
theorem encF_val (a : Int) : ∀ l : List (Int × Int), valV (encF l) (lf a) = (at? l a).map V.int
  | [] => rfl
  | p :: r => by
    have ih := encF_val a r
    by_cases e : p.1 = a
    · rw [show encF (p :: r) = (lf p.1, V.int p.2) :: encF r from rfl, valV_pos (by rw [e])]
      simp [at?, e]
    · rw [show encF (p :: r) = (lf p.1, V.int p.2) :: encF r from rfl, valV_neg (fun z => e (lf_inj z)), ih]
      simp [at?, e]
theorem encF_put (l : List (Int × Int)) (a v : Int) : putK (encF l) (lf a) (V.int v) = encF (put l a v) := by
  have e : ((encF l).any fun kv => decide (kv.1 = lf a)) = l.any fun p => decide (p.1 = a) := by
    unfold encF
    rw [List.any_map]
    refine congrArg (fun g => l.any g) (funext fun p => ?_)
    show decide (lf p.1 = lf a) = decide (p.1 = a)
    by_cases q : p.1 = a
    · rw [q]; simp
    · rw [decide_eq_false q, decide_eq_false (fun z => q (lf_inj z))]
  unfold putK put
  rw [e]
  split
  · simp only [encF, List.map_map]
    refine List.map_congr_left fun p _ => ?_
    by_cases q : p.1 = a
    · simp [q]
    · have q' : ¬ lf p.1 = lf a := fun z => q (lf_inj z)
      simp [q, q']
  · simp [encF]
theorem at_getD (l : List (Int × Int)) (a : Int) : ((at? l a).map V.int).getD (.int 0) = .int (look l a) := by
  rw [← at_look]
  cases at? l a <;> rfl
theorem merge_encF : ∀ (l acc : List (Int × Int)), ((acc ++ l).map (·.1)).Nodup → mergeL (encF acc) (encF l) = encF (acc ++ l)
  | [], acc, _ => by
    rw [List.append_nil]
    rfl
  | p :: l, acc, h => by
    show mergeL (putK (encF acc) (lf p.1) (V.int p.2)) (encF l) = _
    have ha : p.1 ∉ acc.map (·.1) := fun m => by
      rw [List.map_append] at h
      exact (List.nodup_append.mp h).2.2 _ m p.1 (by rw [List.map_cons]; exact List.mem_cons_self) rfl
    rw [encF_put, put_new ha, merge_encF l (acc ++ [(p.1, p.2)]) (by rw [List.append_assoc]; exact h), List.append_assoc]
    rfl
abbrev pL (l : List (Int × Int)) : List (V × V) := (encF l).map fun p => (leafV p.1, p.2)
theorem GG.f {P : Program} {w : World} {H : Hp} {a : Addr} {l : List (Int × Int)} {p : Int × Int} (g : LD P w H a (encF l)) (hn : (l.map (·.1)).Nodup) (h : p ∈ l) : GG P w H a (leafV (lf p.1)) (some (.int p.2)) := by
  have := GG.l (k := lf p.1) g rfl
  rw [encF_val, at_mem hn h] at this
  exact this
section
variable {P : Program} {w : World} {K : PySem.W.Frag} {mg : Str → Option Value} {base : Heap}
/-! ### _law_plus -/
def spPlus (P : Program) (w : World) : Sp := fun vs H Q _ => ∃ (a b : Addr) (f : Int) (l m : List (Int × Int)), vs = [.ref a, .ref b, .int f] ∧ (f = 1 ∨ f = -1) ∧ LD P w H a (encF l) ∧ LD P w H b (encF m) ∧ (l.map (·.1)).Nodup ∧ (m.map (·.1)).Nodup ∧ l.length ≤ 1000 ∧ m.length ≤ 1000 ∧
  ∀ H' p r, Fr [] H H' → H p = none → LD P w H' p (encF r) → (r.map (·.1)).Nodup → (∀ x, look r x = look l x + f * look m x) → (∀ q ∈ r, q.2 ≠ 0) → Q (.ref p) H'
theorem sc__law_plus : FnScope ["one", "other", "many", "found", "atom"] ["one", "other", "many"] (defScope s_law_plus) := ⟨rfl, rfl, rfl, by decide +kernel, rfl, by decide +kernel, by decide +kernel⟩
theorem ok_law_plus {f : Addr} {fd : FuncData} (B : Bl mg) (F : Fun K "_law_plus" "_law_plus" s_law_plus f fd) : FnOk P w K mg base CX0 1 f fd ["one", "other", "many"] (spPlus P w) := by
  refine F.ok sc__law_plus (fun vs H Q E h => ?_) (fun cdv A outer s H vs Q E hr h => ?_)
  · obtain ⟨a, b, f, l, m, rfl, _⟩ := h
    rfl
  obtain ⟨a, b, f, l, m, rfl, hf, ha, hb, nl, nm, zl, zm, k⟩ := h
  have hu := hr.units
  refine ⟨_, (pss_cons (ps_set (i := 3) sc__law_plus.nd rfl (Or.inr rfl) (pe_callTy (call_dictOf (P := P) (w := w)) rfl B.dict b_dict (pa_cons (pv 0) pa_nil)))
    (pss_cons (ps_for PassesOwn.never rfl (pi_keysX (pv 1)) (pg_name (i := 4) sc__law_plus.nd rfl (Or.inl rfl))
      (pss_one (xs_put (P := P) (w := w) (pv 3) (pv 4) (pe_op op_add (xe_get2 (P := P) (w := w) (pv 3) (pv 4) pe_int hu ⟨rfl, rfl, rfl, rfl⟩) (pe_op op_mul (pv 2) (xe_get (P := P) (w := w) (pv 1) (pv 4) (fun _ _ => rfl) hu))) hu rfl)))
    (pss_one (ps_ret (pe_callTy (call_dictL (P := P) (w := w) rfl) rfl B.dict b_dict (pa_cons (pe_lc (own := [("atom", 4)]) rfl sc__law_plus.nd (pi_keysX (pv 3)) (blkOk_by (N := ["one", "other", "many", "found", "atom"]) (sc := defScope s_law_plus) (by decide +kernel)) (fun _ _ _ _ _ => (pg_name (i := 4) sc__law_plus.nd rfl (Or.inl rfl))) (fun _ _ _ _ _ => (pts_one (pt_cmpR op_ne (xe_get (P := P) (w := w) (pv 3) (pv 4) (fun _ _ => rfl) hu) pe_int (nomark _)))) (fun _ _ _ _ _ => (pe_tup (pa_cons (pv 4) (pa_cons (xe_get (P := P) (w := w) (pv 3) (pv 4) (fun _ _ => rfl) hu) pa_nil))))) pa_nil)))))), ?_⟩
  refine ⟨_, rfl, a, rfl, .inr ⟨_, ha, fun p o hp lp => ?_⟩⟩
  have fp : Fr [] H (upd H p (exo p o)) := Fr.new hp
  have pb : b ≠ p := by
    obtain ⟨o2, e2⟩ := hb.at
    exact ne_of_none e2 hp
  obtain ⟨ob, eb, sb, kb⟩ := hb.keysO
  refine ⟨_, rfl, b, ob, _, rfl, fp _ _ eb (.inl (fun h => nomatch h)), sb, kb, ?_⟩
  have lk : ((encF m).map fun p => leafV p.1).length = m.length := by simp [encF]
  refine for_it walk_X (fun i σ' H' => (∃ z, σ' = [some (.ref a), some (.ref b), some (.int f), some (.ref p), z]) ∧ Fr [] H H' ∧ LD P w H' p (encF (addM l ((m.take i).map fun q => (q.1, f * q.2)))))
    ⟨⟨_, rfl⟩, fp, lp⟩ (fun i σ' H' _ e => e.2.1 _ _ eb (.inl (fun h => nomatch h))) (fun i x σ' H1 H' hi e y => ?_) (fun σ' H' e => ?_)
  · obtain ⟨⟨z, rfl⟩, fr, lp1⟩ := e
    obtain ⟨rfl, hx⟩ := y
    rw [lk] at hi
    have hm : m[i] ∈ m := List.getElem_mem hi
    have ex : x = leafV (lf m[i].1) := by
      rw [List.getElem?_map] at hx
      unfold encF at hx
      rw [List.getElem?_map, List.getElem?_eq_getElem hi] at hx
      exact (Option.some.inj hx).symm
    subst ex
    have hb1 : LD P w H' b (encF m) := hb.keep ((fr _ _ eb (.inl (fun h => nomatch h))).trans eb.symm)
    have zl1 := addM_len l ((m.take i).map fun q => (q.1, f * q.2))
    have zl2 : ((m.take i).map fun q => (q.1, f * q.2)).length ≤ i := by simp; omega
    refine ⟨_, rfl, p, _, rfl, .inr (.inr ⟨_, lp1, rfl⟩), _, rfl, _, .inr ⟨_, lf m[i].1, lp1, rfl, rfl⟩, _, rfl, _, rfl, _, rfl, b, _, rfl, GG.f hb1 nm hm, f, _, rfl, rfl, .inl (by rcases hf with e | e <;> rw [e] <;> decide), look (addM l ((m.take i).map fun q => (q.1, f * q.2))) m[i].1, _, ?_, rfl, _, rfl, _, rfl, p, rfl, GP.l lp1 rfl ?_ fun o2 l2 => ?_⟩
    · rw [encF_val]
      exact at_getD _ _
    · refine small_line ?_
      rw [encF_len]
      omega
    · refine ⟨⟨_, rfl⟩, fun b u e n => ?_, ?_⟩
      · rw [upd_ne (ne_of_none e hp)]
        exact fr b u e n
      · rw [encF_put] at l2
        rw [List.take_succ_eq_append_getElem hi, List.map_append]
        have := addM_snoc l ((m.take i).map fun q => (q.1, f * q.2)) (m[i].1, f * m[i].2)
        rw [show (List.map (fun q : Int × Int => (q.1, f * q.2)) [m[i]]) = [(m[i].1, f * m[i].2)] from rfl, this]
        exact l2
  · obtain ⟨⟨z, rfl⟩, fr, lp1⟩ := e
    rw [lk, List.take_length] at lp1
    have nr := addM_nodup nl (m.map fun q => (q.1, f * q.2))
    have zr := addM_len l (m.map fun q => (q.1, f * q.2))
    have lr : ∀ x, look (addM l (m.map fun q => (q.1, f * q.2))) x = look l x + f * look m x := fun x => by
      rw [look_addM x _ _ (by rw [List.map_map]; exact nm)]
      have := look_neg_map m f x
      have e2 : (m.map fun q => (q.1, f * q.2)) = m.map fun q => (q.1, q.2 * f) := List.map_congr_left fun q _ => by rw [Int.mul_comm]
      rw [e2, this, Int.mul_comm]
    rw [List.length_map] at zr
    generalize addM l (m.map fun q => (q.1, f * q.2)) = r at *
    obtain ⟨o3, e3, s3, k3⟩ := lp1.keysO
    refine ⟨_, rfl, p, o3, _, rfl, e3, s3, k3, fun D hD => ?_⟩
    have lk3 : ((encF r).map fun p => leafV p.1).length = r.length := by simp [encF]
    refine lc_it walk_X (fun i H2 => Fr [] H' H2 ∧ ∃ rs, H2 D = some (.lst (rs.map V.ref)) ∧ PrT H2 rs (pL ((r.take i).filter fun q => decide (q.2 ≠ 0)))) ⟨Fr.new hD, [], upd_same, .nil⟩ (fun i H2 _ e => e.1 _ _ e3 (.inl (fun h => nomatch h))) (fun i x H1 H2 hi e y => ?_) (fun H2 e => ?_)
    · obtain ⟨f2, rs, eD, pr⟩ := e
      obtain ⟨rfl, hx⟩ := y
      rw [lk3] at hi
      have hm : r[i] ∈ r := List.getElem_mem hi
      have ex : x = leafV (lf r[i].1) := by
        rw [List.getElem?_map] at hx
        unfold encF at hx
        rw [List.getElem?_map, List.getElem?_eq_getElem hi] at hx
        exact (Option.some.inj hx).symm
      subst ex
      have hr2 : LD P w H2 p (encF r) := lp1.keep ((f2 _ _ e3 (.inl (fun h => nomatch h))).trans e3.symm)
      have g := GG.f hr2 nr hm
      refine ⟨rfl, _, rfl, _, rfl, p, _, rfl, g, rfl, _, rfl, ?_⟩
      refine ite2 (fun c => ?_) (fun c => ?_)
      · have c' : r[i].2 ≠ 0 := fun z => by rw [z] at c; cases c
        refine ⟨_, rfl, _, rfl, _, rfl, p, _, rfl, g, (by show 2 ≤ sizeLine; decide), fun t ht => ?_⟩
        have tD : D ≠ t := ne_of_none eD ht
        have e2 : (r.take (i + 1)).filter (fun p => decide (p.2 ≠ 0)) = ((r.take i).filter fun p => decide (p.2 ≠ 0)) ++ [r[i]] := by
          rw [List.take_succ_eq_append_getElem hi, List.filter_append]
          simp [c']
        have f3 : Fr [] H2 (upd H2 t (.tup [leafV (lf r[i].1), .int r[i].2])) := Fr.new ht
        have eD3 := f3 _ _ eD (.inl (fun h => nomatch h))
        have f4 : Fr [D] (upd H2 t (.tup [leafV (lf r[i].1), .int r[i].2])) (upd (upd H2 t (.tup [leafV (lf r[i].1), .int r[i].2])) D (.lst (rs.map V.ref ++ [.ref t]))) := Fr.old List.mem_cons_self eD3 (fun z => z)
        have q2 := Paired.length pr
        refine ⟨_, eD3, small_line ?_, fun b u e n => ?_, rs ++ [t], by rw [upd_same, List.map_append]; rfl, ?_⟩
        · have := List.length_filter_le (fun p : Int × Int => decide (p.2 ≠ 0)) (r.take i)
          simp [encF] at this q2 ⊢
          omega
        · have ed : b ≠ D := ne_of_none e hD
          rw [upd_ne ed]
          exact f3 _ _ (f2 b u e n) (.inl (fun h => nomatch h))
        · rw [e2]
          have : pL (((r.take i).filter fun p => decide (p.2 ≠ 0)) ++ [r[i]]) = pL ((r.take i).filter fun p => decide (p.2 ≠ 0)) ++ [(leafV (lf r[i].1), .int r[i].2)] := by simp [pL, encF]
          rw [this]
          exact Paired.snoc ((pr.kp f3.tups).kp f4.tups) (f4.tups _ _ (.inl upd_same))
      · have c' : ¬ r[i].2 ≠ 0 := fun z => c (by simp [z])
        have e2 : (r.take (i + 1)).filter (fun p => decide (p.2 ≠ 0)) = (r.take i).filter fun p => decide (p.2 ≠ 0) := by
          rw [List.take_succ_eq_append_getElem hi, List.filter_append]
          simp at c'
          simp [c']
        rw [e2]
        exact ⟨f2, rs, eD, pr⟩
    · obtain ⟨f2, rs, eD, pr⟩ := e
      rw [lk3, List.take_length] at pr
      have nf : ((r.filter fun q => decide (q.2 ≠ 0)).map (·.1)).Nodup := nr.sublist (List.Sublist.map _ List.filter_sublist)
      refine ⟨D, rs, _, rfl, eD, pr, fun q o4 hq l4 => ?_⟩
      rw [show mergeL [] (encF (r.filter fun q => decide (q.2 ≠ 0))) = encF (r.filter fun q => decide (q.2 ≠ 0)) from merge_encF _ [] nf] at l4
      have hq0 : H q = none := by
        cases z : H q with
        | none => rfl
        | some u =>
          rw [f2 _ _ (fr _ _ z (.inl (fun h => nomatch h))) (.inl (fun h => nomatch h))] at hq
          cases hq
      refine k _ q _ ((fr.trans f2).trans (Fr.new hq)) hq0 l4 nf (fun x => ?_) (fun q hq => ?_)
      · rw [look_filter x nr, lr]
      · have := (List.mem_filter.mp hq).2
        simpa using this
/-! ### _law_told_linear -/
def IsD (l : List (Int × Int)) (L : Lin) : Prop := (l.map (·.1)).Nodup ∧ (∀ q ∈ l, q.2 ≠ 0) ∧ look l (-1) = L.1 ∧ ∀ a, a ≠ -1 → look l a = look L.2 a
def spTold (P : Program) (w : World) : Sp := fun vs H Q _ => ∃ (a : Addr) (l : List (Int × Int)) (L : Lin) (n : Nat), vs = [.ref a] ∧ LD P w H a (encF l) ∧ IsD l L ∧ LOk n L ∧ n ≤ 100 ∧ ∀ H' v, Fr [] H H' → Rep H' (linD L) v → Q v H'
theorem sc__law_told_linear : FnScope ["one", "atom"] ["one"] (defScope s_law_told_linear) := ⟨rfl, rfl, rfl, by decide +kernel, rfl, by decide +kernel, by decide +kernel⟩
theorem ok_law_told_linear {f : Addr} {fd : FuncData} (B : Bl mg) (F : Fun K "_law_told_linear" "_law_told_linear" s_law_told_linear f fd) : FnOk P w K mg base CX0 1 f fd ["one"] (spTold P w) := by
  refine F.ok sc__law_told_linear (fun vs H Q E h => ?_) (fun cdv A outer s H vs Q E hr h => ?_)
  · obtain ⟨a, l, L, n, rfl, _⟩ := h
    rfl
  obtain ⟨a, l, L, n, rfl, ha, hD, hL, hn, k⟩ := h
  have hu := hr.units
  refine ⟨_, (pss_one (ps_ret (pe_tup (pa_cons (xe_get2 (P := P) (w := w) (pv 0) pe_non pe_int hu ⟨rfl, rfl, rfl, rfl⟩) (pa_cons (pe_callTy call_tuple_of rfl B.tuple b_tuple (pa_cons (pe_callB cr_sortedPO rfl B.sorted b_sorted (pa_cons (pe_lc (own := [("atom", 1)]) rfl sc__law_told_linear.nd (pi_keysX (pv 0)) (blkOk_by (N := ["one", "atom"]) (sc := defScope s_law_told_linear) (by decide +kernel)) (fun _ _ _ _ _ => (pg_name (i := 1) sc__law_told_linear.nd rfl (Or.inl rfl))) (fun _ _ _ _ _ => (pts_one (pt_cmpR op_notN (pv 1) pe_non (nomark _)))) (fun _ _ _ _ _ => (pe_tup (pa_cons (pv 1) (pa_cons (xe_get (P := P) (w := w) (pv 0) (pv 1) (fun _ _ => rfl) hu) pa_nil))))) pa_nil)) pa_nil)) pa_nil))))), ?_⟩
  obtain ⟨nl, nz, lc, la⟩ := hD
  obtain ⟨o, eo, so, ko⟩ := ha.keysO
  -- the constant
  refine ⟨_, rfl, a, _, rfl, .inr (.inr ⟨_, ha, rfl⟩), valV (encF l) (lf (-1)), .inr ⟨_, lf (-1), ha, rfl, rfl⟩, ?_⟩
  rw [encF_val, at_getD, lc]
  refine ⟨_, rfl, a, o, _, rfl, eo, so, ko, fun D hD => ?_⟩
  have lk : ((encF l).map fun p => leafV p.1).length = l.length := by simp [encF]
  have kl : ∀ {q : Int × Int}, q.1 ≠ -1 → leafV (lf q.1) = .int q.1 := fun {q} h => by
    unfold lf
    rw [if_neg h]
    rfl
  have kn : ∀ {q : Int × Int}, q.1 = -1 → leafV (lf q.1) = .non := fun {q} h => by
    unfold lf
    rw [if_pos h]
    rfl
  have zl : l.length ≤ 1000 := by
    have h2 := nodup_le (l := l.map (·.1)) (m := (-1) :: (L.2.map (·.1))) nl fun x hx => by
      by_cases e : x = -1
      · rw [e]; simp
      · obtain ⟨q, hq, e1⟩ := List.mem_map.mp hx
        have h1 := look_mem nl hq
        rw [e1, la x e] at h1
        refine List.mem_cons_of_mem _ ?_
        by_cases z : x ∈ L.2.map (·.1)
        · exact z
        · rw [look_not z] at h1
          exact absurd h1.symm (nz q hq)
    have h3 := LOk_len hL
    simp at h2
    omega
  refine lc_it walk_X (fun i H' => Same H H' ∧ ∃ rs, H' D = some (.lst (rs.map V.ref)) ∧ PrX H' rs ((l.take i).filter fun p => decide (p.1 ≠ -1)))
    ⟨fun b u e => by rw [upd_ne (ne_of_none e hD)]; exact e, [], upd_same, .nil⟩ (fun i H' _ e => e.1 _ _ eo) (fun i x H1 H' hi e y => ?_) (fun H' e => ?_)
  · obtain ⟨s1, rs, eD, r⟩ := e
    obtain ⟨rfl, hx⟩ := y
    rw [lk] at hi
    have hm : l[i] ∈ l := List.getElem_mem hi
    have ex : x = leafV (lf l[i].1) := by
      rw [List.getElem?_map] at hx
      unfold encF at hx
      rw [List.getElem?_map, List.getElem?_eq_getElem hi] at hx
      exact (Option.some.inj hx).symm
    subst ex
    have ha2 : LD P w H' a (encF l) := ha.keep ((s1 _ _ eo).trans eo.symm)
    have g := GG.f ha2 nl hm
    refine ⟨rfl, _, rfl, rfl, _, rfl, ?_⟩
    by_cases q' : l[i].1 = -1
    · rw [kn q']
      refine ite2 (fun c => absurd c (by decide)) (fun _ => ?_)
      refine ⟨s1, rs, eD, ?_⟩
      have e2 : (l.take (i + 1)).filter (fun p => decide (p.1 ≠ -1)) = (l.take i).filter fun p => decide (p.1 ≠ -1) := by
        rw [List.take_succ_eq_append_getElem hi, List.filter_append]
        simp [q']
      rw [e2]
      exact r
    · rw [kl q'] at g ⊢
      refine ite2 (fun _ => ?_) (fun c => absurd (by rfl) c)
      refine ⟨_, rfl, _, rfl, _, rfl, a, _, rfl, g, (by show 2 ≤ sizeLine; decide), fun t ht => ?_⟩
      have tD : D ≠ t := ne_of_none eD ht
      refine ⟨rs.map V.ref, by rw [upd_ne tD]; exact eD, ?_, fun b u e => ?_, rs ++ [t], ?_, ?_⟩
      · refine small_line ?_
        have := List.length_filter_le (fun p : Int × Int => decide (p.1 ≠ -1)) (l.take i)
        have q2 := Paired.length r
        simp at this q2 ⊢
        omega
      · have e1 := s1 b u e
        rw [upd_ne (fun z => by rw [z, eD] at e1; rw [z, hD] at e; cases e), upd_ne (ne_of_none e1 ht)]
        exact e1
      · rw [upd_same, List.map_append]
        rfl
      · have e2 : (l.take (i + 1)).filter (fun p => decide (p.1 ≠ -1)) = ((l.take i).filter fun p => decide (p.1 ≠ -1)) ++ [l[i]] := by
          rw [List.take_succ_eq_append_getElem hi, List.filter_append]
          simp [q']
        rw [e2]
        refine Paired.snoc (PrX.up (PrX.up r fun xs z => by rw [ht] at z; cases z) fun xs z => by rw [upd_ne tD, eD] at z; cases z) ?_
        rw [upd_ne tD.symm, upd_same]
  · obtain ⟨s1, rs, eD2, r1⟩ := e
    rw [lk, List.take_length] at r1
    generalize H' = H2 at *
    refine ⟨D, rs.map V.ref, kOf H2, rfl, SqL.of eD2, fun x hx => ?_, fun ys p hs hb hp => ?_⟩
    · obtain ⟨t, ht, e⟩ := List.mem_map.mp hx
      obtain ⟨q, e2, e3⟩ := paired_mem r1 ht
      subst e
      exact ⟨t, rfl, by rw [kOf_at e3]; exact e3⟩
    · refine ⟨p, ys, rfl, .inl ⟨SqL.of upd_same, fun t ht => ?_⟩⟩
      have tp : t ≠ p := fun e => by rw [e, upd_same] at ht; cases ht
      rw [upd_ne tp] at ht
      refine ⟨(by show 2 ≤ sizeLine; decide), fun p2 hp2 => ?_⟩
      have p2t : p2 ≠ t := fun e => by rw [e, upd_same] at hp2; cases hp2
      rw [upd_ne p2t] at hp2
      have p2p : p2 ≠ p := fun e => by rw [e, upd_same] at hp2; cases hp2
      rw [upd_ne p2p] at hp2
      have hx : ∀ x ∈ ys, ∃ t, x = V.ref t ∧ H2 t = some (.tup [.int (kOf H2 x).1, .int (kOf H2 x).2]) := fun x hx => by
        have hx := hb.perm.mem_iff.mp hx
        obtain ⟨t, ht, e⟩ := List.mem_map.mp hx
        obtain ⟨q, e2, e3⟩ := paired_mem r1 ht
        subst e
        exact ⟨t, rfl, by rw [kOf_at e3]; exact e3⟩
      obtain ⟨rs', ey, ry⟩ := prX_of hx
      have pm : (ys.map (kOf H2)).Perm (l.filter fun p => decide (p.1 ≠ -1)) := by
        rw [← PrX.kOf r1]
        exact hb.perm.map _
      have nf : ((l.filter fun p => decide (p.1 ≠ -1)).map (·.1)).Nodup := nl.sublist (List.Sublist.map _ List.filter_sublist)
      have ny : ((ys.map (kOf H2)).map (·.1)).Nodup := (pm.map _).nodup_iff.mpr nf
      have sS : Same H2 (upd (upd (upd H2 p (.lst ys)) t (.tup ys)) p2 (.tup [.int L.1, .ref t])) := fun b u e => by
        rw [upd_ne (ne_of_none e hp2), upd_ne (ne_of_none e ht), upd_ne (ne_of_none e hp)]
        exact e
      have eL : ys.map (kOf H2) = L.2 := by
        refine IsLin.uniq ⟨srtd_lin hs ny, fun q hq => ?_⟩ hL.1 fun x => ?_
        · exact nz q (List.mem_filter.mp (pm.mem_iff.mp hq)).1
        · rw [look_perm pm ny]
          by_cases e : x = -1
          · have l1 : look L.2 x = 0 := look_not fun z => by
              obtain ⟨q, hq, e1⟩ := List.mem_map.mp z
              have := hL.2 q hq
              omega
            rw [l1]
            refine look_not fun z => ?_
            obtain ⟨q, hq, e1⟩ := List.mem_map.mp z
            have := (List.mem_filter.mp hq).2
            simp at this
            exact this (e1.trans e)
          · rw [← la x e]
            by_cases z : x ∈ l.map (·.1)
            · obtain ⟨q, hq, e1⟩ := List.mem_map.mp z
              subst e1
              rw [look_mem nl hq]
              exact look_mem nf (List.mem_filter.mpr ⟨hq, by simp [e]⟩)
            · rw [look_not z]
              refine look_not fun z2 => z ?_
              obtain ⟨q, hq, e1⟩ := List.mem_map.mp z2
              exact List.mem_map.mpr ⟨q, (List.mem_filter.mp hq).1, e1⟩
      rw [eL] at ry
      have ry2 := prT_reps (ry.same sS).prT
      rw [← ey] at ry2
      refine k _ _ (Fr.same fun b u e => sS b u (s1 b u e)) (.tup (.inl upd_same) (.cons (.num _) (.cons (.tup (.inl ?_) ry2) .nil)))
      rw [upd_ne p2t.symm, upd_same]
end
end R60

set_option Elab.async false
set_option linter.all false
set_option maxRecDepth 100000
set_option maxHeartbeats 800000
namespace R60
open PySem PySem.Spec PyProof.Rows L2 M60
/-! ### the law's own table of atoms and linears -/
def nameK : Atom → List Dt
  | .letter k => [.text "letter", .text "read", .num k]
  | .op o Ls => [.text "op", .text o, .tup (Ls.map linD)]
def nameD (a : Atom) : Dt := .tup (nameK a)
theorem nameD_inj {a b : Atom} (h : nameD a = nameD b) : a = b := by
  unfold nameD at h
  injection h with h
  cases a with
  | letter k =>
    cases b with
    | letter j =>
      unfold nameK at h
      injection h with _ h
      injection h with _ h
      injection h with h _
      injection h with h
      rw [h]
    | op o Ls =>
      unfold nameK at h
      injection h with h _
      injection h with h
      exact absurd h lo_ne
  | op o Ls =>
    cases b with
    | letter j =>
      unfold nameK at h
      injection h with h _
      injection h with h
      exact absurd h.symm lo_ne
    | op o' Ls' =>
      unfold nameK at h
      injection h with _ h
      injection h with h1 h
      injection h with h _
      injection h with h
      injection h1 with h1
      rw [h1, map_inj (fun _ _ => linD_inj) h]
theorem nameD_depth (a : Atom) : (NestedKey.tup (nameK a)).depth ≤ 8 := by
  cases a with
  | letter k =>
    show max 0 (max 0 (max 0 0)) + 1 ≤ 8
    decide
  | op o Ls =>
    have h : NestedKey.depthAll (Ls.map linD) ≤ 3 := depthAll_le fun k hk => by
      obtain ⟨p, _, e⟩ := List.mem_map.mp hk
      rw [← e]
      exact linD_depth p
    show max 0 (max 0 (max (NestedKey.depthAll (Ls.map linD) + 1) 0)) + 1 ≤ 8
    omega
abbrev enumN (T : List Atom) : List (Dt × V) := enumF nameD 0 T
theorem enumN_val (T : List Atom) (a : Atom) : valV (enumN T) (nameD a) = (pos T a).map fun i => V.int ((i : Nat) : Int) := by
  rw [enumF_val (fun _ _ => nameD_inj) a T 0, pos_idx]
  cases pos T a with
  | none => rfl
  | some i => simp
theorem enumN_put {T : List Atom} {a : Atom} (h : a ∉ T) : putK (enumN T) (nameD a) (.int (T.length : Int)) = enumN (T ++ [a]) := by
  rw [putK_new]
  · show _ = enumF nameD 0 (T ++ [a])
    rw [enumF_snoc]
    simp
  · rw [enumN_val, pos_none.mpr h]
    rfl

/-- a linear of the law at d -/
def DL (P : Program) (w : World) (H : Hp) (da sd d : Addr) (L : Lin) : Prop := (d ≠ da ∧ d ≠ sd) ∧ ∃ l, LD P w H d (encF l) ∧ IsD l L
theorem DL.kp {P : Program} {w : World} {H H' : Hp} {da df sd d : Addr} {L : Lin} (h : DL P w H da sd d L) (f : Fr [da, df] H H') (hf : ∀ o, H df ≠ some (exo df o)) : DL P w H' da sd d L := by
  obtain ⟨n, l, h1, h2⟩ := h
  obtain ⟨o, e⟩ := h1.at
  refine ⟨n, l, h1.keep ((f _ _ e (.inl ?_)).trans e.symm), h2⟩
  simp only [List.mem_cons, List.not_mem_nil, or_false, not_or]
  exact ⟨n.1, fun z => hf o (z ▸ e)⟩
theorem DL.kp0 {P : Program} {w : World} {H H' : Hp} {da sd d : Addr} {L : Lin} (h : DL P w H da sd d L) (f : Fr [] H H') : DL P w H' da sd d L := by
  obtain ⟨n, l, h1, h2⟩ := h
  obtain ⟨o, e⟩ := h1.at
  exact ⟨n, l, h1.keep ((f _ _ e (.inl (fun h => nomatch h))).trans e.symm), h2⟩
structure LW (P : Program) (w : World) (H : Hp) (hs : List Hd) (da df sd : Addr) (T : List Atom) (kvs : List (Key × V)) : Prop where
  nu : DN w H da (enumN T)
  df : H df = some (.dK kvs)
  nd : (kvs.map (·.1)).Nodup
  en : ∀ q ∈ kvs, ∃ (n : Nat) (L : Lin) (d : Addr), q = (ky n, .ref d) ∧ n < hs.length ∧ den T (tr hs n) = some L ∧ DL P w H da sd d L
  tz : T.length ≤ kvs.length
  td : T.Nodup
theorem LW.len {P : Program} {w : World} {H : Hp} {hs : List Hd} {da df sd : Addr} {T : List Atom} {kvs : List (Key × V)} (g : LW P w H hs da df sd T kvs) : kvs.length ≤ hs.length := by
  have := nodup_le (m := (List.range hs.length).map ky) g.nd fun x hx => by
    obtain ⟨q, hq, e⟩ := List.mem_map.mp hx
    obtain ⟨n, L, d, e1, lt, _⟩ := g.en q hq
    exact List.mem_map.mpr ⟨n, by simpa using lt, by rw [← e, e1]⟩
  simpa using this
theorem LW.at {P : Program} {w : World} {H : Hp} {hs : List Hd} {da df sd : Addr} {T : List Atom} {kvs : List (Key × V)} {x : Nat} {v : V} (g : LW P w H hs da df sd T kvs) (hx : valV kvs (ky x) = some v) : ∃ L d, v = .ref d ∧ den T (tr hs x) = some L ∧ DL P w H da sd d L := by
  obtain ⟨n, L, d, e1, lt, h1, h2⟩ := g.en _ (valV_mem2 hx)
  have e := congrArg Prod.fst e1
  have e2 : x = n := by have := Sum.inl.inj e; omega
  subst e2
  exact ⟨L, d, congrArg Prod.snd e1, h1, h2⟩
theorem LW.dfn {P : Program} {w : World} {H : Hp} {hs : List Hd} {da df sd : Addr} {T : List Atom} {kvs : List (Key × V)} (g : LW P w H hs da df sd T kvs) : (∀ o, H df ≠ some (exo df o)) ∧ df ≠ da := by
  refine ⟨fun o z => ?_, fun z => ?_⟩
  · rw [g.df] at z
    cases z
  · obtain ⟨o, e⟩ := g.nu.at
    rw [← z, g.df] at e
    cases e
theorem LW.kp {P : Program} {w : World} {H H' : Hp} {hs : List Hd} {da df sd : Addr} {T : List Atom} {kvs : List (Key × V)} (g : LW P w H hs da df sd T kvs) (f : Fr [] H H') : LW P w H' hs da df sd T kvs := by
  obtain ⟨o, e⟩ := g.nu.at
  refine ⟨g.nu.keep ((f _ _ e (.inl (fun h => nomatch h))).trans e.symm) f.tups, f _ _ g.df (.inl (fun h => nomatch h)), g.nd, fun q hq => ?_, g.tz, g.td⟩
  obtain ⟨n, L, d, e1, lt, h1, h2⟩ := g.en q hq
  exact ⟨n, L, d, e1, lt, h1, h2.kp0 f⟩
theorem LW.kpT {P : Program} {w : World} {H0 H : Hp} {hs : List Hd} {da df sd D : Addr} {T T0 : List Atom} {kvs kvs0 : List (Key × V)} {xs : List V} (ys : List V) (g : LW P w H hs da df sd T kvs) (g0 : LW P w H0 hs da df sd T0 kvs0) (h0 : H0 D = none) (hD : H D = some (.lst xs)) : LW P w (upd H D (.lst ys)) hs da df sd T kvs := by
  obtain ⟨o, e⟩ := g.nu.at
  obtain ⟨o0, e0⟩ := g0.nu.at
  have f : Fr [D] H (upd H D (.lst ys)) := Fr.old List.mem_cons_self hD (fun z => z)
  have n1 : da ≠ D := ne_of_none e0 h0
  have n2 : df ≠ D := ne_of_none g0.df h0
  refine ⟨g.nu.keep (upd_ne n1) f.tups, (upd_ne n2).trans g.df, g.nd, fun q hq => ?_, g.tz, g.td⟩
  obtain ⟨n, L, d, e1, lt, h1, n3, l, h2, h3⟩ := g.en q hq
  obtain ⟨o3, e3⟩ := h2.at
  exact ⟨n, L, d, e1, lt, h1, n3, l, h2.keep (upd_ne (ne_of e3 hD (fun z => by cases z))), h3⟩
/-- one more entry -/
theorem LW.put {P : Program} {w : World} {H H1 : Hp} {hs : List Hd} {da df sd d : Addr} {T M : List Atom} {kvs : List (Key × V)} {x : Nat} {L : Lin} (g : LW P w H hs da df sd T kvs) (f : Fr [da] H H1) (nu : DN w H1 da (enumN (T ++ M))) (hM : M.length ≤ 1) (td : (T ++ M).Nodup) (hx : valV kvs (ky x) = none) (lt : x < hs.length)
    (hd : den (T ++ M) (tr hs x) = some L) (hv : DL P w H1 da sd d L) : H1 df = some (.dK kvs) ∧ Fr [da, df] H (upd H1 df (.dK (putK kvs (ky x) (.ref d)))) ∧ LW P w (upd H1 df (.dK (putK kvs (ky x) (.ref d)))) hs da df sd (T ++ M) (kvs ++ [(ky x, .ref d)]) ∧ putK kvs (ky x) (.ref d) = kvs ++ [(ky x, .ref d)] := by
  obtain ⟨z1, z2⟩ := g.dfn
  have e1 : H1 df = some (.dK kvs) := f _ _ g.df (.inl (by simp [z2]))
  have ep := putK_new (V.ref d) hx
  rw [ep]
  have f2 : Fr [df] H1 (upd H1 df (.dK (kvs ++ [(ky x, .ref d)]))) := Fr.old List.mem_cons_self e1 (fun z => z)
  have ff : Fr [da, df] H (upd H1 df (.dK (kvs ++ [(ky x, .ref d)]))) := (f.mono (by simp)).trans (f2.mono (by simp))
  refine ⟨e1, ff, ⟨nu.keep (upd_ne z2.symm) f2.tups, upd_same, ?_, fun q hq => ?_, ?_, td⟩, rfl⟩
  · rw [List.map_append]
    exact nd_snoc g.nd (valV_not hx)
  · rcases List.mem_append.mp hq with hq | hq
    · obtain ⟨n, L, d, e1, lt, h1, h2⟩ := g.en q hq
      exact ⟨n, L, d, e1, lt, den_more h1, h2.kp ff z1⟩
    · rw [List.mem_singleton.mp hq]
      exact ⟨x, L, d, rfl, lt, hd, hv.kp (da := da) (df := df) (f2.mono (by simp)) (fun o z => by rw [e1] at z; cases z)⟩
  · rw [List.length_append, List.length_append]
    have := g.tz
    show T.length + M.length ≤ kvs.length + 1
    omega
theorem IsD.len {l : List (Int × Int)} {L : Lin} {n : Nat} (h : IsD l L) (hL : LOk n L) : l.length ≤ n + 1 := by
  obtain ⟨nl, nz, lc, la⟩ := h
  have h2 := nodup_le (l := l.map (·.1)) (m := (-1) :: (L.2.map (·.1))) nl fun x hx => by
    by_cases e : x = -1
    · rw [e]; simp
    · obtain ⟨q, hq, e1⟩ := List.mem_map.mp hx
      have h1 := look_mem nl hq
      rw [e1, la x e] at h1
      refine List.mem_cons_of_mem _ ?_
      by_cases z : x ∈ L.2.map (·.1)
      · exact z
      · rw [look_not z] at h1
        exact absurd h1.symm (nz q hq)
  have h3 := LOk_len hL
  simp at h2
  omega
theorem denAll_snoc {T : List Atom} {t : M60.Tree} {L : Lin} : ∀ {ts : List M60.Tree} {Ls : List Lin}, denAll T ts = some Ls → den T t = some L → denAll T (ts ++ [t]) = some (Ls ++ [L])
  | [], Ls, h, e => by
    rw [denAll] at h
    cases h
    rw [List.nil_append, denAll, e, denAll]
    rfl
  | s :: ts, Ls, h, e => by
    rw [denAll] at h
    obtain ⟨L', h1, h2⟩ := Option.bind_eq_some_iff.mp h
    obtain ⟨Ls', h3, h4⟩ := Option.map_eq_some_iff.mp h2
    subst h4
    rw [List.cons_append, denAll, h1, denAll_snoc h3 e]
    rfl
theorem growAll_snoc {t : M60.Tree} : ∀ {ts : List M60.Tree} (T : List Atom), growAll T (ts ++ [t]) = grow (growAll T ts) t
  | [], T => by rw [List.nil_append, growAll, growAll, growAll]
  | s :: ts, T => by rw [List.cons_append, growAll, growAll_snoc, growAll]
theorem IsD.unit (i : Nat) : IsD [((i : Int), 1)] (Atom.unit i) := by
  refine ⟨by simp, fun q hq => by rw [List.mem_singleton.mp hq]; show (1 : Int) ≠ 0; decide, ?_, fun a _ => rfl⟩
  rw [look_neg (by show ¬ (i : Int) = -1; omega), look_nil]
  rfl
theorem lf_nat (i : Nat) : lf (i : Int) = .num (i : Int) := by
  unfold lf
  rw [if_neg (by omega)]
theorem lf_none : lf (-1) = .none := rfl
end R60

set_option Elab.async false
set_option linter.all false
set_option maxRecDepth 100000
set_option maxHeartbeats 1600000
namespace R60
open PySem PySem.Spec PyProof.Rows L2 M60
theorem DL.kpT {P : Program} {w : World} {H : Hp} {da sd d D : Addr} {L : Lin} {xs : List V} (ys : List V) (h : DL P w H da sd d L) (hD : H D = some (.lst xs)) : DL P w (upd H D (.lst ys)) da sd d L := by
  obtain ⟨n, l, h1, h2⟩ := h
  obtain ⟨o, e⟩ := h1.at
  exact ⟨n, l, h1.keep (upd_ne (ne_of e hD (fun z => by cases z))), h2⟩
theorem and_skip {c d : Bool} {t : TT} {σ : L2.St} {H : Hp} {R : Bool → Hp → Prop} (ht : ∀ R' : Bool → Hp → Prop, R' d H → t σ H R') (h : R (c && d) H) : if c = true then t σ H R else R false H := by
  cases c with
  | true =>
    rw [if_pos rfl]
    exact ht R h
  | false =>
    rw [if_neg (by decide)]
    exact h
theorem real_none {o : Str} {Ls : List Lin} (n1 : ¬ (inV (.str o) [.str "add", .str "sub"] = true ∧ Ls.length = 2)) (n2 : ¬ (decide (V.str o = V.str "neg") = true ∧ Ls.length = 1)) (n3 : ¬ (dig o = true ∧ Ls.length = 0)) : real o Ls = none := by
  cases q : real o Ls with
  | none => rfl
  | some L =>
    rcases real_cases q with ⟨rfl, x, y, rfl, _⟩ | ⟨rfl, x, y, rfl, _⟩ | ⟨rfl, x, rfl, _⟩ | ⟨rfl, rfl, _⟩ | ⟨rfl, rfl, _⟩
    · exact absurd ⟨by rfl, rfl⟩ n1
    · exact absurd ⟨by rfl, rfl⟩ n1
    · exact absurd ⟨se _, rfl⟩ n2
    · exact absurd ⟨by decide +kernel, rfl⟩ n3
    · exact absurd ⟨by decide +kernel, rfl⟩ n3
theorem in_addsub {o : Str} (h : inV (.str o) [.str "add", .str "sub"] = true) (m : o ∈ menu) : o = "add" ∨ o = "sub" := by
  unfold menu at m
  simp only [List.mem_cons, List.not_mem_nil, or_false] at m
  rcases m with rfl | rfl | rfl | rfl | rfl | rfl | rfl | rfl | rfl
  all_goals first | exact .inl rfl | exact .inr rfl | exact absurd h (by decide)
theorem dig_70 {o : Str} (h : dig o = true) (m : o ∈ menu) : (o = "7" ∧ PySem.intText? o = some 7) ∨ (o = "0" ∧ PySem.intText? o = some 0) := by
  unfold menu at m
  simp only [List.mem_cons, List.not_mem_nil, or_false] at m
  rcases m with rfl | rfl | rfl | rfl | rfl | rfl | rfl | rfl | rfl
  all_goals first | exact .inl ⟨rfl, it7⟩ | exact .inr ⟨rfl, it0⟩ | exact absurd h (by decide +kernel)
section
variable {P : Program} {w : World} {K : PySem.W.Frag} {mg : Str → Option Value} {base : Heap}
def spLinear (P : Program) (w : World) (N : Nat) : Sp := fun vs H Q _ => ∃ (lk da df sd : Addr) (at0 : Nat) (us : List V) (hs : List Hd) (T : List Atom) (kvs : List (Key × V)), vs = [.ref lk, intN at0, .ref da, .ref df] ∧ at0 < N ∧ at0 < hs.length ∧ hs.length ≤ 30 ∧ sd ∉ [da, df] ∧ (∃ u, H sd = some u) ∧ WF hs ∧ H lk = some (.lst us) ∧ Reps H (hs.map keyD) us ∧ LW P w H hs da df sd T kvs ∧
  ∀ H' kvs' d L, Fr [da, df] H H' → LW P w H' hs da df sd (grow T (tr hs at0)) kvs' → den (grow T (tr hs at0)) (tr hs at0) = some L → valV kvs' (ky at0) = some (.ref d) → (∀ k v, valV kvs k = some v → valV kvs' k = some v) → (∀ j, at0 < j → valV kvs' (ky j) = valV kvs (ky j)) → DL P w H' da sd d L → Q (.ref d) H'
theorem sc__law_linear : FnScope ["keys", "at", "atoms", "found", "key", "parts", "size", "name", "part"] ["keys", "at", "atoms", "found"] (defScope s_law_linear) := ⟨rfl, rfl, rfl, by decide +kernel, rfl, by decide +kernel, by decide +kernel⟩
theorem ok_law_linear {f f1 f2 : Addr} {fd fd1 fd2 : FuncData} (B : Bl mg) (F : Fun K "_law_linear" "_law_linear" s_law_linear f fd) (gxf : mg "_law_linear" = some (.ref f)) (kpf : PySem.W.keepIn K (.ref f) = true) (bf : Binds K fd ["keys", "at", "atoms", "found"] [])
    (D_law_plus : Df P w K mg base 1 "_law_plus" f1 fd1 ["one", "other", "many"] (spPlus P w)) (D_law_told_linear : Df P w K mg base 1 "_law_told_linear" f2 fd2 ["one"] (spTold P w)) : ∀ N, FnOk P w K mg base CX0 (N + 2) f fd ["keys", "at", "atoms", "found"] (spLinear P w N) := by
  intro N
  induction N with
  | zero =>
    refine F.ok sc__law_linear (fun vs H Q E h => ?_) (fun cdv A outer s H vs Q E hr h => ?_)
    · obtain ⟨_, _, _, _, _, _, _, _, _, rfl, _⟩ := h
      rfl
    · obtain ⟨_, _, _, _, _, _, _, _, _, _, z, _⟩ := h
      exact absurd z (Nat.not_lt_zero _)
  | succ N ih =>
  have D_law_linear : Df P w K mg base (N + 2) "_law_linear" f fd ["keys", "at", "atoms", "found"] (spLinear P w N) := ⟨gxf, kpf, bf, ih⟩
  refine F.ok sc__law_linear (fun vs H Q E h => ?_) (fun cdv A outer s H vs Q E hr h => ?_)
  · obtain ⟨_, _, _, _, _, _, _, _, _, rfl, _⟩ := h
    rfl
  obtain ⟨lk, da, df, sd, at0, us, hs, T0, kvs, rfl, hN, hat, hz, sdn, ⟨usd, hsd⟩, W, hk, rk, g, k⟩ := h
  have nsd : ∀ {H1 : Hp} {p : Addr}, Fr [da, df] H H1 → H1 p = none → p ≠ sd := fun f h z => by
    rw [z, f _ _ hsd (.inl sdn)] at h
    cases h
  have hu := hr.units
  refine ⟨_, (pss_cons (ps_if (pt_cmp (xc_notin (P := P) (w := w) (pv 1) (pv 3) hu))
      (pss_cons (ps_set (i := 4) sc__law_linear.nd rfl (Or.inl rfl) (pe_ix ix_list (pv 0) (pv 1) (fun _ _ => rfl)))
    (pss_cons (ps_set (i := 5) sc__law_linear.nd rfl (Or.inl rfl) (pe_ifExp (pt_cmpR op_eq (pe_ix ix_tup (pv 4) pe_int (fun _ _ => rfl)) pe_str (nomark _)) (pe_lc (own := [("part", 8)]) rfl sc__law_linear.nd (pi_tup (pe_ix ix_tup (pv 4) pe_int (fun _ _ => rfl))) (blkOk_by (N := ["keys", "at", "atoms", "found", "key", "parts", "size", "name", "part"]) (sc := defScope s_law_linear) (by decide +kernel)) (fun _ _ _ _ _ => (pg_name (i := 8) sc__law_linear.nd rfl (Or.inl rfl))) (fun _ _ _ _ _ => pts_nil) (fun _ _ _ _ _ => (pe_call D_law_linear.ok hr rfl D_law_linear.gx D_law_linear.kp D_law_linear.b .nil pass0 (pa_cons (pv 0) (pa_cons (pv 8) (pa_cons (pv 2) (pa_cons (pv 3) pa_nil))))))) (pe_lst pa_nil)))
    (pss_cons (ps_set (i := 6) sc__law_linear.nd rfl (Or.inl rfl) (pe_callB call_len rfl B.len b_len (pa_cons (pv 5) pa_nil)))
    (pss_one (ps_if (PW.pt (pw_and (pt_cmpR op_eq (pe_ix ix_tup (pv 4) pe_int (fun _ _ => rfl)) pe_str (nomark _)) (pw_and (pt_cmpR op_in_seq (pe_ix ix_tup (pv 4) pe_int (fun _ _ => rfl)) (pe_tup (pa_cons pe_str (pa_cons pe_str pa_nil))) rfl) (pw_and1 (pt_cmpR op_eq (pv 6) pe_int (nomark _))))))
      (pss_one (xs_put (P := P) (w := w) (pv 3) (pv 1) (pe_call D_law_plus.ok (hr.mono (by omega)) rfl D_law_plus.gx D_law_plus.kp D_law_plus.b .nil pass0 (pa_cons (pe_ix ix_list (pv 5) pe_int (fun _ _ => rfl)) (pa_cons (pe_ix ix_list (pv 5) pe_int (fun _ _ => rfl)) (pa_cons (pe_ifExp (pt_cmpR op_eq (pe_ix ix_tup (pv 4) pe_int (fun _ _ => rfl)) pe_str (nomark _)) pe_int (pe_un un_neg pe_int)) pa_nil)))) hu rfl))
      (pss_one (ps_if (PW.pt (pw_and (pt_cmpR op_eq (pe_ix ix_tup (pv 4) pe_int (fun _ _ => rfl)) pe_str (nomark _)) (pw_and (pt_cmpR op_eq (pe_ix ix_tup (pv 4) pe_int (fun _ _ => rfl)) pe_str (nomark _)) (pw_and1 (pt_cmpR op_eq (pv 6) pe_int (nomark _))))))
      (pss_one (xs_put (P := P) (w := w) (pv 3) (pv 1) (pe_call D_law_plus.ok (hr.mono (by omega)) rfl D_law_plus.gx D_law_plus.kp D_law_plus.b .nil pass0 (pa_cons (pe_newL (P := P) (w := w)) (pa_cons (pe_ix ix_list (pv 5) pe_int (fun _ _ => rfl)) (pa_cons (pe_un un_neg pe_int) pa_nil)))) hu rfl))
      (pss_one (ps_if (PW.pt (pw_and (pt_cmpR op_eq (pe_ix ix_tup (pv 4) pe_int (fun _ _ => rfl)) pe_str (nomark _)) (pw_and (pt_cmpR op_in_str (pe_ix ix_str (pe_ix ix_tup (pv 4) pe_int (fun _ _ => rfl)) pe_int (fun _ _ => rfl)) pe_str rfl) (pw_and1 (pt_cmpR op_eq (pv 6) pe_int (nomark _))))))
      (pss_one (xs_put (P := P) (w := w) (pv 3) (pv 1) (pe_ifExp (pt_cmpR op_ne (pe_callTy call_int_str rfl B.int b_int (pa_cons (pe_ix ix_tup (pv 4) pe_int (fun _ _ => rfl)) pa_nil)) pe_int (nomark _)) (pe_disp1 (P := P) (w := w) pe_non (pe_callTy call_int_str rfl B.int b_int (pa_cons (pe_ix ix_tup (pv 4) pe_int (fun _ _ => rfl)) pa_nil))) (pe_newL (P := P) (w := w))) hu rfl))
      (pss_cons (ps_set (i := 7) sc__law_linear.nd rfl (Or.inl rfl) (pe_ifExp (pt_cmpR op_eq (pe_ix ix_tup (pv 4) pe_int (fun _ _ => rfl)) pe_str (nomark _)) (pv 4) (pe_tup (pa_cons pe_str (pa_cons (pe_ix ix_tup (pv 4) pe_int (fun _ _ => rfl)) (pa_cons (pe_callTy call_tuple_of rfl B.tuple b_tuple (pa_cons (pe_lc (own := [("part", 8)]) rfl sc__law_linear.nd (pi_list (pv 5)) (blkOk_by (N := ["keys", "at", "atoms", "found", "key", "parts", "size", "name", "part"]) (sc := defScope s_law_linear) (by decide +kernel)) (fun _ _ _ _ _ => (pg_name (i := 8) sc__law_linear.nd rfl (Or.inl rfl))) (fun _ _ _ _ _ => pts_nil) (fun _ _ _ _ _ => (pe_call D_law_told_linear.ok (hr.mono (by omega)) rfl D_law_told_linear.gx D_law_told_linear.kp D_law_told_linear.b .nil pass0 (pa_cons (pv 8) pa_nil)))) pa_nil)) pa_nil))))))
    (pss_cons (ps_expr (xe_setd (P := P) (w := w) (pv 2) (pv 7) (pe_callB (call_lenG (P := P) (w := w)) rfl B.len b_len (pa_cons (pv 2) pa_nil)) hu ⟨rfl, rfl, rfl, rfl⟩))
    (pss_one (xs_put (P := P) (w := w) (pv 3) (pv 1) (pe_disp1 (P := P) (w := w) (xe_get (P := P) (w := w) (pv 2) (pv 7) (fun _ _ => rfl) hu) pe_int) hu rfl)))))))))))))
      pss_nil)
    (pss_one (ps_ret (xe_get (P := P) (w := w) (pv 3) (pv 1) (fun _ _ => rfl) hu)))), ?_⟩
  refine tSeq_mid (fun σ' H' => (∃ z1 z2 z3 z4 z5, σ' = [some (.ref lk), some (intN at0), some (.ref da), some (.ref df), z1, z2, z3, z4, z5]) ∧ ∃ kvs' d L, Fr [da, df] H H' ∧ LW P w H' hs da df sd (grow T0 (tr hs at0)) kvs' ∧ den (grow T0 (tr hs at0)) (tr hs at0) = some L ∧ valV kvs' (ky at0) = some (.ref d) ∧ (∀ k v, valV kvs k = some v → valV kvs' k = some v) ∧ (∀ j, at0 < j → valV kvs' (ky j) = valV kvs (ky j)) ∧ DL P w H' da sd d L) (fun σ' H' e => ?_) (fun N1 hN1 => ?_)
  · obtain ⟨⟨z1, z2, z3, z4, z5, rfl⟩, kvs', d, L, fr, g', hd, hv, mo, ab, dl⟩ := e
    refine ⟨_, rfl, _, rfl, df, _, rfl, hv ▸ GG.k (k := ky at0) g'.df rfl, ?_⟩
    exact k H' kvs' d L fr g' hd hv mo ab dl
  refine ⟨_, rfl, _, rfl, df, _, rfl, GG.k (k := ky at0) g.df rfl, _, rfl, ?_⟩
  cases hv : valV kvs (ky at0) with
  | some v =>
    refine iteF ?_
    obtain ⟨L, d, rfl, hd, dl⟩ := g.at hv
    have e := grow_id hd
    exact hN1 _ _ ⟨⟨_, _, _, _, _, rfl⟩, kvs, d, L, Fr.refl _ _, by rw [e]; exact g, by rw [e]; exact hd, hv, fun _ _ h => h, fun _ _ => rfl, dl⟩
  | none =>
  refine iteT ?_
  obtain ⟨hd, hh⟩ : ∃ hd, hs[at0]? = some hd := ⟨hs[at0], List.getElem?_eq_getElem hat⟩
  obtain ⟨kv, hkv, rkv⟩ := rk.get (i := at0) (k := keyD hd) (by rw [List.getElem?_map, hh]; rfl)
  obtain ⟨ka, xs, rfl, eka, rxs⟩ := rkv.tup_inv
  -- key = keys[at]
  refine ⟨_, rfl, _, rfl, lk, us, at0, _, rfl, rfl, SqL.of hk, atI_nat hkv, ?_⟩
  -- the end of each road: the linear is put
  have fin : ∀ (z1 z2 z3 z4 z5 : Option V) (H1 H2 : Hp) (T1 M : List Atom) (kvs1 : List (Key × V)) (d : Addr) (L : Lin), Fr [da, df] H H1 → LW P w H1 hs da df sd T1 kvs1 → (∀ k v, valV kvs k = some v → valV kvs1 k = some v) → (∀ j, at0 ≤ j → valV kvs1 (ky j) = valV kvs (ky j)) →
      Fr [da] H1 H2 → DN w H2 da (enumN (T1 ++ M)) → M.length ≤ 1 → (T1 ++ M).Nodup → grow T0 (tr hs at0) = T1 ++ M → den (T1 ++ M) (tr hs at0) = some L → DL P w H2 da sd d L →
      ∃ a, V.ref df = .ref a ∧ GP P w H2 a (intN at0) (.ref d) fun H4 => N1 [some (.ref lk), some (intN at0), some (.ref da), some (.ref df), z1, z2, z3, z4, z5] H4 := by
    intro z1 z2 z3 z4 z5 H1 H2 T1 M kvs1 d L f1 g1 mo ab f2 nu hM td eg hden dl
    have hx : valV kvs1 (ky at0) = none := by rw [ab at0 (Nat.le_refl _)]; exact hv
    obtain ⟨e1, ff, g2, ep⟩ := g1.put f2 nu hM td hx hat hden dl
    refine ⟨df, rfl, GP.k (k := ky at0) e1 rfl (small_line (by have := g1.len; omega)) ?_⟩
    have ff2 : Fr [da, df] H (upd H2 df (.dK (putK kvs1 (ky at0) (.ref d)))) := f1.trans (by rw [ep] at ff ⊢; exact ff)
    refine hN1 _ _ ⟨⟨_, _, _, _, _, rfl⟩, kvs1 ++ [(ky at0, .ref d)], d, L, ff2, by rw [eg]; exact g2, by rw [eg]; exact hden, ?_, fun k v h => ?_, fun j hj => ?_, ?_⟩
    · rw [valV_snoc _ _ _ _ hx, if_pos rfl]
    · rw [valV_snoc _ _ _ _ hx]
      by_cases e : k = ky at0
      · rw [e, hv] at h
        cases h
      · rw [if_neg e]
        exact mo k v h
    · rw [valV_snoc _ _ _ _ hx, if_neg (ky_ne (by omega))]
      exact ab j (by omega)
    · refine dl.kp (df := df) ?_ (fun o z => by rw [e1] at z; cases z)
      exact (Fr.old (S := [df]) List.mem_cons_self e1 (fun z => z)).mono (by simp)
  -- atoms.setdefault(name, len(atoms)); found[at] = {atoms[name]: 1}
  have els : ∀ (z1 z2 z3 z5 : Option V) (H1 : Hp) (T1 : List Atom) (kvs1 : List (Key × V)) (a : Atom) (v : V), Fr [da, df] H H1 → LW P w H1 hs da df sd T1 kvs1 → (∀ k v, valV kvs k = some v → valV kvs1 k = some v) → (∀ j, at0 ≤ j → valV kvs1 (ky j) = valV kvs (ky j)) →
      Rep H1 (nameD a) v → grow T0 (tr hs at0) = addA T1 a → (∀ i, pos (addA T1 a) a = some i → den (addA T1 a) (tr hs at0) = some (Atom.unit i)) → ∀ RT : Ends,
      tSeq (tDrop (gSetd P w (tVar 2) (tVar 7) (tCB (fun xs H Q => ∃ a n, xs = [V.ref a] ∧ GD P w H a n ∧ Q (.int (n : Int)) H) (tCons (tVar 2) tNil)))) (gPut P w (tVar 3) (tVar 1) (tDisp1 P w (gGet P w (tVar 2) (tVar 7)) (tC (.int 1)))) { RT with nx := N1 }
        [some (.ref lk), some (intN at0), some (.ref da), some (.ref df), z1, z2, z3, some v, z5] H1 := by
    intro z1 z2 z3 z5 H1 T1 kvs1 a v f1 g1 mo ab rv eg hden RT
    have hlen : T1.length ≤ 30 := by
      have := g1.len
      have := g1.tz
      omega
    obtain ⟨i, hi⟩ := addA_pos T1 a
    obtain ⟨o0, e0⟩ := g1.nu.at
    refine ⟨_, rfl, da, _, rfl, .inr (.inl ⟨_, g1.nu, rfl⟩), _, rfl, _, rfl, da, _, rfl, .inr (.inl ⟨_, g1.nu, rfl⟩), _, _, g1.nu, rv, nameD_depth a, small_line (by rw [enumF_len]; omega), ?_⟩
    have ev := enumN_val T1 a
    have rest : ∀ H2, Fr [da] H1 H2 → DN w H2 da (enumN (addA T1 a)) → gPut P w (tVar 3) (tVar 1) (tDisp1 P w (gGet P w (tVar 2) (tVar 7)) (tC (.int 1))) { RT with nx := N1 } [some (.ref lk), some (intN at0), some (.ref da), some (.ref df), z1, z2, z3, some v, z5] H2 := by
      intro H2 f2 nu
      refine fun p o hp lp => ?_
      obtain ⟨o2, e2⟩ := nu.at
      have fp : Fr [] H2 (upd H2 p (exo p o)) := Fr.new hp
      have nu2 : DN w (upd H2 p (exo p o)) da (enumN (addA T1 a)) := nu.keep (upd_ne (ne_of_none e2 hp)) fp.tups
      have ev2 : valV (enumN (addA T1 a)) (.tup (nameK a)) = some (V.int (i : Int)) := by
        have := enumN_val (addA T1 a) a
        rw [hi] at this
        exact this
      have pda : p ≠ da := fun z => by rw [z, e2] at hp; cases hp
      refine ⟨_, rfl, _, rfl, da, _, rfl, ev2 ▸ GG.n nu2 (rv.kp (fun b xs h => fp.tups b xs (f2.tups b xs h))) (nameD_depth a), lf (i : Int), .int 1, by rw [lf_nat]; rfl, upd_same, fun o' l2 => ?_⟩
      refine ⟨_, rfl, _, rfl, ?_⟩
      rw [upd_upd] at l2 ⊢
      have fp2 : Fr [] H2 (upd H2 p (exo p o')) := Fr.new hp
      obtain ⟨M, eM, hM⟩ := addA_one T1 a
      have ndp : (addA T1 a).Nodup := addA_nodup g1.td
      have nu3 : DN w (upd H2 p (exo p o')) da (enumN (addA T1 a)) := nu.keep (upd_ne (ne_of_none e2 hp)) fp2.tups
      have hd2 := hden i hi
      rw [eM] at nu3 ndp hd2 eg
      exact fin _ _ _ _ _ H1 _ T1 M kvs1 p (Atom.unit i) f1 g1 mo ab (f2.trans fp2.nil) nu3 hM ndp eg hd2 ⟨⟨pda, nsd (f1.trans (f2.mono (by simp))) hp⟩, [((i : Int), 1)], l2, IsD.unit i⟩
    refine ⟨fun z hz => ?_, fun hz o dnew => ?_⟩
    · have am : a ∈ T1 := by
        cases q : pos T1 a with
        | none => rw [q] at ev; rw [show valV (enumN T1) (.tup (nameK a)) = none from ev] at hz; cases hz
        | some j => exact List.mem_of_getElem? (pos_at q)
      exact rest H1 (Fr.refl _ _) (by rw [addA_old am]; exact g1.nu)
    · have am : a ∉ T1 := fun z => by
        cases q : pos T1 a with
        | none => exact pos_none.mp q z
        | some j => rw [q] at ev; rw [show valV (enumN T1) (.tup (nameK a)) = some _ from ev] at hz; cases hz
      refine rest _ (Fr.old List.mem_cons_self e0 (fun z => z)) ?_
      rw [addA_new am, ← enumN_put am]
      rw [enumF_len] at dnew
      exact dnew
  cases hd with
  | letter i =>
    have eT : grow T0 (tr hs at0) = addA T0 (.letter i) := by rw [tr_letter hh, grow]
    cases rxs with
    | cons h1 t1 =>
      have e1 := h1.text_inv
      subst e1
      refine ⟨_, rfl, ka, _, 0, _, rfl, rfl, .inl eka, atI_nat (j := 0) rfl, rfl, _, rfl, ?_⟩
      refine ite2 (fun z => absurd z (sn (by decide))) (fun _ => ?_)
      refine ⟨(by show 0 ≤ sizeLine; decide), fun D hD => ?_⟩
      have fD : Fr [] H (upd H D (.lst [])) := Fr.new hD
      have ek1 := fD.tups _ _ eka
      have tt : ∀ {R : Bool → Hp → Prop}, R false (upd H D (.lst [])) → tTest (tOp rEq (tOp (rIxT K) (tVar 4) (tC (V.int 0))) (tC (V.str "op"))) [some (.ref lk), some (intN at0), some (.ref da), some (.ref df), some (.ref ka), some (.ref D), some (.int (0 : Int)), none, none] (upd H D (.lst [])) R := fun {R} h => by
        refine ⟨_, rfl, ka, _, 0, _, rfl, rfl, .inl ek1, atI_nat (j := 0) rfl, rfl, _, rfl, ?_⟩
        have e : decide (V.str "letter" = V.str "op") = false := decide_eq_false fun z => lo_ne (V.str.inj z)
        rw [e]
        exact h
      refine ⟨_, rfl, _, 0, rfl, .inl ⟨[], SqL.of upd_same, rfl⟩, ?_⟩
      refine tt (iteF ?_)
      refine iteF ?_
      refine tt (iteF ?_)
      refine iteF ?_
      refine tt (iteF ?_)
      refine iteF ?_
      refine ⟨_, rfl, ka, _, 0, _, rfl, rfl, .inl ek1, atI_nat (j := 0) rfl, rfl, _, rfl, ?_⟩
      refine ite2 (fun _ => ?_) (fun z => absurd (se _) z)
      refine ⟨_, rfl, ?_⟩
      refine els _ _ _ _ (upd H D (.lst [])) T0 kvs (.letter i) (.ref ka) fD.nil (g.kp fD) (fun _ _ h => h) (fun _ _ => rfl) (rkv.kp fD.tups) eT (fun j hj => ?_) { nx := fun _ H' => Q V.non H', rt := Q }
      rw [tr_letter hh, den, hj]
      rfl
  | op o ps =>
    have Wo := W at0 o ps hh
    cases rxs with
    | cons h1 t1 =>
      cases t1 with
      | cons h2 t2 =>
        cases t2 with
        | cons h3 t3 =>
          cases t3
          have e1 := h1.text_inv
          subst e1
          have e2 := h2.text_inv
          subst e2
          obtain ⟨b3, ys, rfl, eb3, rb3⟩ := h3.tup_inv
          have e3 := reps_nat rb3
          subst e3
          refine ⟨_, rfl, ka, _, 0, _, rfl, rfl, .inl eka, atI_nat (j := 0) rfl, rfl, _, rfl, ?_⟩
          refine ite2 (fun _ => ?_) (fun z => absurd (se _) z)
          refine ⟨_, rfl, ka, _, 2, _, rfl, rfl, .inl eka, atI_nat (j := 2) rfl, b3, rfl, ⟨_, .inl eb3⟩, fun D hD => ?_⟩
          have fD : Fr [] H (upd H D (.lst [])) := Fr.new hD
          obtain ⟨z1, z2⟩ := g.dfn
          obtain ⟨oda, eda⟩ := g.nu.at
          have lkn : lk ∉ [da, df] := by
            simp only [List.mem_cons, List.not_mem_nil, or_false, not_or]
            exact ⟨ne_of hk eda (fun z => by cases z), ne_of hk g.df (fun z => by cases z)⟩
          have Dn : D ∉ [da, df] := by
            simp only [List.mem_cons, List.not_mem_nil, or_false, not_or]
            exact ⟨(ne_of_none eda hD).symm, (ne_of_none g.df hD).symm⟩
          refine lc_it (walk_tup (xs := ps.map intN)) (fun j H2 => ∃ kvs1 ds Ls, Fr [da, df] H H2 ∧ LW P w H2 hs da df sd (growAll T0 ((ps.take j).map (tr hs))) kvs1 ∧ (∀ k v, valV kvs k = some v → valV kvs1 k = some v) ∧ (∀ j, at0 ≤ j → valV kvs1 (ky j) = valV kvs (ky j)) ∧ H2 D = some (.lst (ds.map V.ref)) ∧ ds.length = j ∧
            denAll (growAll T0 ((ps.take j).map (tr hs))) ((ps.take j).map (tr hs)) = some Ls ∧ Paired (fun d L => DL P w H2 da sd d L) ds Ls)
            ⟨kvs, [], [], fD.nil, g.kp fD, fun _ _ h => h, fun _ _ => rfl, upd_same, rfl, by rw [List.take_zero, List.map_nil, denAll], .nil⟩ (fun j H2 _ e => ?_) (fun j y H2 H3 hj e yy => ?_) (fun H2 e => ?_)
          · obtain ⟨_, _, _, f, _⟩ := e
            exact .inl (f.tups _ _ eb3)
          · obtain ⟨kvs1, ds, Ls, f1, g1, mo, ab, eD, ld, hLs, pr⟩ := e
            obtain ⟨rfl, hy⟩ := yy
            rw [List.getElem?_map] at hy
            obtain ⟨q, hq, rfl⟩ := Option.map_eq_some_iff.mp hy
            have hj' : j < ps.length := by simpa using hj
            have eq' : ps[j] = q := by
              have := List.getElem?_eq_getElem hj'
              rw [hq] at this
              exact (Option.some.inj this).symm
            have lq : q < at0 := Wo.2.2 q (List.mem_of_getElem? hq)
            have tk : (ps.take (j + 1)).map (tr hs) = (ps.take j).map (tr hs) ++ [tr hs q] := by
              rw [List.take_succ_eq_append_getElem hj', List.map_append, eq']
              rfl
            refine ⟨rfl, _, rfl, _, rfl, _, rfl, _, rfl, lk, da, df, sd, q, us, hs, _, kvs1, rfl, by omega, by omega, hz, sdn, ⟨usd, f1 _ _ hsd (.inl sdn)⟩, W, f1 _ _ hk (.inl lkn), rk.kp f1.tups, g1, fun H4 kvs2 d L f2 g2 hd hv2 mo2 ab2 dl => ?_⟩
            have eD4 := f2 _ _ eD (.inl Dn)
            have W3 := Wo.2.1
            refine ⟨_, eD4, small_line (by rw [List.length_map]; omega), kvs2, ds ++ [d], Ls ++ [L], fun b u e n => ?_, ?_, fun k v h => mo2 k v (mo k v h), fun i hi => ?_, by rw [upd_same, List.map_append]; rfl, by simp [ld], ?_, ?_⟩
            · rw [upd_ne (ne_of_none e hD)]
              exact (f1.trans f2) b u e n
            · rw [tk, growAll_snoc]
              exact g2.kpT _ g hD eD4
            · rw [ab2 i (by omega)]
              exact ab i hi
            · rw [tk, growAll_snoc]
              obtain ⟨M, eM⟩ := grow_more (growAll T0 ((ps.take j).map (tr hs))) (tr hs q)
              rw [eM] at hd ⊢
              exact denAll_snoc (denAll_more hLs) hd
            · exact Paired.snoc (Paired.mapP pr fun d L h => (h.kp f2 g1.dfn.1).kpT _ eD4) (dl.kpT _ eD4)
          · obtain ⟨kvs1, ds, Ls, f1, g1, mo, ab, eD, ld, hLs, pr⟩ := e
            have el : (ps.take (ps.map intN).length) = ps := by simp
            rw [el] at hLs g1
            rw [List.length_map] at ld
            generalize eT1 : growAll T0 (ps.map (tr hs)) = T1 at *
            have eg : grow T0 (tr hs at0) = opGrow T1 o Ls := by rw [tr_op W hh, M60.grow, eT1, hLs]
            have hop : ∀ M L, opLin (T1 ++ M) o Ls = some L → den (T1 ++ M) (tr hs at0) = some L := fun M L h => by
              rw [tr_op W hh, den, denAll_more hLs]
              exact h
            have lens : Ls.length = ds.length := (Paired.length pr).symm
            have tz : T1.length ≤ 30 := by
              have := g1.len
              have := g1.tz
              omega
            have ek2 := f1.tups _ _ eka
            have ln2 : ∀ {n : Int}, decide (V.int (ds.length : Int) = V.int n) = true → (ds.length : Int) = n := fun h => V.int.inj (of_decide_eq_true h)
            -- size
            refine ⟨_, rfl, _, ds.length, rfl, .inl ⟨_, SqL.of eD, by simp⟩, ?_⟩
            -- a real operation: its linear is put
            have put1 : ∀ (H3 H4 : Hp) (d : Addr) (L : Lin), Fr [] H2 H3 → real o Ls = some L → Fr [] H3 H4 → DL P w H4 da sd d L → ∃ a, V.ref df = .ref a ∧ GP P w H4 a (intN at0) (.ref d) fun H5 => N1 [some (.ref lk), some (intN at0), some (.ref da), some (.ref df), some (.ref ka), some (.ref D), some (.int (ds.length : Int)), none, none] H5 := by
              intro H3 H4 d L f3 hR f4 dl
              have f34 : Fr [] H2 H4 := f3.trans f4
              have e1 : grow T0 (tr hs at0) = T1 ++ [] := by
                rw [eg]
                unfold opGrow
                rw [hR]
                simp
              exact fin _ _ _ _ _ H2 H4 T1 [] kvs1 d L f1 g1 mo ab f34.nil (by rw [List.append_nil]; exact (g1.kp f34).nu) (by simp) (by rw [List.append_nil]; exact g1.td) e1 (hop [] L (by unfold opLin; rw [hR])) dl
            refine ⟨_, rfl, ka, _, 0, _, rfl, rfl, .inl ek2, atI_nat (j := 0) rfl, rfl, _, rfl, ?_⟩
            refine ite2 (fun _ => ?_) (fun z => absurd (se _) z)
            refine ⟨_, rfl, ka, _, 1, _, rfl, rfl, .inl ek2, atI_nat (j := 1) rfl, (by show 2 ≤ sizeLine; decide), fun p hp => ?_⟩
            have f3 : Fr [] H2 (upd H2 p (.tup [.str "add", .str "sub"])) := Fr.new hp
            have hp1 : upd H2 p (.tup [.str "add", .str "sub"]) p = some (.tup [.str "add", .str "sub"]) := upd_same
            generalize upd H2 p (.tup [.str "add", .str "sub"]) = H3 at *
            have ek3 := f3.tups _ _ ek2
            have eD3 := f3 _ _ eD (.inl (fun h => nomatch h))
            have pr3 : Paired (fun d L => DL P w H3 da sd d L) ds Ls := Paired.mapP pr fun d L h => h.kp0 f3
            have Lok := denAll_ok hLs
            refine ⟨p, _, rfl, .inr (SqT.of hp1), rfl, rfl, _, rfl, ?_⟩
            refine and_skip (d := decide (V.int (ds.length : Int) = V.int 2)) (fun R' h => ⟨_, rfl, rfl, _, rfl, h⟩) ?_
            refine ite2 (fun c => ?_) (fun c1 => ?_)
            · obtain ⟨ca, cb⟩ := (Bool.and_eq_true_iff.mp c)
              have l2 : ds.length = 2 := by have := ln2 cb; omega
              obtain ⟨d1, d2, rfl⟩ : ∃ d1 d2, ds = [d1, d2] := by
                match ds, l2 with
                | [x, y], _ => exact ⟨x, y, rfl⟩
              obtain ⟨L1, L2', rfl, hd1, hd2⟩ : ∃ L1 L2', Ls = [L1, L2'] ∧ DL P w H3 da sd d1 L1 ∧ DL P w H3 da sd d2 L2' := by
                cases pr3 with
                | cons h1 t1 =>
                  cases t1 with
                  | cons h2 t2 =>
                    cases t2
                    exact ⟨_, _, rfl, h1, h2⟩
              obtain ⟨_, m1, hm1, im1⟩ := hd1
              obtain ⟨_, m2, hm2, im2⟩ := hd2
              have ok1 := Lok L1 (by simp)
              have ok2 := Lok L2' (by simp)
              have lm1 := im1.len ok1
              have lm2 := im2.len ok2
              have go : ∀ f : Int, (f = 1 ∨ f = -1) → (∀ L, L = (L1.1 + f * L2'.1, addL L1.2 (if f = 1 then L2'.2 else negL L2'.2)) → real o [L1, L2'] = some L) → (spPlus P w) [.ref d1, .ref d2, .int f] H3 (fun v H4 => ∃ x1, x1 = v ∧ ∃ a, V.ref df = .ref a ∧ GP P w H4 a (intN at0) x1 fun H5 => N1 [some (.ref lk), some (intN at0), some (.ref da), some (.ref df), some (.ref ka), some (.ref D), some (.int (([d1, d2] : List Addr).length : Int)), none, none] H5) E0 := by
                intro f hf hR
                refine ⟨d1, d2, f, m1, m2, rfl, hf, hm1, hm2, im1.1, im2.1, by omega, by omega, fun H4 q r f4 hq lr nr lkr zr => ⟨_, rfl, ?_⟩⟩
                refine put1 H3 H4 q _ f3 (hR _ rfl) f4 ⟨⟨fun z => ?_, nsd (f1.trans f3.nil) hq⟩, r, lr, nr, zr, ?_, fun a ha => ?_⟩
                · obtain ⟨o5, e5⟩ := (g1.kp f3).nu.at
                  rw [z, e5] at hq
                  cases hq
                · rw [lkr, im1.2.2.1, im2.2.2.1]
                · rw [lkr, im1.2.2.2 a ha, im2.2.2.2 a ha]
                  rcases hf with rfl | rfl
                  · rw [if_pos rfl, look_addL a ok1.1 ok2.1]
                    omega
                  · rw [if_neg (by decide), look_addL a ok1.1 (negL_lin ok2.1), look_negL]
                    omega
              refine ⟨_, rfl, D, _, 0, _, rfl, rfl, SqL.of eD3, atI_nat (j := 0) rfl, _, rfl, D, _, 1, _, rfl, rfl, SqL.of eD3, atI_nat (j := 1) rfl, _, rfl, ka, _, 1, _, rfl, rfl, .inl ek3, atI_nat (j := 1) rfl, rfl, _, rfl, ?_⟩
              have fix : ∀ {f : Int}, (spPlus P w) [.ref d1, .ref d2, .int f] H3 (fun v H4 => ∃ x1, x1 = v ∧ ∃ a, V.ref df = .ref a ∧ GP P w H4 a (intN at0) x1 fun H5 => N1 [some (.ref lk), some (intN at0), some (.ref da), some (.ref df), some (.ref ka), some (.ref D), some (.int (([d1, d2] : List Addr).length : Int)), none, none] H5) E0 →
                  (spPlus P w) [.ref d1, .ref d2, .int f] H3 (fun v H4 => tVar 3 [some (.ref lk), some (intN at0), some (.ref da), some (.ref df), some (.ref ka), some (.ref D), some (.int (([d1, d2] : List Addr).length : Int)), none, none] H4 fun x H2 => tVar 1 [some (.ref lk), some (intN at0), some (.ref da), some (.ref df), some (.ref ka), some (.ref D), some (.int (([d1, d2] : List Addr).length : Int)), none, none] H2 fun y H3 => ∃ a, x = .ref a ∧ GP P w H3 a y v fun H5 => N1 [some (.ref lk), some (intN at0), some (.ref da), some (.ref df), some (.ref ka), some (.ref D), some (.int (([d1, d2] : List Addr).length : Int)), none, none] H5) E0 := by
                intro f h
                obtain ⟨b1, b2, f', l', m', h0, h1, h2, h3, h4, h5, h6, h7, h8⟩ := h
                refine ⟨b1, b2, f', l', m', h0, h1, h2, h3, h4, h5, h6, h7, fun H' p r a1 a2 a3 a4 a5 a6 => ?_⟩
                obtain ⟨x1, rfl, h9⟩ := h8 H' p r a1 a2 a3 a4 a5 a6
                exact ⟨_, rfl, _, rfl, h9⟩
              rcases in_addsub ca Wo.1 with rfl | rfl
              · refine ite2 (fun _ => ?_) (fun z => absurd (se _) z)
                refine fix (go 1 (.inl rfl) fun L e => ?_)
                rw [e, if_pos rfl]
                show some (L1.1 + L2'.1, addL L1.2 L2'.2) = _
                rw [Int.one_mul]
              · refine ite2 (fun z => absurd z (sn (by decide))) (fun _ => ?_)
                refine ⟨1, rfl, ?_⟩
                refine fix (go (-1) (.inr rfl) fun L e => ?_)
                rw [e, if_neg (by decide)]
                show some (L1.1 - L2'.1, addL L1.2 (negL L2'.2)) = _
                rw [show L1.1 - L2'.1 = L1.1 + -1 * L2'.1 by omega]
            · refine ⟨_, rfl, ka, _, 0, _, rfl, rfl, .inl ek3, atI_nat (j := 0) rfl, rfl, _, rfl, ?_⟩
              refine ite2 (fun _ => ?_) (fun z => absurd (se _) z)
              refine ⟨_, rfl, ka, _, 1, _, rfl, rfl, .inl ek3, atI_nat (j := 1) rfl, rfl, _, rfl, ?_⟩
              refine and_skip (d := decide (V.int (ds.length : Int) = V.int 1)) (fun R' h => ⟨_, rfl, rfl, _, rfl, h⟩) ?_
              refine ite2 (fun c => ?_) (fun c2 => ?_)
              · obtain ⟨ca, cb⟩ := (Bool.and_eq_true_iff.mp c)
                have l1' : ds.length = 1 := by have := ln2 cb; omega
                have eo : o = "neg" := V.str.inj (of_decide_eq_true ca)
                subst eo
                obtain ⟨d1, rfl⟩ := List.length_eq_one_iff.mp l1'
                obtain ⟨L1, rfl, hd1⟩ : ∃ L1, Ls = [L1] ∧ DL P w H3 da sd d1 L1 := by
                  cases pr3 with
                  | cons h1 t1 =>
                    cases t1
                    exact ⟨_, rfl, h1⟩
                obtain ⟨n1, m1, hm1, im1⟩ := hd1
                have ok1 := Lok L1 (by simp)
                have lm1 := im1.len ok1
                refine fun p0 o0 hp0 l0 => ?_
                have f4 : Fr [] H3 (upd H3 p0 (exo p0 o0)) := Fr.new hp0
                obtain ⟨o5, e5⟩ := hm1.at
                have hm1' : LD P w (upd H3 p0 (exo p0 o0)) d1 (encF m1) := hm1.keep (upd_ne (ne_of_none e5 hp0))
                refine ⟨_, rfl, D, _, 0, _, rfl, rfl, SqL.of (f4 _ _ eD3 (.inl (fun h => nomatch h))), atI_nat (j := 0) rfl, 1, rfl, p0, d1, -1, [], m1, rfl, .inr rfl, l0, hm1', List.nodup_nil, im1.1, Nat.zero_le _, by omega, fun H4 q r f5 hq lr nr lkr zr => ⟨_, rfl, _, rfl, ?_⟩⟩
                refine put1 H3 H4 q (-L1.1, negL L1.2) f3 rfl (f4.trans f5) ⟨⟨fun z => ?_, nsd (f1.trans (f3.trans f4).nil) hq⟩, r, lr, nr, zr, ?_, fun a ha => ?_⟩
                · obtain ⟨o6, e6⟩ := ((g1.kp f3).kp f4).nu.at
                  rw [z, e6] at hq
                  cases hq
                · rw [lkr, im1.2.2.1, look_nil]
                  show 0 + -1 * L1.1 = -L1.1
                  omega
                · rw [lkr, im1.2.2.2 a ha, look_negL, look_nil]
                  omega
              · refine ⟨_, rfl, ka, _, 0, _, rfl, rfl, .inl ek3, atI_nat (j := 0) rfl, rfl, _, rfl, ?_⟩
                refine ite2 (fun _ => ?_) (fun z => absurd (se _) z)
                obtain ⟨mf1, mf2⟩ := menu_first Wo.1
                refine ⟨_, rfl, ka, _, 1, _, rfl, rfl, .inl ek3, atI_nat (j := 1) rfl, o, 0, _, rfl, rfl, small_le (by omega), atI_nat (j := 0) mf1, _, digs, rfl, rfl, _, rfl, ?_⟩
                refine and_skip (d := decide (V.int (ds.length : Int) = V.int 0)) (fun R' h => ⟨_, rfl, rfl, _, rfl, h⟩) ?_
                refine ite2 (fun c => ?_) (fun c3 => ?_)
                · obtain ⟨ca, cb⟩ := (Bool.and_eq_true_iff.mp c)
                  have ca : dig o = true := ca
                  have l0' : ds.length = 0 := by have := ln2 cb; omega
                  have ed := List.eq_nil_of_length_eq_zero l0'
                  subst ed
                  have eLs : Ls = [] := by
                    cases pr3
                    rfl
                  subst eLs
                  rcases dig_70 ca Wo.1 with ⟨rfl, ht⟩ | ⟨rfl, ht⟩
                  · refine ⟨_, rfl, ka, _, 1, _, rfl, rfl, .inl ek3, atI_nat (j := 1) rfl, _, 7, rfl, ht, by decide, rfl, _, rfl, ?_⟩
                    refine ite2 (fun _ => ?_) (fun z => absurd (by rfl) z)
                    refine fun p0 o0 hp0 l0 => ?_
                    have f4 : Fr [] H3 (upd H3 p0 (exo p0 o0)) := Fr.new hp0
                    refine ⟨_, rfl, ka, _, 1, _, rfl, rfl, .inl (f4.tups _ _ ek3), atI_nat (j := 1) rfl, _, 7, rfl, ht, by decide, lf (-1), .int 7, rfl, upd_same, fun o' l2 => ⟨_, rfl, _, rfl, ?_⟩⟩
                    rw [upd_upd] at l2 ⊢
                    obtain ⟨o6, e6⟩ := (g1.kp f3).nu.at
                    refine put1 H3 _ p0 (7, []) f3 rfl (Fr.new hp0) ⟨⟨fun z => (by rw [z, e6] at hp0; cases hp0), nsd (f1.trans f3.nil) hp0⟩, [(-1, 7)], l2, by simp, fun q hq => by rw [List.mem_singleton.mp hq]; show (7 : Int) ≠ 0; decide, rfl, fun a ha => ?_⟩
                    rw [look_neg (by show ¬ (-1 : Int) = a; omega)]
                  · refine ⟨_, rfl, ka, _, 1, _, rfl, rfl, .inl ek3, atI_nat (j := 1) rfl, _, 0, rfl, ht, by decide, rfl, _, rfl, ?_⟩
                    refine ite2 (fun z => absurd z (by decide)) (fun _ => ?_)
                    refine fun p0 o0 hp0 l0 => ⟨_, rfl, _, rfl, ?_⟩
                    obtain ⟨o6, e6⟩ := (g1.kp f3).nu.at
                    exact put1 H3 _ p0 (0, []) f3 rfl (Fr.new hp0) ⟨⟨fun z => (by rw [z, e6] at hp0; cases hp0), nsd (f1.trans f3.nil) hp0⟩, [], l0, List.nodup_nil, (fun _ h => nomatch h), rfl, fun a ha => rfl⟩
                · have rn : real o Ls = none := by
                    refine real_none (fun z => c1 ?_) (fun z => c2 ?_) (fun z => c3 ?_)
                    · exact Bool.and_eq_true_iff.mpr ⟨z.1, decide_eq_true (by rw [← lens, z.2]; rfl)⟩
                    · exact Bool.and_eq_true_iff.mpr ⟨z.1, decide_eq_true (by rw [← lens, z.2]; rfl)⟩
                    · exact Bool.and_eq_true_iff.mpr ⟨z.1, decide_eq_true (by rw [← lens, z.2]; rfl)⟩
                  refine ⟨_, rfl, ka, _, 0, _, rfl, rfl, .inl ek3, atI_nat (j := 0) rfl, rfl, _, rfl, ?_⟩
                  refine ite2 (fun z => absurd z (sn (by decide))) (fun _ => ?_)
                  refine ⟨_, rfl, ka, _, 1, _, rfl, rfl, .inl ek3, atI_nat (j := 1) rfl, _, rfl, D, rfl, ⟨_, SqL.of eD3⟩, fun D3 hD3 => ?_⟩
                  refine lc_it (walk_list (xs := ds.map V.ref)) (fun j H4 => Fr [] H3 H4 ∧ ∃ vs, H4 D3 = some (.lst vs) ∧ vs.length = j ∧ Reps H4 ((Ls.take j).map linD) vs) ⟨Fr.new hD3, [], upd_same, rfl, .nil⟩ (fun j H4 _ e => SqL.of (e.1 _ _ eD3 (.inl (fun h => nomatch h)))) (fun j y H4 H5 hj e yy => ?_) (fun H4 e => ?_)
                  · obtain ⟨f4, vs, e4, lv, rs⟩ := e
                    obtain ⟨rfl, hy⟩ := yy
                    rw [List.getElem?_map] at hy
                    obtain ⟨d, hd, rfl⟩ := Option.map_eq_some_iff.mp hy
                    obtain ⟨L, hL, dl⟩ := paired_at pr3 hd
                    obtain ⟨n1, m1, hm1, im1⟩ := dl.kp0 f4
                    have hj' : j < Ls.length := (List.getElem?_eq_some_iff.mp hL).1
                    have W3 := Wo.2.1
                    refine ⟨rfl, _, rfl, d, m1, L, T1.length, rfl, hm1, im1, Lok L (List.mem_of_getElem? hL), by omega, fun H6 v f6 rv => ?_⟩
                    have e6 := f6 _ _ e4 (.inl (fun h => nomatch h))
                    have f7 : Fr [D3] H6 (upd H6 D3 (.lst (vs ++ [v]))) := Fr.old List.mem_cons_self e6 (fun z => z)
                    refine ⟨vs, e6, small_line (by omega), fun b u e n => ?_, vs ++ [v], upd_same, by simp [lv], ?_⟩
                    · rw [upd_ne (ne_of_none e hD3)]
                      exact (f4.trans f6) b u e n
                    · have tk : (Ls.take (j + 1)).map linD = (Ls.take j).map linD ++ [linD L] := by
                        rw [List.take_succ_eq_append_getElem hj', List.map_append]
                        rw [List.getElem?_eq_getElem hj'] at hL
                        rw [Option.some.inj hL]
                        rfl
                      rw [tk]
                      exact ((rs.kp f6.tups).kp f7.tups).append (.cons (rv.kp f7.tups) .nil)
                  · obtain ⟨f4, vs, e4, lv, rs⟩ := e
                    have eL3 : Ls.take (ds.map V.ref).length = Ls := by
                      rw [List.length_map, ← lens, List.take_length]
                    rw [eL3] at rs
                    refine ⟨D3, _, rfl, .inl ⟨SqL.of e4, fun t ht => ⟨(by show 3 ≤ sizeLine; decide), fun t2 ht2 => ?_⟩⟩⟩
                    have n21 : t2 ≠ t := fun e => by rw [e, upd_same] at ht2; cases ht2
                    have f5 : Fr [] H4 (upd (upd H4 t (.tup vs)) t2 (.tup [.str "op", .str o, .ref t])) := (Fr.new ht).trans (Fr.new ht2)
                    have e5 : upd (upd H4 t (.tup vs)) t2 (.tup [.str "op", .str o, .ref t]) t2 = some (.tup [.str "op", .str o, .ref t]) := upd_same
                    have e6 : upd (upd H4 t (.tup vs)) t2 (.tup [.str "op", .str o, .ref t]) t = some (.tup vs) := by rw [upd_ne n21.symm, upd_same]
                    generalize upd (upd H4 t (.tup vs)) t2 (.tup [.str "op", .str o, .ref t]) = H6 at *
                    have f26 : Fr [] H2 H6 := (f3.trans f4).trans f5
                    refine els _ _ _ _ H6 T1 kvs1 (.op o Ls) (.ref t2) (f1.trans f26.nil) (g1.kp f26) mo ab (.tup (.inl e5) (.cons (.text _) (.cons (.text _) (.cons (.tup (.inl e6) (rs.kp f5.tups)) .nil)))) ?_ (fun j hj => ?_) { nx := fun _ H' => Q V.non H', rt := Q }
                    · rw [eg]
                      unfold opGrow
                      rw [rn]
                    · obtain ⟨M, eM⟩ := addA_more T1 (.op o Ls)
                      rw [eM] at hj ⊢
                      refine hop M _ ?_
                      unfold opLin
                      rw [rn, hj]
                      rfl
end
end R60

set_option Elab.async false
set_option linter.all false
set_option maxRecDepth 100000
set_option maxHeartbeats 1600000
namespace R60
open PySem PySem.Spec PyProof.Rows L2 M60
/-- a head over other numbers -/
def ren (Ms : List Nat) : Hd → Hd
  | .letter k => .letter k
  | .op o ps => .op o (ps.map fun p => Ms.getD p 0)
structure RenOk (hs hs' : List Hd) (Ms : List Nat) (i : Nat) : Prop where
  len : Ms.length = i
  pt : ∀ j, j < i → ∃ M, Ms[j]? = some M ∧ M < hs'.length ∧ tr hs' M = tr hs j
  wf : WF hs'
  lt : LetOk hs'
  sz : hs'.length ≤ i
theorem RenOk.getD {hs hs' : List Hd} {Ms : List Nat} {i j : Nat} (r : RenOk hs hs' Ms i) (h : j < i) : Ms[j]? = some (Ms.getD j 0) ∧ Ms.getD j 0 < hs'.length ∧ tr hs' (Ms.getD j 0) = tr hs j := by
  obtain ⟨M, h1, h2, h3⟩ := r.pt j h
  have : Ms.getD j 0 = M := by rw [List.getD_eq_getElem?_getD, h1]; rfl
  rw [this]
  exact ⟨h1, h2, h3⟩
theorem RenOk.nil (hs : List Hd) : RenOk hs [] [] 0 := ⟨rfl, fun _ h => absurd h (Nat.not_lt_zero _), fun _ _ _ e => (by cases e), fun _ _ e => (by cases e), Nat.le_refl _⟩
theorem RenOk.step {hs hs' : List Hd} {Ms : List Nat} {i M : Nat} {h : Hd} (W : WF hs) (Lk : LetOk hs) (r : RenOk hs hs' Ms i) (hh : hs[i]? = some h) (hM : (addH hs' (ren Ms h))[M]? = some (ren Ms h)) : RenOk hs (addH hs' (ren Ms h)) (Ms ++ [M]) (i + 1) := by
  have hi : i < hs.length := (List.getElem?_eq_some_iff.mp hh).1
  have W2 : WF (addH hs' (ren Ms h)) := by
    by_cases q : ren Ms h ∈ hs'
    · rw [addH_old q]; exact r.wf
    · rw [addH_new q]
      refine r.wf.snoc fun o ps e => ?_
      cases h with
      | letter k => cases e
      | op o' ps' =>
        have Wi := W i o' ps' hh
        cases e
        refine ⟨Wi.1, by rw [List.length_map]; exact Wi.2.1, fun q hq => ?_⟩
        obtain ⟨p, hp, e⟩ := List.mem_map.mp hq
        rw [← e]
        exact (r.getD (Wi.2.2 p hp)).2.1
  have L2 : LetOk (addH hs' (ren Ms h)) := by
    by_cases q : ren Ms h ∈ hs'
    · rw [addH_old q]; exact r.lt
    · rw [addH_new q]
      refine r.lt.snoc fun k e => ?_
      cases h with
      | letter k' =>
        cases e
        exact Lk i k hh
      | op o' ps' => cases e
  obtain ⟨A, eA⟩ := addH_more hs' (ren Ms h)
  have old : ∀ {m}, m < hs'.length → tr (addH hs' (ren Ms h)) m = tr hs' m := fun h => by rw [eA, tr_app h]
  have lM : M < (addH hs' (ren Ms h)).length := (List.getElem?_eq_some_iff.mp hM).1
  have lA : hs'.length ≤ (addH hs' (ren Ms h)).length := by rw [eA]; simp
  refine ⟨by simp [r.len], fun j hj => ?_, W2, L2, by have := addH_len hs' (ren Ms h); have := r.sz; omega⟩
  by_cases z : j < i
  · obtain ⟨m, h1, h2, h3⟩ := r.pt j z
    exact ⟨m, by rw [List.getElem?_append_left (by rw [r.len]; exact z)]; exact h1, by omega, by rw [old h2, h3]⟩
  · have e : j = i := by omega
    subst e
    refine ⟨M, by rw [List.getElem?_append_right (by rw [r.len]; exact Nat.le_refl _), r.len]; simp, lM, ?_⟩
    cases h with
    | letter k => rw [tr_letter hM, tr_letter hh]
    | op o ps =>
      have Wi := W j o ps hh
      rw [tr_op W2 hM, tr_op W hh, List.map_map]
      refine congrArg _ (List.map_congr_left fun p hp => ?_)
      have g := r.getD (Wi.2.2 p hp)
      show tr (addH hs' (ren Ms (.op o ps))) (Ms.getD p 0) = _
      rw [old g.2.1, g.2.2]
section
variable {P : Program} {w : World} {K : PySem.W.Frag} {mg : Str → Option Value} {base : Heap}
/-! ### _law_made -/
def spMadeL (w : World) (C : Addr) : Sp := fun vs H Q _ => ∃ (g dxg lh dh lk : Addr) (us : List V) (hs : List Hd), vs = [.ref g, .ref lk] ∧ H g = some (.ins C dxg (fsG lh dh)) ∧ TabH hdD w H lh dh [] ∧ H lk = some (.lst us) ∧ lk ≠ lh ∧ Reps H (hs.map keyD) us ∧ WF hs ∧ LetOk hs ∧ hs.length ≤ 30 ∧
  ∀ H' p Ms hs', Fr [lh, dh] H H' → TabH hdD w H' lh dh hs' → H p = none → H' p = some (.lst (Ms.map intN)) → RenOk hs hs' Ms hs.length → Q (.ref p) H'
theorem sc__law_made : FnScope ["graph", "keys", "nodes", "key", "part"] ["graph", "keys"] (defScope s_law_made) := ⟨rfl, rfl, rfl, by decide +kernel, rfl, by decide +kernel, by decide +kernel⟩
theorem ok_law_made {f f1 f2 C : Addr} {fd fd1 fd2 : FuncData} (B : Bl mg) (T : ClG K C) (F : Fun K "_law_made" "_law_made" s_law_made f fd) (Dletter : Mf P w K mg base 2 C "letter" f1 fd1 ["self", "key"] (spLetter w C)) (Dnode : Mf P w K mg base 2 C "node" f2 fd2 ["self", "op", "parts"] (spNode w C)) :
    FnOk P w K mg base CX0 3 f fd ["graph", "keys"] (spMadeL w C) := by
  refine F.ok sc__law_made (fun vs H Q E h => ?_) (fun cdv A outer s H vs Q E hr h => ?_)
  · obtain ⟨g, dxg, lh, dh, lk, us, hs, rfl, _⟩ := h
    rfl
  obtain ⟨g, dxg, lh, dh, lk, us, hs, rfl, hg, hT, hl, nl, rs, W, Lk, hz, k⟩ := h
  have hu := hr.units
  refine ⟨_, (pss_cons (ps_set (i := 2) sc__law_made.nd rfl (Or.inr rfl) (pe_lst pa_nil))
    (pss_cons (ps_for PassesOwn.never rfl (pi_list (pv 1)) (pg_name (i := 3) sc__law_made.nd rfl (Or.inl rfl))
      (pss_one (ps_expr (pe_bm PySem.F.plainAttrs_list PySem.F.slot_list_append PySem.F.type_list_append mt_append (pv 2) (pa_cons (pe_ifExp (pt_cmpR op_eq (pe_ix ix_tup (pv 3) pe_int (fun _ _ => rfl)) pe_str (nomark _)) (pe_meth (pv 0) T.clGraph Dletter.me Dletter.ok (hr.mono (by decide)) Dletter.b .nil pass0 (pa_cons (pe_slice sl_tup (pv 3) (po_some pe_int) po_none) pa_nil)) (pe_meth (pv 0) T.clGraph Dnode.me Dnode.ok (hr.mono (by decide)) Dnode.b .nil pass0 (pa_cons (pe_ix ix_tup (pv 3) pe_int (fun _ _ => rfl)) (pa_cons (pe_callTy call_tuple_of rfl B.tuple b_tuple (pa_cons (pe_lc (own := [("part", 4)]) rfl sc__law_made.nd (pi_tup (pe_ix ix_tup (pv 3) pe_int (fun _ _ => rfl))) (blkOk_by (N := ["graph", "keys", "nodes", "key", "part"]) (sc := defScope s_law_made) (by decide +kernel)) (fun _ _ _ _ _ => (pg_name (i := 4) sc__law_made.nd rfl (Or.inl rfl))) (fun _ _ _ _ _ => pts_nil) (fun _ _ _ _ _ => (pe_ix (ix_listX (K := K)) (pv 2) (pv 4) (fun _ _ => rfl)))) pa_nil)) pa_nil)))) pa_nil)))))
    (pss_one (ps_ret (pv 2))))), ?_⟩
  refine ⟨(by show 0 ≤ sizeLine; decide), fun p hp => ?_⟩
  have fp : Fr [] H (upd H p (.lst [])) := Fr.new hp
  have lu : us.length = hs.length := rs.length.trans (by simp)
  obtain ⟨us0, el0, _⟩ := hT.li
  obtain ⟨o0, ed0⟩ := hT.nu.at
  have gn : g ∉ [lh, dh] := by
    simp only [List.mem_cons, List.not_mem_nil, or_false, not_or]
    exact ⟨ne_of hg el0 (fun z => by cases z), ne_of hg ed0 (fun z => by cases z)⟩
  have ln : lk ∉ [lh, dh] := by
    simp only [List.mem_cons, List.not_mem_nil, or_false, not_or]
    exact ⟨nl, ne_of hl ed0 (fun z => by cases z)⟩
  have pn : p ∉ [lh, dh] := by
    simp only [List.mem_cons, List.not_mem_nil, or_false, not_or]
    exact ⟨(ne_of_none el0 hp).symm, (ne_of_none ed0 hp).symm⟩
  refine ⟨_, rfl, lk, rfl, ⟨_, SqL.of (fp _ _ hl (.inl (fun h => nomatch h)))⟩, ?_⟩
  refine for_it (walk_list (xs := us)) (fun i σ' H' => (∃ z1 z2, σ' = [some (.ref g), some (.ref lk), some (.ref p), z1, z2]) ∧ ∃ Ms hs', Fr [lh, dh] H H' ∧ TabH hdD w H' lh dh hs' ∧ H' p = some (.lst (Ms.map intN)) ∧ RenOk hs hs' Ms i)
    ⟨⟨_, _, rfl⟩, [], [], fp.nil, hT.kp fp (fun h => nomatch h) (fun h => nomatch h), upd_same, RenOk.nil hs⟩ (fun i σ' H' _ e => ?_) (fun i x σ' H1 H' hi e y => ?_) (fun σ' H' e => ?_)
  · obtain ⟨_, _, _, f, _⟩ := e
    exact SqL.of (f _ _ hl (.inl ln))
  · obtain ⟨⟨z1, z2, rfl⟩, Ms, hs', fr, hT', ep, ro⟩ := e
    obtain ⟨rfl, hx⟩ := y
    obtain ⟨kd, hk, rk⟩ := rs.getV hx
    rw [List.getElem?_map] at hk
    obtain ⟨h, hh, rfl⟩ := Option.map_eq_some_iff.mp hk
    have hi' : i < hs.length := (List.getElem?_eq_some_iff.mp hh).1
    have rk := rk.kp fr.tups
    have hz' : hs'.length ≤ 500 := by have := ro.sz; omega
    have fin : ∀ z2', ∀ H2 (M : Nat), Fr [lh, dh] H' H2 → TabH hdD w H2 lh dh (addH hs' (ren Ms h)) → (addH hs' (ren Ms h))[M]? = some (ren Ms h) → ∃ l xs y, V.ref p = .ref l ∧ [V.int (M : Int)] = [y] ∧ H2 l = some (.lst xs) ∧ xs.length < sizeLine ∧ ((∃ a1 a2, [some (.ref g), some (.ref lk), some (.ref p), some x, z2'] = [some (V.ref g), some (.ref lk), some (.ref p), a1, a2]) ∧ ∃ Ms' hs'', Fr [lh, dh] H (upd H2 l (.lst (xs ++ [y]))) ∧ TabH hdD w (upd H2 l (.lst (xs ++ [y]))) lh dh hs'' ∧ upd H2 l (.lst (xs ++ [y])) p = some (.lst (Ms'.map intN)) ∧ RenOk hs hs'' Ms' (i + 1)) := by
      intro z2' H2 M f2 hT2 hM
      have e2 := f2 _ _ ep (.inl pn)
      refine ⟨p, _, _, rfl, rfl, e2, small_line (by rw [List.length_map, ro.len]; omega), ⟨_, _, rfl⟩, Ms ++ [M], _, fun b u e n => ?_, hT2.kp (S := [p]) (Fr.old List.mem_cons_self e2 (fun z => z)) (fun z => pn (by simp at z; simp [z])) (fun z => pn (by simp at z; simp [z])), by rw [upd_same]; simp, ro.step W Lk hh hM⟩
      rw [upd_ne (ne_of_none e hp)]
      exact (fr.trans f2) b u e n
    obtain ⟨a, xs, rfl, ea, rxs⟩ := rk.tup_inv
    refine ⟨_, rfl, .inl ⟨rfl, _, SqL.of ep⟩, ?_⟩
    cases h with
    | letter kk =>
      cases rxs with
      | cons h1 t1 =>
        have e1 := h1.text_inv
        subst e1
        cases t1 with
        | cons h2 t2 =>
          cases t2 with
          | cons h3 t3 =>
            cases t3
            have e2 := h2.text_inv
            subst e2
            have e3 := h3.int_inv
            subst e3
            refine ⟨_, rfl, a, _, 0, _, rfl, rfl, .inl ea, atI_nat (j := 0) rfl, rfl, _, rfl, ?_⟩
            refine ite2 (fun _ => ?_) (fun z => absurd (se _) z)
            refine ⟨_, rfl, g, dxg, _, rfl, fr _ _ hg (.inl gn), rfl, ?_⟩
            refine ⟨_, rfl, 1, rfl, a, _, rfl, .inl ea, (fun z => by cases z.1), fun t ht => ?_⟩
            have f2 : Fr [] H' (upd H' t (.tup (cutV [.str "letter", .str "read", .int kk] (some 1) none))) := Fr.new ht
            refine ⟨g, dxg, lh, dh, _, hs', kk, rfl, f2 _ _ (fr _ _ hg (.inl gn)) (.inl (fun h => nomatch h)), hT'.kp f2 (fun h => nomatch h) (fun h => nomatch h), hz', .tup (.inl upd_same) (.cons (.text _) (.cons (.num _) .nil)), fun H3 M f3 hT3 hM => ?_⟩
            exact fin _ H3 M (f2.nil.trans f3) hT3 hM
    | op o ps =>
      cases rxs with
      | cons h1 t1 =>
        cases t1 with
        | cons h2 t2 =>
          cases t2 with
          | cons h3 t3 =>
            cases t3
            have e1 := h1.text_inv
            subst e1
            have e2 := h2.text_inv
            subst e2
            obtain ⟨b3, ys, rfl, eb3, rb3⟩ := h3.tup_inv
            have e3 := reps_nat rb3
            subst e3
            have Wi := W i o ps hh
            refine ⟨_, rfl, a, _, 0, _, rfl, rfl, .inl ea, atI_nat (j := 0) rfl, rfl, _, rfl, ?_⟩
            refine ite2 (fun z => absurd z (sn (by decide))) (fun _ => ?_)
            refine ⟨_, rfl, g, dxg, _, rfl, fr _ _ hg (.inl gn), rfl, _, rfl, a, _, 1, _, rfl, rfl, .inl ea, atI_nat (j := 1) rfl, _, rfl, a, _, 2, _, rfl, rfl, .inl ea, atI_nat (j := 2) rfl, b3, rfl, ⟨_, .inl eb3⟩, fun D hD => ?_⟩
            have fD : ∀ {ys : List V}, Fr [] H' (upd H' D (.lst ys)) := fun {ys} => Fr.new hD
            have pD : p ≠ D := ne_of_none ep hD
            refine lc_it (walk_tup (xs := ps.map intN)) (fun j H2 => H2 = upd H' D (.lst ((ps.take j).map fun q => intN (Ms.getD q 0)))) rfl (fun j H2 _ e => by rw [e]; exact .inl (fD.tups _ _ eb3)) (fun j y H2 H3 hj e yy => ?_) (fun H2 e => ?_)
            · obtain ⟨rfl, hy⟩ := yy
              rw [List.getElem?_map] at hy
              obtain ⟨q, hq, rfl⟩ := Option.map_eq_some_iff.mp hy
              have hj' : j < ps.length := by simpa using hj
              have eq' : ps[j] = q := by
                have := List.getElem?_eq_getElem hj'
                rw [hq] at this
                exact (Option.some.inj this).symm
              have lq := ro.getD (Wi.2.2 q (List.mem_of_getElem? hq))
              have W2 := Wi.2.1
              refine ⟨rfl, _, rfl, _, rfl, p, _, q, intN (Ms.getD q 0), rfl, rfl, SqL.of (by rw [e, upd_ne pD]; exact ep), atI_nat (by rw [List.getElem?_map, lq.1]; rfl), _, (by rw [e, upd_same]), small_line (by rw [List.length_map, List.length_take]; omega), ?_⟩
              rw [e, upd_upd, List.take_succ_eq_append_getElem hj', List.map_append, eq']
              rfl
            · have el : (ps.take (ps.map intN).length) = ps := by simp
              rw [el] at e
              have eD : H2 D = some (.lst (ps.map fun q => intN (Ms.getD q 0))) := by rw [e, upd_same]
              have f2 : Fr [] H' H2 := by rw [e]; exact fD
              refine ⟨D, _, rfl, .inl ⟨SqL.of eD, fun t ht => ?_⟩⟩
              have f3 : Fr [] H' (upd H2 t (.tup (ps.map fun q => intN (Ms.getD q 0)))) := f2.trans (Fr.new ht)
              refine ⟨g, dxg, lh, dh, t, hs', o, ps.map fun q => Ms.getD q 0, rfl, f3 _ _ (fr _ _ hg (.inl gn)) (.inl (fun h => nomatch h)), hT'.kp f3 (fun h => nomatch h) (fun h => nomatch h), hz', .inl (by rw [upd_same, List.map_map]; rfl), fun n hn => ?_, fun H4 M f4 hT4 hM => ?_⟩
              · obtain ⟨q, hq, e⟩ := List.mem_map.mp hn
                rw [← e]
                exact (ro.getD (Wi.2.2 q hq)).2.1
              · exact fin _ H4 M (f3.nil.trans f4) hT4 hM
  · obtain ⟨⟨z1, z2, rfl⟩, Ms, hs', fr, hT', ep, ro⟩ := e
    rw [lu] at ro
    exact ⟨_, rfl, k H' p Ms hs' fr hT' hp ep ro⟩
end
end R60

set_option Elab.async false
set_option linter.all false
set_option maxRecDepth 100000
set_option maxHeartbeats 1600000
namespace R60
open PySem PySem.Spec PyProof.Rows L2 M60
theorem DL.kpS {P : Program} {w : World} {H H' : Hp} {da sd d : Addr} {L : Lin} {S : List Addr} (h : DL P w H da sd d L) (f : Fr S H H') (hS : ∀ p ∈ S, p = da ∨ p = sd ∨ ∃ u, H p = some u ∧ ∀ o, u ≠ exo p o) : DL P w H' da sd d L := by
  obtain ⟨n, l, h1, h2⟩ := h
  obtain ⟨o, e⟩ := h1.at
  refine ⟨n, l, h1.keep ((f _ _ e (.inl fun z => ?_)).trans e.symm), h2⟩
  rcases hS d z with q | q | ⟨u, q, r⟩
  · exact n.1 q
  · exact n.2 q
  · rw [e] at q
    exact r o (Option.some.inj q).symm
structure RS (c : CC) (P : Program) (w : World) (H : Hp) (a cb lk ln da df : Addr) (d : Ad) (us : List V) (hs hs' : List Hd) (Ms : List Nat) (T : List Atom) (kS kL : List (Key × V)) : Prop where
  bg : BagC H a cb
  kl : H lk = some (.lst us)
  kr : Reps H (hs.map keyD) us
  W : WF hs
  Lk : LetOk hs
  z0 : 0 < hs.length
  z1 : hs.length ≤ 30
  sg : SGs c w H d hs' T kS
  nl : H ln = some (.lst (Ms.map intN))
  ro : RenOk hs hs' Ms hs.length
  lw : LW P w H hs da df d.dn T kL
  tok : TOk (7 * 2 ^ 30) T
  nd : [a, cb, lk, ln, d.p, d.g, d.lh, d.dh, d.la, d.dn, d.dl, da, df].Nodup
section
variable {c : CC} {P : Program} {w : World} {H H' : Hp} {a cb lk ln da df : Addr} {d : Ad} {us : List V} {hs hs' : List Hd} {Ms : List Nat} {T : List Atom} {kS kL : List (Key × V)}
theorem LW.kpS {S : List Addr} {sd : Addr} (g : LW P w H hs da df sd T kL) (f : Fr S H H') (h1 : da ∉ S) (h2 : df ∉ S) (hS : ∀ p ∈ S, p = da ∨ p = sd ∨ ∃ u, H p = some u ∧ ∀ o, u ≠ exo p o) : LW P w H' hs da df sd T kL := by
  obtain ⟨o, e⟩ := g.nu.at
  refine ⟨g.nu.keep ((f _ _ e (.inl h1)).trans e.symm) f.tups, f _ _ g.df (.inl h2), g.nd, fun q hq => ?_, g.tz, g.td⟩
  obtain ⟨n, L, d, e1, lt, h1, h2⟩ := g.en q hq
  exact ⟨n, L, d, e1, lt, h1, h2.kpS f hS⟩
theorem RS.fr (r : RS c P w H a cb lk ln da df d us hs hs' Ms T kS kL) (f : Fr [] H H') : RS c P w H' a cb lk ln da df d us hs hs' Ms T kS kL :=
  ⟨r.bg.fr f, f _ _ r.kl (.inl (fun h => nomatch h)), r.kr.kp f.tups, r.W, r.Lk, r.z0, r.z1, r.sg.kp f, f _ _ r.nl (.inl (fun h => nomatch h)), r.ro, r.lw.kp f, r.tok, r.nd⟩
theorem RS.take (r : RS c P w H a cb lk ln da df d us hs hs' Ms T kS kL) (f : Fr [a] H H') (b : BagC H' a cb) : RS c P w H' a cb lk ln da df d us hs hs' Ms T kS kL := by
  have nd := r.nd
  simp only [List.nodup_cons, List.mem_cons, List.not_mem_nil, or_false, not_or] at nd
  obtain ⟨⟨n1, n2, n3, n4, n5, n6, n7, n8, n9, n10, n11, n12⟩, _⟩ := nd
  obtain ⟨⟨xs, ea⟩, _⟩ := r.bg.here
  refine ⟨b, f _ _ r.kl (.inl (by simp [Ne.symm n2])), r.kr.kp f.tups, r.W, r.Lk, r.z0, r.z1, r.sg.kpS f fun b hb z => ?_, f _ _ r.nl (.inl (by simp [Ne.symm n3])), r.ro, r.lw.kpS f (by simp [Ne.symm n11]) (by simp [Ne.symm n12]) fun p hp => ?_, r.tok, r.nd⟩
  · rw [List.mem_singleton.mp z] at hb
    simp [n4, n5, n6, n7, n8, n9, n10] at hb
  · refine .inr (.inr ⟨_, (by rw [List.mem_singleton.mp hp]; exact ea), fun o z => by cases z⟩)
/-- one more linear, of the law and of the graph -/
theorem RS.lin {H2 H3 : Hp} {x : Nat} {kS' kL' : List (Key × V)} (r : RS c P w H a cb lk ln da df d us hs hs' Ms T kS kL) (hx : x < hs.length) (f2 : Fr [da, df] H H2) (g2 : LW P w H2 hs da df d.dn (grow T (tr hs x)) kL') (f3 : Fr [d.la, d.dn, d.dl] H2 H3) (g3 : SGs c w H3 d hs' (grow T (tr hs x)) kS') : RS c P w H3 a cb lk ln da df d us hs hs' Ms (grow T (tr hs x)) kS' kL' := by
  have nd := r.nd
  simp only [List.nodup_cons, List.mem_cons, List.not_mem_nil, or_false, not_or] at nd
  obtain ⟨⟨a1, a2, a3, a4, a5, a6, a7, a8, a9, a10, a11, a12⟩, ⟨c2, c3, c4, c5, c6, c7, c8, c9, c10, c11, c12⟩, ⟨l3, l4, l5, l6, l7, l8, l9, l10, l11, l12⟩, ⟨m4, m5, m6, m7, m8, m9, m10, m11, m12⟩, _, _, _, _, ⟨la9, la10, la11, la12⟩, ⟨dn10, dn11, dn12⟩, ⟨dl11, dl12⟩, _, _⟩ := nd
  have n1 : ∀ p, p ≠ da → p ≠ df → p ∉ [da, df] := fun p h1 h2 => by simp [h1, h2]
  have n2 : ∀ p, p ≠ d.la → p ≠ d.dn → p ≠ d.dl → p ∉ [d.la, d.dn, d.dl] := fun p h1 h2 h3 => by simp [h1, h2, h3]
  have ff : ∀ p u, H p = some u → p ≠ da → p ≠ df → p ≠ d.la → p ≠ d.dn → p ≠ d.dl → H3 p = some u := fun p u e h1 h2 h3 h4 h5 => f3 _ _ (f2 _ _ e (.inl (n1 p h1 h2))) (.inl (n2 p h3 h4 h5))
  have tk : TupK H H3 := fun b xs h => f3.tups b xs (f2.tups b xs h)
  obtain ⟨b0, b1, b2, cs, h1, h2, rest⟩ := r.bg
  obtain ⟨us9, e9, _⟩ := r.sg.ta.li
  have e9' : H2 d.la = some (.lst us9) := f2 _ _ e9 (.inl (n1 _ la11 la12))
  have e10' : H2 d.dl = some (.dK kS) := f2 _ _ r.sg.dl (.inl (n1 _ dl11 dl12))
  refine ⟨⟨b0, b1, b2, cs, ff _ _ h1 a11 a12 a8 a9 a10, ff _ _ h2 c11 c12 c8 c9 c10, rest⟩, ff _ _ r.kl l11 l12 l8 l9 l10, r.kr.kp tk, r.W, r.Lk, r.z0, r.z1, g3, ff _ _ r.nl m11 m12 m8 m9 m10, r.ro, ?_, ?_, r.nd⟩
  · refine g2.kpS f3 (n2 _ (Ne.symm la11) (Ne.symm dn11) (Ne.symm dl11)) (n2 _ (Ne.symm la12) (Ne.symm dn12) (Ne.symm dl12)) fun p hp => ?_
    simp only [List.mem_cons, List.not_mem_nil, or_false] at hp
    rcases hp with rfl | rfl | rfl
    · exact .inr (.inr ⟨_, e9', fun o z => by cases z⟩)
    · exact .inr (.inl rfl)
    · exact .inr (.inr ⟨_, e10', fun o z => by cases z⟩)
  · exact r.tok.grow r.W r.Lk (smAll r.W r.z1) x x (Nat.le_refl _) hx
theorem RS.sub2 {H2 : Hp} (r : RS c P w H a cb lk ln da df d us hs hs' Ms T kS kL) (f : Fr [da, df] H H2) : SGs c w H2 d hs' T kS ∧ H2 ln = some (.lst (Ms.map intN)) := by
  have nd := r.nd
  simp only [List.nodup_cons, List.mem_cons, List.not_mem_nil, or_false, not_or] at nd
  obtain ⟨⟨a1, a2, a3, a4, a5, a6, a7, a8, a9, a10, a11, a12⟩, ⟨c2, c3, c4, c5, c6, c7, c8, c9, c10, c11, c12⟩, ⟨l3, l4, l5, l6, l7, l8, l9, l10, l11, l12⟩, ⟨m4, m5, m6, m7, m8, m9, m10, m11, m12⟩, ⟨p5, p6, p7, p8, p9, p10, p11, p12⟩, ⟨g6, g7, g8, g9, g10, g11, g12⟩, ⟨h7, h8, h9, h10, h11, h12⟩, ⟨i8, i9, i10, i11, i12⟩, ⟨la9, la10, la11, la12⟩, ⟨dn10, dn11, dn12⟩, ⟨dl11, dl12⟩, _, _⟩ := nd
  refine ⟨r.sg.kpS f fun b hb z => ?_, f _ _ r.nl (.inl (by simp [m11, m12]))⟩
  simp only [List.mem_cons, List.not_mem_nil, or_false] at hb z
  rcases hb with rfl | rfl | rfl | rfl | rfl | rfl | rfl <;> rcases z with z | z <;> simp_all
theorem RS.tz (r : RS c P w H a cb lk ln da df d us hs hs' Ms T kS kL) : T.length ≤ 30 := by
  have := r.lw.len
  have := r.lw.tz
  have := r.z1
  omega
theorem RS.okLin (r : RS c P w H a cb lk ln da df d us hs hs' Ms T kS kL) {x : Nat} {L : Lin} (hx : x < hs.length) (h : den T (tr hs x) = some L) : OkD (linD L) :=
  ((gd_lin (den_ok h) (smAll r.W r.z1 T x L hx h) (by decide) (by have := r.tz; omega)).mono (by decide) (by decide)).ok
theorem RS.okAtom (r : RS c P w H a cb lk ln da df d us hs hs' Ms T kS kL) {x : Atom} (hx : x ∈ T) : OkD (atomD x) :=
  (gd_atom (by decide) (by have := r.tz; omega) (r.tok.2 x hx)).ok
end
theorem okNum {i : Int} (h : i.natAbs < 10 ^ 12) : OkD (.num i) := by
  refine GdD.ok ?_
  rw [NestedKey.data]
  exact (gd_int h 60).mono (Nat.le_refl _) (by decide)
end R60

set_option Elab.async false
set_option linter.all false
set_option maxRecDepth 100000
set_option maxHeartbeats 1600000
namespace R60
open PySem PySem.Spec PyProof.Rows L2 M60
section
variable {X : Cx} {K : PySem.W.Frag}
theorem pg_tupX {es : List Expr} {k : Nat} {t : TGs} {pos : Pos} (hc : X.calm = true) (h : PGs X es t) (hn : (assignEach es X.env).length = 2 := by rfl) (hst : (assignEach es X.env).findIdx? (·.1) = none := by rfl) (hK : X.K = K := by rfl) : PG X (.Tuple es k pos) (gTup K 2 t) := hK ▸ pg_tup hc h hn hst
end
section
variable {P : Program} {w : World} {K : PySem.W.Frag} {mg : Str → Option Value} {base : Heap}
theorem pos_mem {T : List Atom} {a : Atom} (h : a ∈ T) : ∃ i, pos T a = some i := by
  cases q : pos T a with
  | none => exact absurd h (pos_none.mp q)
  | some i => exact ⟨i, rfl⟩
theorem fr_fresh {S R : List Addr} {H0 H1 H2 : Hp} (f : Fr S H0 H1) (g : Fr R H1 H2) (h : ∀ r ∈ R, H0 r = none) : Fr S H0 H2 := fun b u e n => g b u (f b u e n) (.inl fun z => by rw [h b z] at e; cases e)
theorem pos_nd {T : List Atom} (n : T.Nodup) {i : Nat} {a : Atom} (h : T[i]? = some a) : pos T a = some i := by
  obtain ⟨j, hj⟩ : ∃ j, pos T a = some j := by
    cases q : pos T a with
    | none => exact absurd (List.mem_of_getElem? h) (pos_none.mp q)
    | some i => exact ⟨i, rfl⟩
  have e : i = j := (List.getElem?_inj (List.getElem?_eq_some_iff.mp h).1 n).mp (h.trans (pos_at hj).symm)
  rw [e]
  exact hj
theorem mergeL_nd : ∀ (l acc : List (Leaf × V)), ((acc ++ l).map (·.1)).Nodup → mergeL acc l = acc ++ l
  | [], acc, _ => by rw [List.append_nil]; rfl
  | p :: l, acc, h => by
    show mergeL (putK acc p.1 p.2) l = _
    have ha : valV acc p.1 = none := by
      cases q : valV acc p.1 with
      | none => rfl
      | some v =>
        have m := valV_in q
        rw [List.map_append] at h
        exact absurd rfl ((List.nodup_append.mp h).2.2 _ m p.1 (by rw [List.map_cons]; exact List.mem_cons_self))
    rw [putK_new _ ha, mergeL_nd l (acc ++ [(p.1, p.2)]) (by rw [List.append_assoc]; exact h), List.append_assoc]
    rfl
def told0 (n : Nat) : List (Leaf × V) := (List.range n).map fun i : Nat => (Leaf.num (i : Int), V.non)
theorem told0_nd (n : Nat) : ((told0 n).map (·.1)).Nodup := by
  unfold told0
  rw [List.map_map]
  have inj : ∀ a b : Nat, Leaf.num (a : Int) = Leaf.num (b : Int) → a = b := fun a b e => by
    have := Leaf.num.inj e
    omega
  exact List.Pairwise.map _ (fun a b h e => h (inj a b e)) (List.nodup_range (n := n))
theorem told0_val {n i : Nat} (h : i < n) : valV (told0 n) (.num (i : Int)) = some .non := by
  cases q : valV (told0 n) (.num (i : Int)) with
  | none => exact absurd (List.mem_map.mpr ⟨(Leaf.num (i : Int), V.non), List.mem_map.mpr ⟨i, List.mem_range.mpr h, rfl⟩, rfl⟩) (valV_not q)
  | some v =>
    have := valV_mem2 q
    obtain ⟨j, _, e⟩ := List.mem_map.mp this
    exact congrArg some (congrArg Prod.snd e).symm
theorem sum_sumL (V : List Int) : ∀ l : List (Int × Int), (l.map fun p => p.2 * V.getD p.1.toNat 0).sum = sumL V l
  | [] => rfl
  | p :: l => by rw [List.map_cons, List.sum_cons, sum_sumL V l, sumL]
theorem unit_lin {T : List Atom} {L : Lin} {k : Int} (ok : LOk T.length L) (h : IsD [(k, 1)] L) (hk : k ≠ -1) : L = (0, [(k, 1)]) ∧ 0 ≤ k ∧ k < (T.length : Int) := by
  have e : L.2 = [(k, 1)] := by
    refine IsLin.uniq ok.1 (.one k (by decide)) fun x => ?_
    by_cases z : x = -1
    · rw [z, look_neg (by show ¬ k = -1; exact hk), look_nil]
      refine look_not fun m => ?_
      obtain ⟨q, hq, e1⟩ := List.mem_map.mp m
      have := ok.2 q hq
      omega
    · exact (h.2.2.2 x z).symm
  have e1 : L.1 = 0 := by
    have := h.2.2.1
    rw [look_neg (by show ¬ k = -1; exact hk), look_nil] at this
    exact this.symm
  have b := ok.2 (k, 1) (by rw [e]; simp)
  exact ⟨Prod.ext e1 e, b.1, b.2⟩
theorem gName_go {i : Nat} {v : V} {σ : L2.St} {H : Hp} {Q : L2.St → Hp → Prop} (h : Q (σ.set i (some v)) H) : gName i v σ H Q := h
def Live (H : Hp) (xs : List Addr) : Prop := ∀ x ∈ xs, H x ≠ none
theorem Live.cons {H : Hp} {x : Addr} {xs : List Addr} {u : HO} (h : Live H xs) (e : H x = some u) : Live H (x :: xs) := fun y hy => by
  rcases List.mem_cons.mp hy with z | z
  · rw [z, e]; simp
  · exact h y z
theorem Live.nil (H : Hp) : Live H [] := fun _ h => nomatch h
theorem Live.fr {H H' : Hp} {xs S : List Addr} (h : Live H xs) (f : Fr S H H') (hS : ∀ x ∈ S, H' x ≠ none) : Live H' xs := fun x hx => by
  by_cases z : x ∈ S
  · exact hS x z
  · cases q : H x with
    | none => exact absurd q (h x hx)
    | some u => rw [f _ _ q (.inl z)]; simp
theorem Live.fr0 {H H' : Hp} {xs : List Addr} (h : Live H xs) (f : Fr [] H H') : Live H' xs := h.fr f fun _ h => nomatch h
theorem nd_add {H : Hp} {p : Addr} {xs : List Addr} (n : xs.Nodup) (l : Live H xs) (h : H p = none) : (p :: xs).Nodup := List.nodup_cons.mpr ⟨fun z => l p z h, n⟩
theorem nd_add2 {H : Hp} {p q : Addr} {xs : List Addr} (n : (q :: xs).Nodup) (l : Live H xs) (h : H p = none) (ne : p ≠ q) : (p :: q :: xs).Nodup := List.nodup_cons.mpr ⟨fun z => (List.mem_cons.mp z).elim ne fun z => l p z h, n⟩
theorem BagC.ne {H : Hp} {a c : Addr} (b : BagC H a c) : c ≠ a := fun z => by
  obtain ⟨b0, b1, b2, cs, h1, h2, _⟩ := b
  rw [z, h1] at h2
  have := HO.lst.inj (Option.some.inj h2)
  cases cs with
  | nil => cases this
  | cons x0 r0 =>
    have e := (List.cons.inj this).2
    have q := congrArg (fun l : List V => l[2]?) e
    have q2 : ((r0.map V.int)[2]?) = some (.ref c) := q.symm
    rw [List.getElem?_map] at q2
    obtain ⟨z, _, q3⟩ := Option.map_eq_some_iff.mp q2
    cases q3
theorem BagC.live {H : Hp} {a c : Addr} (b : BagC H a c) : Live H [c, a] := by
  obtain ⟨⟨_, e1⟩, ⟨_, e2⟩⟩ := b.here
  exact (((Live.nil H).cons e1).cons e2)
structure DfG (P : Program) (w : World) (K : PySem.W.Frag) (mg : Str → Option Value) (base : Heap) (k : Nat) (x : Str) (f : Addr) (fd : FuncData) (ps : List Str) (sp : Sp) : Prop where
  gx : mg x = some (.ref f)
  kp : PySem.W.keepIn K (.ref f) = true
  b : Binds K fd ps []
  ok : FnG P w K mg base k f fd ps sp
structure ClL (K : PySem.W.Frag) (mg : Str → Option Value) (c : CC) (fG fS : Addr) : Prop extends ClS K c where
  kGraph : Mk K c.G fG
  mGraph : mg "Graph" = some (.ref c.G)
  kSumGraph : Mk K c.S fS
  mSumGraph : mg "SumGraph" = some (.ref c.S)
def spLaw (K : PySem.W.Frag) : Sp := fun vs H Q _ => ∃ (a : Addr) (ns : List Int), vs = [.ref a] ∧ SqL K H a (ns.map V.int) ∧ ∀ H', Q (.bl true) H'
theorem sc_law : FnScope ["script", "bag", "turn", "keys", "graph", "atoms", "found", "nodes", "sums", "order", "at", "due", "again", "name", "own", "reads", "mine", "key", "worths", "told", "one", "constant", "terms", "part", "k", "atom", "factor"] ["script"] (defScope s_law) := ⟨rfl, rfl, rfl, by decide +kernel, rfl, by decide +kernel, by decide +kernel⟩
theorem ok_law {f f1 f2 f3 f4 f5 f6 f7 f8 f9 fA fB fC fD fE fF fG fS : Addr} {c : CC} {fd fd1 fd2 fd3 fd4 fd5 fd6 fd7 fd8 fd9 fdA fdB fdC fdD fdE fdF fdG fdS : FuncData} (B : Bl mg) (T : ClL K mg c fG fS) (F : Fun K "law" "law" s_law f fd)
    (D_law_bag : Df P w K mg base 1 "_law_bag" f1 fd1 ["script"] (spBag K)) (D_law_drawn_terms : Df P w K mg base 3 "_law_drawn_terms" f2 fd2 ["bag", "many"] spDrawn) (D_law_some : Df P w K mg base 2 "_law_some" f3 fd3 ["bag", "things"] spSome)
    (D_law_made : Df P w K mg base 3 "_law_made" f4 fd4 ["graph", "keys"] (spMadeL w c.G)) (D_law_mixed : Df P w K mg base 2 "_law_mixed" f5 fd5 ["bag", "things"] spMixed) (D_law_told_linear : Df P w K mg base 1 "_law_told_linear" f6 fd6 ["one"] (spTold P w))
    (D_law_linear : Df P w K mg base 32 "_law_linear" f7 fd7 ["keys", "at", "atoms", "found"] (spLinear P w 30)) (D_law_take : Df P w K mg base 1 "_law_take" f8 fd8 ["bag", "many"] spTake)
    (D_law_graph : Df P w K mg base 1 "_law_graph" f9 fd9 [] (spGraphL w)) (D_law_node : Df P w K mg base 1 "_law_node" fA fdA ["graph", "key"] (spNodeL w)) (D_law_worths : Df P w K mg base 2 "_law_worths" fB fdB ["graph", "meaning", "reads"] spWorths)
    (gxA : mg "_law_alike" = some (.ref fC)) (kpA : PySem.W.keepIn K (.ref fC) = true) (bA : Binds K fdC ["found", "due"] []) (okA : FnG P w K mg base 1 fC fdC ["found", "due"] spAlike)
    (Dlinear : Mf P w K mg base 4 c.S "linear" fD fdD ["self", "node"] (spSlinear w c)) (Datom : Mf P w K mg base 1 c.S "atom" fE fdE ["self", "number"] (spSatom w c)) (Dmany : Mf P w K mg base 1 c.S "many" fF fdF ["self"] (spSmany w c))
    (GGraph : FnOk P w K mg base CX0 1 fG fdG ["self"] (spGinit w c.G)) (bGraph : Binds K fdG ["self"] []) (GSumGraph : FnOk P w K mg base CX0 1 fS fdS ["self", "graph"] (spSinit w c.S)) (bSumGraph : Binds K fdS ["self", "graph"] []) : FnG P w K mg base 40 f fd ["script"] (spLaw K) := by
  refine okG F sc_law (fun vs H Q E h => ?_) (fun cdv A outer s H vs Q E hgd hr h => ?_)
  · obtain ⟨a, ns, rfl, _⟩ := h
    rfl
  obtain ⟨a, ns, rfl, ha, k⟩ := h
  have hu := hr.units
  have D_law_alike : DfG P w K mg base 1 "_law_alike" fC fdC ["found", "due"] spAlike := ⟨gxA, kpA, bA, okA⟩
  refine ⟨_, (pss_cons (ps_set (i := 1) sc_law.nd rfl (Or.inr rfl) (pe_call D_law_bag.ok (hr.mono (by decide)) rfl D_law_bag.gx D_law_bag.kp D_law_bag.b .nil pass0 (pa_cons (pv 0) pa_nil)))
    (pss_cons (ps_for PassesOwn.never rfl (pi_range1 rfl B.range (pa_cons pe_int pa_nil)) (pg_name (i := 2) sc_law.nd rfl (Or.inl rfl))
      (pss_cons (ps_set (i := 3) sc_law.nd rfl (Or.inl rfl) (pe_call D_law_drawn_terms.ok (hr.mono (by decide)) rfl D_law_drawn_terms.gx D_law_drawn_terms.kp D_law_drawn_terms.b .nil pass0 (pa_cons (pv 1) (pa_cons (pe_call D_law_some.ok (hr.mono (by decide)) rfl D_law_some.gx D_law_some.kp D_law_some.b .nil pass0 (pa_cons (pv 1) (pa_cons (pe_lst (pa_cons pe_int (pa_cons pe_int (pa_cons pe_int (pa_cons pe_int pa_nil))))) pa_nil))) pa_nil))))
    (pss_cons (ps_asg (pe_tup (pa_cons (pe_make0 T.kGraph GGraph (hr.mono (by decide)) rfl T.mGraph bGraph .nil pass0) (pa_cons (pe_newN (w := w)) (pa_cons pe_dnewK pa_nil)))) (pg_tup rfl (pgs_cons (pg_name (i := 4) sc_law.nd rfl (Or.inl rfl)) (pgs_cons (pg_name (i := 5) sc_law.nd rfl (Or.inr rfl)) (pgs_cons (pg_name (i := 6) sc_law.nd rfl (Or.inl rfl)) pgs_nil)))))
    (pss_cons (ps_set (i := 7) sc_law.nd rfl (Or.inl rfl) (pe_call D_law_made.ok (hr.mono (by decide)) rfl D_law_made.gx D_law_made.kp D_law_made.b .nil pass0 (pa_cons (pv 4) (pa_cons (pv 3) pa_nil))))
    (pss_cons (ps_par (i := 8) (j := 9) rfl sc_law.nd rfl rfl (by decide) rfl rfl (pa_cons (pe_make T.kSumGraph GSumGraph (hr.mono (by decide)) rfl T.mSumGraph bSumGraph .nil pass0 (pa_cons (pv 4) pa_nil)) (pa_cons (pe_call D_law_mixed.ok (hr.mono (by decide)) rfl D_law_mixed.gx D_law_mixed.kp D_law_mixed.b .nil pass0 (pa_cons (pv 1) (pa_cons (pe_listRg rfl rfl B.list (prg_1 rfl B.range (pe_callB call_len rfl B.len b_len (pa_cons (pv 3) pa_nil)))) pa_nil))) pa_nil)) rfl)
    (pss_cons (ps_for PassesOwn.never rfl (pi_list (pv 9)) (pg_name (i := 10) sc_law.nd rfl (Or.inl rfl))
      (pss_cons (ps_set (i := 11) sc_law.nd rfl (Or.inl rfl) (pe_call D_law_told_linear.ok (hr.mono (by decide)) rfl D_law_told_linear.gx D_law_told_linear.kp D_law_told_linear.b .nil pass0 (pa_cons (pe_call D_law_linear.ok (hr.mono (by decide)) rfl D_law_linear.gx D_law_linear.kp D_law_linear.b .nil pass0 (pa_cons (pv 3) (pa_cons (pv 10) (pa_cons (pv 5) (pa_cons (pv 6) pa_nil))))) pa_nil)))
    (pss_one (ps_if (pt_not (pt_val (pe_callG D_law_alike.ok hgd (hr.mono (by decide)) rfl D_law_alike.gx D_law_alike.kp D_law_alike.b (pa_cons (pe_meth (pv 8) T.clSumGraph Dlinear.me Dlinear.ok (hr.mono (by decide)) Dlinear.b .nil pass0 (pa_cons (pe_ix ix_list (pv 7) (pv 10) (fun _ _ => rfl)) pa_nil)) (pa_cons (pv 11) pa_nil))) (by intro _; rfl)))
      (pss_one (ps_ret pe_bl))
      pss_nil))))
    (pss_cons (ps_for PassesOwn.never rfl (pi_range1 rfl B.range (pa_cons pe_int pa_nil)) (pg_name (i := 12) sc_law.nd rfl (Or.inl rfl))
      (pss_cons (ps_if (pt_not (pt_val (pe_callG D_law_alike.ok hgd (hr.mono (by decide)) rfl D_law_alike.gx D_law_alike.kp D_law_alike.b (pa_cons (pe_meth0 (pv 8) T.clSumGraph Dmany.me Dmany.ok (hr.mono (by decide)) Dmany.b .nil pass0) (pa_cons (pe_callB (call_lenG (P := P) (w := w)) rfl B.len b_len (pa_cons (pv 5) pa_nil)) pa_nil))) (by intro _; rfl)))
      (pss_one (ps_ret pe_bl))
      pss_nil)
    (pss_cons (ps_for PassesOwn.never rfl (pi_keysX (pv 5)) (pg_name (i := 13) sc_law.nd rfl (Or.inl rfl))
      (pss_cons (ps_set (i := 11) sc_law.nd rfl (Or.inl rfl) (pe_ifExp (pt_cmpR op_eq (pe_ix ix_tup (pv 13) pe_int (fun _ _ => rfl)) pe_str (nomark _)) (pe_tup (pa_cons pe_str (pa_cons (pe_slice sl_tup (pv 13) (po_some pe_int) po_none) pa_nil))) (pv 13)))
    (pss_one (ps_if (pt_not (pt_val (pe_callG D_law_alike.ok hgd (hr.mono (by decide)) rfl D_law_alike.gx D_law_alike.kp D_law_alike.b (pa_cons (pe_meth (pv 8) T.clSumGraph Datom.me Datom.ok (hr.mono (by decide)) Datom.b .nil pass0 (pa_cons (xe_get (P := P) (w := w) (pv 5) (pv 13) (fun _ _ => rfl) hu) pa_nil)) (pa_cons (pv 11) pa_nil))) (by intro _; rfl)))
      (pss_one (ps_ret pe_bl))
      pss_nil))))
    (pss_cons (ps_set (i := 10) sc_law.nd rfl (Or.inl rfl) (pe_call D_law_take.ok (hr.mono (by decide)) rfl D_law_take.gx D_law_take.kp D_law_take.b .nil pass0 (pa_cons (pv 1) (pa_cons (pe_callB call_len rfl B.len b_len (pa_cons (pv 3) pa_nil)) pa_nil))))
    (pss_one (ps_if (pt_not (pt_val (pe_callG D_law_alike.ok hgd (hr.mono (by decide)) rfl D_law_alike.gx D_law_alike.kp D_law_alike.b (pa_cons (pe_meth (pv 8) T.clSumGraph Dlinear.me Dlinear.ok (hr.mono (by decide)) Dlinear.b .nil pass0 (pa_cons (pe_ix ix_list (pv 7) (pv 10) (fun _ _ => rfl)) pa_nil)) (pa_cons (pe_call D_law_told_linear.ok (hr.mono (by decide)) rfl D_law_told_linear.gx D_law_told_linear.kp D_law_told_linear.b .nil pass0 (pa_cons (xe_get (P := P) (w := w) (pv 6) (pv 10) (fun _ _ => rfl) hu) pa_nil)) pa_nil))) (by intro _; rfl)))
      (pss_one (ps_ret pe_bl))
      pss_nil))))))
    (pss_cons (ps_par (i := 14) (j := 15) rfl sc_law.nd rfl rfl (by decide) rfl rfl (pa_cons (pe_call0 D_law_graph.ok (hr.mono (by decide)) rfl D_law_graph.gx D_law_graph.kp D_law_graph.b .nil pass0) (pa_cons (pe_lc (own := [("k", 24)]) rfl sc_law.nd (pi_range1 rfl B.range (pa_cons pe_int pa_nil)) (blkOk_by (N := ["script", "bag", "turn", "keys", "graph", "atoms", "found", "nodes", "sums", "order", "at", "due", "again", "name", "own", "reads", "mine", "key", "worths", "told", "one", "constant", "terms", "part", "k", "atom", "factor"]) (sc := defScope s_law) (by decide +kernel)) (fun _ _ _ _ _ => (pg_name (i := 24) sc_law.nd rfl (Or.inl rfl))) (fun _ _ _ _ _ => pts_nil) (fun _ _ _ _ _ => (pe_op op_sub (pe_call D_law_take.ok (hr.mono (by decide)) rfl D_law_take.gx D_law_take.kp D_law_take.b .nil pass0 (pa_cons (pv 1) (pa_cons pe_int pa_nil))) pe_int))) pa_nil)) rfl)
    (pss_cons (ps_set (i := 16) sc_law.nd rfl (Or.inr rfl) (pe_lst pa_nil))
    (pss_cons (ps_for PassesOwn.never rfl (pi_list (pv 3)) (pg_name (i := 17) sc_law.nd rfl (Or.inl rfl))
      (pss_one (ps_expr (pe_bm PySem.F.plainAttrs_list PySem.F.slot_list_append PySem.F.type_list_append mt_append (pv 16) (pa_cons (pe_call D_law_node.ok (hr.mono (by decide)) rfl D_law_node.gx D_law_node.kp D_law_node.b .nil pass0 (pa_cons (pv 14) (pa_cons (pe_ifExp (pt_cmpR op_eq (pe_ix ix_tup (pv 17) pe_int (fun _ _ => rfl)) pe_str (nomark _)) (pv 17) (pe_tup (pa_cons pe_str (pa_cons (pe_ix ix_tup (pv 17) pe_int (fun _ _ => rfl)) (pa_cons (pe_callTy call_tuple_of rfl B.tuple b_tuple (pa_cons (pe_lc (own := [("part", 23)]) rfl sc_law.nd (pi_tup (pe_ix ix_tup (pv 17) pe_int (fun _ _ => rfl))) (blkOk_by (N := ["script", "bag", "turn", "keys", "graph", "atoms", "found", "nodes", "sums", "order", "at", "due", "again", "name", "own", "reads", "mine", "key", "worths", "told", "one", "constant", "terms", "part", "k", "atom", "factor"]) (sc := defScope s_law) (by decide +kernel)) (fun _ _ _ _ _ => (pg_name (i := 23) sc_law.nd rfl (Or.inl rfl))) (fun _ _ _ _ _ => pts_nil) (fun _ _ _ _ _ => (pe_ix (ix_listX (K := K)) (pv 16) (pv 23) (fun _ _ => rfl)))) pa_nil)) pa_nil))))) pa_nil))) pa_nil)))))
    (pss_cons (ps_set (i := 18) sc_law.nd rfl (Or.inl rfl) (pe_call D_law_worths.ok (hr.mono (by decide)) rfl D_law_worths.gx D_law_worths.kp D_law_worths.b .nil pass0 (pa_cons (pv 14) (pa_cons (pe_tup (pa_cons pe_str (pa_cons (pe_call D_law_take.ok (hr.mono (by decide)) rfl D_law_take.gx D_law_take.kp D_law_take.b .nil pass0 (pa_cons (pv 1) (pa_cons pe_int pa_nil))) pa_nil))) (pa_cons (pv 15) pa_nil)))))
    (pss_cons (ps_set (i := 19) sc_law.nd rfl (Or.inr rfl) (pe_callTy (call_dictL (P := P) (w := w) rfl) rfl B.dict b_dict (pa_cons (pe_lc (own := [("name", 13)]) rfl sc_law.nd (pi_keysX (pv 5)) (blkOk_by (N := ["script", "bag", "turn", "keys", "graph", "atoms", "found", "nodes", "sums", "order", "at", "due", "again", "name", "own", "reads", "mine", "key", "worths", "told", "one", "constant", "terms", "part", "k", "atom", "factor"]) (sc := defScope s_law) (by decide +kernel)) (fun _ _ _ _ _ => (pg_name (i := 13) sc_law.nd rfl (Or.inl rfl))) (fun _ _ _ _ _ => pts_nil) (fun _ _ _ _ _ => (pe_tup (pa_cons (xe_get (P := P) (w := w) (pv 5) (pv 13) (fun _ _ => rfl) hu) (pa_cons pe_non pa_nil))))) pa_nil)))
    (pss_cons (ps_for PassesOwn.never rfl (pi_range1 rfl B.range (pa_cons (pe_callB call_len rfl B.len b_len (pa_cons (pv 3) pa_nil)) pa_nil)) (pg_name (i := 10) sc_law.nd rfl (Or.inl rfl))
      (pss_cons (ps_set (i := 20) sc_law.nd rfl (Or.inl rfl) (xe_get (P := P) (w := w) (pv 6) (pv 10) (fun _ _ => rfl) hu))
    (pss_one (ps_if (PW.pt (pw_and (pt_cmpR op_eq (pe_callB (call_lenG (P := P) (w := w)) rfl B.len b_len (pa_cons (pv 20) pa_nil)) pe_int (nomark _)) (pw_and (pt_cmpR op_eq (pe_ix ix_tup (pe_ix ix_list (pe_listItems1 (P := P) (w := w) rfl (pv 20) rfl B.list b_list) pe_int (fun _ _ => rfl)) pe_int (fun _ _ => rfl)) pe_int (nomark _)) (pw_and1 (pt_cmp (xc_notin (P := P) (w := w) pe_non (pv 20) hu))))))
      (pss_one (xs_put (P := P) (w := w) (pv 19) (pe_ix ix_list (pe_callTy (call_listL (P := P) (w := w) rfl) rfl B.list b_list (pa_cons (pv 20) pa_nil)) pe_int (fun _ _ => rfl)) (pe_ifExp (pt_cmpR op_isN (xe_get (P := P) (w := w) (pv 19) (pe_ix ix_list (pe_callTy (call_listL (P := P) (w := w) rfl) rfl B.list b_list (pa_cons (pv 20) pa_nil)) pe_int (fun _ _ => rfl)) (fun _ _ => rfl) hu) pe_non (nomark _)) (pe_ix ix_list (pv 18) (pe_ix ix_list (pv 16) (pv 10) (fun _ _ => rfl)) (fun _ _ => rfl)) (xe_get (P := P) (w := w) (pv 19) (pe_ix ix_list (pe_callTy (call_listL (P := P) (w := w) rfl) rfl B.list b_list (pa_cons (pv 20) pa_nil)) pe_int (fun _ _ => rfl)) (fun _ _ => rfl) hu)) hu rfl))
      pss_nil))))
    (pss_one (ps_for PassesOwn.never rfl (pi_range1 rfl B.range (pa_cons (pe_callB call_len rfl B.len b_len (pa_cons (pv 3) pa_nil)) pa_nil)) (pg_name (i := 10) sc_law.nd rfl (Or.inl rfl))
      (pss_cons (ps_asg (pe_meth (pv 8) T.clSumGraph Dlinear.me Dlinear.ok (hr.mono (by decide)) Dlinear.b .nil pass0 (pa_cons (pe_ix ix_list (pv 7) (pv 10) (fun _ _ => rfl)) pa_nil)) (pg_tup rfl (pgs_cons (pg_name (i := 21) sc_law.nd rfl (Or.inl rfl)) (pgs_cons (pg_name (i := 22) sc_law.nd rfl (Or.inl rfl)) pgs_nil))))
    (pss_one (ps_if (pt_cmpR op_notIn_seq pe_non (pe_lc (own := [("atom", 25), ("factor", 26)]) rfl sc_law.nd (pi_tup (pv 22)) (blkOk_by (N := ["script", "bag", "turn", "keys", "graph", "atoms", "found", "nodes", "sums", "order", "at", "due", "again", "name", "own", "reads", "mine", "key", "worths", "told", "one", "constant", "terms", "part", "k", "atom", "factor"]) (sc := defScope s_law) (by decide +kernel)) (fun _ _ _ _ _ => (pg_tupX (K := K) rfl (pgs_cons (pg_name (i := 25) sc_law.nd rfl (Or.inl rfl)) (pgs_cons (pg_name (i := 26) sc_law.nd rfl (Or.inl rfl)) pgs_nil)))) (fun _ _ _ _ _ => pts_nil) (fun _ _ _ _ _ => (xe_get (P := P) (w := w) (pv 19) (pv 25) (fun _ _ => rfl) hu))) rfl)
      (pss_one (ps_if (pt_cmpR op_ne (pe_op op_add (pv 21) (pe_callB (cr_sum rfl) rfl B.sum b_sum (pa_cons (pe_lc (own := [("atom", 25), ("factor", 26)]) rfl sc_law.nd (pi_tup (pv 22)) (blkOk_by (N := ["script", "bag", "turn", "keys", "graph", "atoms", "found", "nodes", "sums", "order", "at", "due", "again", "name", "own", "reads", "mine", "key", "worths", "told", "one", "constant", "terms", "part", "k", "atom", "factor"]) (sc := defScope s_law) (by decide +kernel)) (fun _ _ _ _ _ => (pg_tupX (K := K) rfl (pgs_cons (pg_name (i := 25) sc_law.nd rfl (Or.inl rfl)) (pgs_cons (pg_name (i := 26) sc_law.nd rfl (Or.inl rfl)) pgs_nil)))) (fun _ _ _ _ _ => pts_nil) (fun _ _ _ _ _ => (pe_op op_mul (pv 26) (xe_get (P := P) (w := w) (pv 19) (pv 25) (fun _ _ => rfl) hu)))) pa_nil))) (pe_ix ix_list (pv 18) (pe_ix ix_list (pv 16) (pv 10) (fun _ _ => rfl)) (fun _ _ => rfl)) (nomark _))
      (pss_one (ps_ret pe_bl))
      pss_nil))
      pss_nil))))))))))))))))))
    (pss_one (ps_ret pe_bl)))), ?_⟩
  refine ⟨_, rfl, a, ns, rfl, ha, fun H0 ba cb f0 hb0 hc0 bg0 => ?_⟩
  refine ⟨3, rfl, by decide, by decide, ?_⟩
  refine for_it walk_range (fun i σ' H' => (∃ y2 y3 y4 y5 y6 y7 y8 y9 y10 y11 y12 y13 y14 y15 y16 y17 y18 y19 y20 y21 y22 y23 y24 y25 y26, σ' = [some (.ref a), some (.ref ba), y2, y3, y4, y5, y6, y7, y8, y9, y10, y11, y12, y13, y14, y15, y16, y17, y18, y19, y20, y21, y22, y23, y24, y25, y26]) ∧ BagC H' ba cb) ⟨⟨_, _, _, _, _, _, _, _, _, _, _, _, _, _, _, _, _, _, _, _, _, _, _, _, _, rfl⟩, bg0⟩ (fun _ _ _ _ _ => True.intro) (fun i x σ' H1 Ha hi e y => ?_) (fun σ' H' e => k _)
  obtain ⟨⟨y2, y3, y4, y5, y6, y7, y8, y9, y10, y11, y12, y13, y14, y15, y16, y17, y18, y19, y20, y21, y22, y23, y24, y25, y26, rfl⟩, bgA⟩ := e
  obtain ⟨rfl, rfl⟩ := y
  -- keys
  refine ⟨_, rfl, _, rfl, (by show 4 ≤ sizeLine; decide), fun b hb => ?_⟩
  have fb : Fr [] Ha (upd Ha b (.lst [V.int 12, V.int 6, V.int 25, V.int 2])) := Fr.new hb
  have nb : b ≠ ba := fun z => by
    obtain ⟨⟨_, e⟩, _⟩ := bgA.here
    rw [z, e] at hb
    cases hb
  refine ⟨ba, cb, b, _, rfl, bgA.fr fb, upd_same, nb, (by simp), (by show 4 < 1000000; decide), fun Hb i0 v fB bgB hv => ?_⟩
  obtain ⟨m, rfl, hm⟩ : ∃ m : Nat, v = intN m ∧ m ≤ 25 := by
    have := List.mem_of_getElem? hv
    simp only [List.mem_cons, List.not_mem_nil, or_false] at this
    rcases this with rfl | rfl | rfl | rfl
    · exact ⟨12, rfl, by decide⟩
    · exact ⟨6, rfl, by decide⟩
    · exact ⟨25, rfl, by decide⟩
    · exact ⟨2, rfl, by decide⟩
  refine ⟨ba, cb, m, rfl, bgB, hm, fun Hc lk us hs fC bgC hlk elk rk W Lk z0 z1 => ?_⟩
  -- graph, atoms, found
  refine fun g dxg hg0 hdx0 ndx => ?_
  refine ⟨g, dxg, rfl, upd_same, fun Hd lh dh fD hlh hdh eg th => ⟨rfl, ?_⟩⟩
  refine fun da oda hda nda => fun df hdf => ⟨(by show 3 ≤ sizeLine; decide), fun tp htp => ?_⟩
  refine ⟨tp, _, rfl, SqT.of upd_same, rfl, _, _, rfl, _, _, rfl, _, _, rfl, rfl, ?_⟩
  have nd0 : [lk, cb, ba].Nodup := nd_add (List.nodup_cons.mpr ⟨by simp [bgC.ne], by simp⟩) bgB.live hlk
  have lv0 : Live Hc [lk, cb, ba] := bgC.live.cons elk
  have nd1 : [g, lk, cb, ba].Nodup := nd_add nd0 lv0 hg0
  have fg : Fr [] Hc (upd (upd Hc dxg (.own g)) g (.ins c.G dxg [])) := (Fr.new hdx0).trans (Fr.new (by rw [upd_ne ndx.symm]; exact hg0))
  have lv1 : Live (upd (upd Hc dxg (.own g)) g (.ins c.G dxg [])) [g, lk, cb, ba] := (lv0.fr0 fg).cons upd_same
  have nd2 : [dh, lh, g, lk, cb, ba].Nodup := nd_add2 (nd_add nd1 lv1 hlh) lv1 hdh th.ne.symm
  obtain ⟨ush, elh, _⟩ := th.li
  obtain ⟨odh, edh⟩ := th.nu.at
  have lv2 : Live Hd [dh, lh, g, lk, cb, ba] := ((lv1.fr fD (by simp [eg])).cons elh).cons edh
  have nd3 : [da, dh, lh, g, lk, cb, ba].Nodup := nd_add nd2 lv2 hda
  have fda : Fr [] Hd (upd Hd da (exo da oda)) := Fr.new hda
  have lv3 : Live (upd Hd da (exo da oda)) [da, dh, lh, g, lk, cb, ba] := (lv2.fr0 fda).cons upd_same
  have nd4 : [df, da, dh, lh, g, lk, cb, ba].Nodup := nd_add nd3 lv3 hdf
  have fdf : Fr [] (upd Hd da (exo da oda)) (upd (upd Hd da (exo da oda)) df (.dK [])) := Fr.new hdf
  have lv4 : Live (upd (upd Hd da (exo da oda)) df (.dK [])) [df, da, dh, lh, g, lk, cb, ba] := (lv3.fr0 fdf).cons upd_same
  have ftp : Fr [] (upd (upd Hd da (exo da oda)) df (.dK [])) (upd (upd (upd Hd da (exo da oda)) df (.dK [])) tp (.tup [.ref g, .ref da, .ref df])) := Fr.new htp
  have lv5 := lv4.fr0 ftp
  have fde := (fda.trans fdf).trans ftp
  have nda5 : DN w (upd (upd (upd Hd da (exo da oda)) df (.dK [])) tp (.tup [.ref g, .ref da, .ref df])) da [] := nda.keep ((fdf.trans ftp) _ _ upd_same (.inl (fun h => nomatch h)) |>.trans upd_same.symm) (fdf.trans ftp).tups
  have edf5 := ftp _ _ upd_same (.inl (fun h => nomatch h))
  have eg5 := fde _ _ eg (.inl (fun h => nomatch h))
  have th5 := th.kp fde (fun h => nomatch h) (fun h => nomatch h)
  have fcd : Fr [g] Hc Hd := fg.nil.trans fD
  have gl : lk ∉ [g] := by
    have := nd1
    simp only [List.nodup_cons, List.mem_cons, List.not_mem_nil, or_false, not_or] at this ⊢
    exact fun z => this.1.1 z.symm
  have elk5 := fde _ _ (fcd _ _ elk (.inl gl)) (.inl (fun h => nomatch h))
  have rk5 := (rk.kp fcd.tups).kp fde.tups
  have bg5 : BagC _ ba cb := (bgC.kp fcd (by
    have := nd1
    simp only [List.nodup_cons, List.mem_cons, List.not_mem_nil, or_false, not_or] at this ⊢
    exact fun z => this.1.2.2 z.symm) (by
    have := nd1
    simp only [List.nodup_cons, List.mem_cons, List.not_mem_nil, or_false, not_or] at this ⊢
    exact fun z => this.1.2.1 z.symm)).fr fde
  generalize upd (upd (upd Hd da (exo da oda)) df (.dK [])) tp (.tup [.ref g, .ref da, .ref df]) = He at *
  have nlk : lk ≠ lh := by
    have := nd2
    simp only [List.nodup_cons, List.mem_cons, List.not_mem_nil, or_false, not_or] at this
    exact fun z => this.2.1.2.1 z.symm
  -- nodes
  refine ⟨_, rfl, _, rfl, g, dxg, lh, dh, lk, us, hs, rfl, eg5, th5, elk5, nlk, rk5, W, Lk, z1, fun Hf ln Ms hs' fF thF hln eln ro => ?_⟩
  have nd5 : [ln, df, da, dh, lh, g, lk, cb, ba].Nodup := nd_add nd4 lv5 hln
  obtain ⟨ush2, elh2, _⟩ := thF.li
  obtain ⟨odh2, edh2⟩ := thF.nu.at
  have lv6 : Live Hf [ln, df, da, dh, lh, g, lk, cb, ba] := (lv5.fr fF (by simp [elh2, edh2])).cons eln
  -- sums, order
  refine ⟨_, rfl, fun sp sdx hsp hsdx nsd => ?_⟩
  have fs0 : Fr [] Hf (upd (upd Hf sdx (.own sp)) sp (.ins c.S sdx [])) := (Fr.new hsdx).trans (Fr.new (by rw [upd_ne nsd.symm]; exact hsp))
  have lv7 : Live (upd (upd Hf sdx (.own sp)) sp (.ins c.S sdx [])) [sp, ln, df, da, dh, lh, g, lk, cb, ba] := (lv6.fr0 fs0).cons upd_same
  have nd6 : [sp, ln, df, da, dh, lh, g, lk, cb, ba].Nodup := nd_add nd5 lv6 hsp
  refine ⟨sp, sdx, g, rfl, upd_same, fun Hg la dn dl fG hla hdn hdl esp ta edl => ⟨rfl, ?_⟩⟩
  obtain ⟨usa, ela, _⟩ := ta.li
  obtain ⟨odn, edn⟩ := ta.nu.at
  have nd7 : [dl, dn, la, sp, ln, df, da, dh, lh, g, lk, cb, ba].Nodup := by
    refine List.nodup_cons.mpr ⟨fun z => ?_, nd_add2 (nd_add nd6 lv7 hla) lv7 hdn ta.ne.symm⟩
    rcases List.mem_cons.mp z with z | z
    · exact ne_of edl edn (fun z => by cases z) z
    · rcases List.mem_cons.mp z with z | z
      · exact ne_of edl ela (fun z => by cases z) z
      · exact lv7 dl z hdl
  have N := nd7
  simp only [List.nodup_cons, List.mem_cons, List.not_mem_nil, or_false, not_or] at N
  obtain ⟨⟨dl_dn, dl_la, dl_sp, dl_ln, dl_df, dl_da, dl_dh, dl_lh, dl_g, dl_lk, dl_cb, dl_ba⟩, ⟨dn_la, dn_sp, dn_ln, dn_df, dn_da, dn_dh, dn_lh, dn_g, dn_lk, dn_cb, dn_ba⟩, ⟨la_sp, la_ln, la_df, la_da, la_dh, la_lh, la_g, la_lk, la_cb, la_ba⟩, ⟨sp_ln, sp_df, sp_da, sp_dh, sp_lh, sp_g, sp_lk, sp_cb, sp_ba⟩, ⟨ln_df, ln_da, ln_dh, ln_lh, ln_g, ln_lk, ln_cb, ln_ba⟩, ⟨df_da, df_dh, df_lh, df_g, df_lk, df_cb, df_ba⟩, ⟨da_dh, da_lh, da_g, da_lk, da_cb, da_ba⟩, ⟨dh_lh, dh_g, dh_lk, dh_cb, dh_ba⟩, ⟨lh_g, lh_lk, lh_cb, lh_ba⟩, ⟨g_lk, g_cb, g_ba⟩, ⟨lk_cb, lk_ba⟩, cb_ba, _⟩ := N
  have fEG : ∀ b u, He b = some u → b ≠ lh → b ≠ dh → b ≠ sp → Hg b = some u := fun b u e h1 h2 h3 => fG _ _ (fs0 _ _ (fF _ _ e (.inl (by simp [h1, h2]))) (.inl (fun h => nomatch h))) (.inl (by simp [h3]))
  have fFG : ∀ b u, Hf b = some u → b ≠ sp → Hg b = some u := fun b u e h3 => fG _ _ (fs0 _ _ e (.inl (fun h => nomatch h))) (.inl (by simp [h3]))
  have tEG : TupK He Hg := fun b xs h => fG.tups _ _ (fs0.tups _ _ (fF.tups _ _ h))
  have frG : Fr [sp] Hf Hg := fs0.nil.trans fG
  have bgG : BagC Hg ba cb := by
    obtain ⟨b0, b1, b2, cs, h1, h2, rest⟩ := bg5
    exact ⟨b0, b1, b2, cs, fEG _ _ h1 (Ne.symm lh_ba) (Ne.symm dh_ba) (Ne.symm sp_ba), fEG _ _ h2 (Ne.symm lh_cb) (Ne.symm dh_cb) (Ne.symm sp_cb), rest⟩
  have elkG := fEG _ _ elk5 (Ne.symm lh_lk) (Ne.symm dh_lk) (Ne.symm sp_lk)
  have egG := fEG _ _ eg5 (Ne.symm lh_g) (Ne.symm dh_g) (Ne.symm sp_g)
  have elnG := fFG _ _ eln (Ne.symm sp_ln)
  have edfG := fEG _ _ edf5 df_lh df_dh (Ne.symm sp_df)
  obtain ⟨oda2, eda2⟩ := nda5.at
  have ndaG : DN w Hg da [] := nda5.keep ((fEG _ _ eda2 da_lh da_dh (Ne.symm sp_da)).trans eda2.symm) tEG
  have thG : TabH hdD w Hg lh dh hs' := thF.kp frG (by simp [Ne.symm sp_lh]) (by simp [Ne.symm sp_dh])
  let d : Ad := ⟨sp, sdx, g, dxg, lh, dh, la, dn, dl⟩
  have rsG : RS c P w Hg ba cb lk ln da df d us hs hs' Ms [] [] [] := by
    refine ⟨bgG, elkG, rk5.kp tEG, W, Lk, z0, z1, ⟨esp, egG, thG, ta, edl, (fun _ h => nomatch h), List.nodup_nil, Nat.zero_le _, Ne.symm la_lh, Ne.symm dn_dh⟩, elnG, ro, ⟨ndaG, edfG, List.nodup_nil, (fun _ h => nomatch h), Nat.zero_le _, List.nodup_nil⟩, TOk.nil _, ?_⟩
    show [ba, cb, lk, ln, sp, g, lh, dh, la, dn, dl, da, df].Nodup
    simp only [List.nodup_cons, List.mem_cons, List.not_mem_nil, or_false, not_or]
    exact ⟨⟨Ne.symm cb_ba, Ne.symm lk_ba, Ne.symm ln_ba, Ne.symm sp_ba, Ne.symm g_ba, Ne.symm lh_ba, Ne.symm dh_ba, Ne.symm la_ba, Ne.symm dn_ba, Ne.symm dl_ba, Ne.symm da_ba, Ne.symm df_ba⟩, ⟨Ne.symm lk_cb, Ne.symm ln_cb, Ne.symm sp_cb, Ne.symm g_cb, Ne.symm lh_cb, Ne.symm dh_cb, Ne.symm la_cb, Ne.symm dn_cb, Ne.symm dl_cb, Ne.symm da_cb, Ne.symm df_cb⟩, ⟨Ne.symm ln_lk, Ne.symm sp_lk, Ne.symm g_lk, Ne.symm lh_lk, Ne.symm dh_lk, Ne.symm la_lk, Ne.symm dn_lk, Ne.symm dl_lk, Ne.symm da_lk, Ne.symm df_lk⟩,
      ⟨Ne.symm sp_ln, ln_g, ln_lh, ln_dh, Ne.symm la_ln, Ne.symm dn_ln, Ne.symm dl_ln, ln_da, ln_df⟩, ⟨sp_g, sp_lh, sp_dh, Ne.symm la_sp, Ne.symm dn_sp, Ne.symm dl_sp, sp_da, sp_df⟩, ⟨Ne.symm lh_g, Ne.symm dh_g, Ne.symm la_g, Ne.symm dn_g, Ne.symm dl_g, Ne.symm da_g, Ne.symm df_g⟩, ⟨Ne.symm dh_lh, Ne.symm la_lh, Ne.symm dn_lh, Ne.symm dl_lh, Ne.symm da_lh, Ne.symm df_lh⟩, ⟨Ne.symm la_dh, Ne.symm dn_dh, Ne.symm dl_dh, Ne.symm da_dh, Ne.symm df_dh⟩,
      ⟨Ne.symm dn_la, Ne.symm dl_la, la_da, la_df⟩, ⟨Ne.symm dl_dn, dn_da, dn_df⟩, ⟨dl_da, dl_df⟩, Ne.symm df_da, (fun h => h), List.nodup_nil⟩
  clear nd0 nd1 nd2 nd3 nd4 nd5 nd6 nd7 lv0 lv1 lv2 lv3 lv4 lv5 lv6 lv7
  have lus : us.length = hs.length := rsG.kr.length.trans (by simp)
  refine ⟨_, rfl, _, rfl, _, us.length, rfl, .inl ⟨us, SqL.of elkG, rfl⟩, _, rfl, RgOk.of_le (by decide) (by omega) (by decide) (by omega), fun rl hrl => ?_⟩
  have frl : Fr [] Hg (upd Hg rl (.lst (rgV 0 us.length))) := Fr.new hrl
  have nrl : rl ≠ ba := fun z => by
    obtain ⟨⟨_, e⟩, _⟩ := bgG.here
    rw [z, e] at hrl
    cases hrl
  refine ⟨ba, cb, rl, _, rfl, bgG.fr frl, upd_same, nrl, by rw [rgV_length]; omega, fun Hh lo ys fH bgH hlo elo pm => ⟨_, _, rfl, ?_⟩⟩
  have rsH := (rsG.fr frl).take fH bgH
  have ndl : lo ∉ [d.la, d.dn, d.dl, da, df, ba] := by
    have f := frl
    have lv : ∀ x, (∃ u, Hg x = some u) → lo ≠ x := fun x ⟨u, e⟩ z => by
      rw [z, frl _ _ e (.inl (fun h => nomatch h))] at hlo
      cases hlo
    simp only [List.mem_cons, List.not_mem_nil, or_false, not_or]
    obtain ⟨⟨_, eb⟩, _⟩ := bgG.here
    exact ⟨lv _ ⟨_, ela⟩, lv _ ⟨_, edn⟩, lv _ ⟨_, edl⟩, lv _ ⟨_, fEG _ _ eda2 da_lh da_dh (Ne.symm sp_da)⟩, lv _ ⟨_, edfG⟩, lv _ ⟨_, eb⟩⟩
  have ysn : ∀ v ∈ ys, ∃ n : Nat, v = intN n ∧ n < hs.length := fun v hv => by
    have h := pm.mem_iff.mp hv
    obtain ⟨n, hn, e⟩ := List.mem_map.mp h
    have := List.mem_range.mp hn
    refine ⟨n, ?_, by omega⟩
    rw [← e]
    show V.int (0 + (n : Int)) = V.int (n : Int)
    rw [Int.zero_add]
  have nys : ∀ n, n < hs.length → intN n ∈ ys := fun n hn => by
    refine pm.mem_iff.mpr (List.mem_map.mpr ⟨n, List.mem_range.mpr (by omega), ?_⟩)
    show V.int (0 + (n : Int)) = V.int (n : Int)
    rw [Int.zero_add]
  have elo0 : Hh lo = some (.lst ys) := elo
  clear elo frl
  -- for at in order
  dsimp only
  refine tSeq_mid (fun σ' H' => (∃ y2 y9 y10 y11 y12 y13 y14 y15 y16 y17 y18 y19 y20 y21 y22 y23 y24 y25 y26, σ' = [some (.ref a), some (.ref ba), y2, some (.ref lk), some (.ref d.g), some (.ref da), some (.ref df), some (.ref ln), some (.ref d.p), y9, y10, y11, y12, y13, y14, y15, y16, y17, y18, y19, y20, y21, y22, y23, y24, y25, y26]) ∧ ∃ T kS kL, RS c P w H' ba cb lk ln da df d us hs hs' Ms T kS kL ∧ ∀ n, n < hs.length → ∃ v, valV kL (ky n) = some v) (fun σ' H' e => ?_) (fun N hN => ?_)
  · obtain ⟨⟨y2, y9, y10, y11, y12, y13, y14, y15, y16, y17, y18, y19, y20, y21, y22, y23, y24, y25, y26, rfl⟩, T7, kS7, kL7, r7, full7⟩ := e
    refine tSeq_mid (fun σ' H' => (∃ y2 y9 y10 y11 y12 y13 y14 y15 y16 y17 y18 y19 y20 y21 y22 y23 y24 y25 y26, σ' = [some (.ref a), some (.ref ba), y2, some (.ref lk), some (.ref d.g), some (.ref da), some (.ref df), some (.ref ln), some (.ref d.p), y9, y10, y11, y12, y13, y14, y15, y16, y17, y18, y19, y20, y21, y22, y23, y24, y25, y26]) ∧ ∃ T kS kL, RS c P w H' ba cb lk ln da df d us hs hs' Ms T kS kL ∧ ∀ n, n < hs.length → ∃ v, valV kL (ky n) = some v) (fun σ' H' e => ?_) (fun N8 hN8 => ?_)
    · obtain ⟨⟨y2, y9, y10, y11, y12, y13, y14, y15, y16, y17, y18, y19, y20, y21, y22, y23, y24, y25, y26, rfl⟩, T, kS, kL, r8, full⟩ := e
      have z18 := r8.z1
      -- own, reads
      refine ⟨rfl, fun Hi og ol od fI hog hol hod eog tgO => ?_⟩
      refine ⟨5, rfl, by decide, by decide, fun rd hrd => ?_⟩
      have r8I := r8.fr fI
      have hrd8 : H' rd = none := fI.free (fun h => nomatch h) hrd
      obtain ⟨uso, eol, _⟩ := tgO.li
      obtain ⟨odo, eod⟩ := tgO.nu.at
      have baL := r8.bg.here
      have ne_ba : ∀ {x : Addr}, H' x = none → x ≠ ba ∧ x ≠ cb := fun h => ⟨fun z => (by obtain ⟨⟨_, e⟩, _⟩ := baL; rw [z, e] at h; cases h), fun z => (by obtain ⟨_, ⟨_, e⟩⟩ := baL; rw [z, e] at h; cases h)⟩
      have rdol : rd ≠ ol := fun z => by rw [z, eol] at hrd; cases hrd
      have rdod : rd ≠ od := fun z => by rw [z, eod] at hrd; cases hrd
      have frd : ∀ {ys : List V}, Fr [] Hi (upd Hi rd (.lst ys)) := fun {ys} => Fr.new hrd
      refine lc_it walk_range (fun j H2 => Fr [ba] Hi H2 ∧ BagC H2 ba cb ∧ ∃ ns : List Int, ns.length = j ∧ H2 rd = some (.lst (ns.map V.int))) ⟨frd.nil, r8I.bg.fr frd, [], rfl, upd_same⟩ (fun _ _ _ _ => True.intro) (fun j y H2 H3 hj e yy => ?_) (fun H9 e => ?_)
      · obtain ⟨f2, b2, ns, hns, e2⟩ := e
        obtain ⟨rfl, rfl⟩ := yy
        refine ⟨rfl, _, rfl, ba, cb, 200, rfl, b2, by decide, by decide, fun H4 v f4 b4 lt => ⟨_, _, rfl, rfl, _, f4 _ _ e2 (.inl (by simp [(ne_ba hrd8).1])), small_line (by rw [List.length_map]; have : j < 5 := hj; omega), fun b u e n => ?_, b4.own r8I.bg hrd, ns ++ [(v : Int) - 100], by simp [hns], by rw [upd_same]; simp⟩⟩
        rw [upd_ne (ne_of_none e hrd)]
        exact (f2.trans f4) b u e n
      obtain ⟨f9, bg9, rs5, hrs5, erd⟩ := e
      have hrs5 : rs5.length = 5 := hrs5
      refine ⟨_, _, rfl, ?_⟩
      have fb9 : Fr [ba] H' H9 := fI.nil.trans f9
      have eog9 := f9.tups _ _ eog
      have tg9 : TabH keyD w H9 ol od [] := tgO.kp f9 (by simp [(ne_ba hol).1]) (by simp [(ne_ba hod).1])
      clear eol eod f9 r8I
      -- mine
      refine ⟨(by show 0 ≤ sizeLine; decide), fun mn hmn => ?_⟩
      have hmn8 : H' mn = none := freeB fb9 bg9 hmn
      obtain ⟨uso2, eol2, _⟩ := tg9.li
      obtain ⟨odo2, eod2⟩ := tg9.nu.at
      have mnol : mn ≠ ol := fun z => by rw [z, eol2] at hmn; cases hmn
      have mnod : mn ≠ od := fun z => by rw [z, eod2] at hmn; cases hmn
      have mnrd : mn ≠ rd := fun z => by rw [z, erd] at hmn; cases hmn
      have fmn : Fr [] H9 (upd H9 mn (.lst [])) := Fr.new hmn
      have us0 : ∀ {H2}, Fr [ba] H' H2 → H2 lk = some (.lst us) := fun f => by
        have nd := r8.nd
        simp only [List.nodup_cons, List.mem_cons, List.not_mem_nil, or_false, not_or] at nd
        exact f _ _ r8.kl (.inl (by simp [Ne.symm nd.1.2.1]))
      refine ⟨_, rfl, lk, rfl, ⟨_, SqL.of (us0 (fb9.trans fmn.nil))⟩, ?_⟩
      refine for_it (walk_list (xs := us)) (fun i σ' H2 => (∃ y2 y9 y10 y11 y12 y13 y17 y18 y19 y20 y21 y22 y23 y24 y25 y26, σ' = [some (.ref a), some (.ref ba), y2, some (.ref lk), some (.ref d.g), some (.ref da), some (.ref df), some (.ref ln), some (.ref d.p), y9, y10, y11, y12, y13, some (.ref og), some (.ref rd), some (.ref mn), y17, y18, y19, y20, y21, y22, y23, y24, y25, y26]) ∧ ∃ Mn hs2, Fr [ba] H' H2 ∧ BagC H2 ba cb ∧ Rd H2 og (.tup [.ref od, .ref ol]) ∧ TabH keyD w H2 ol od hs2 ∧ H2 rd = some (.lst (rs5.map V.int)) ∧ H2 mn = some (.lst (Mn.map intN)) ∧ RenOk hs hs2 Mn i)
        ⟨⟨_, _, _, _, _, _, _, _, _, _, _, _, _, _, _, _, rfl⟩, [], [], fb9.trans fmn.nil, bg9.fr fmn, fmn.tups _ _ eog9, tg9.kp fmn (fun h => nomatch h) (fun h => nomatch h), fmn _ _ erd (.inl (fun h => nomatch h)), upd_same, RenOk.nil hs⟩ (fun i σ' H2 _ e => ?_) (fun i x σ' H1 H2 hi e y => ?_) (fun σ' H10 e => ?_)
      · obtain ⟨_, _, _, f, _⟩ := e
        exact SqL.of (us0 f)
      · obtain ⟨⟨y2, y9, y10, y11, y12, y13, y17, y18, y19, y20, y21, y22, y23, y24, y25, y26, rfl⟩, Mn, hs2, f2, b2, eog2, tg2, erd2, emn2, ro2⟩ := e
        obtain ⟨rfl, hx⟩ := y
        have rk8 := r8.kr.kp f2.tups
        obtain ⟨kd, hk, rk2⟩ := rk8.getV hx
        rw [List.getElem?_map] at hk
        obtain ⟨h, hh, rfl⟩ := Option.map_eq_some_iff.mp hk
        have hz' : hs2.length ≤ 500 := by have := ro2.sz; omega
        have hi3 : i < hs.length := (List.getElem?_eq_some_iff.mp hh).1
        have fin : ∀ (σ' : List (Option V)), (∃ y2 y9 y10 y11 y12 y13 y17 y18 y19 y20 y21 y22 y23 y24 y25 y26, σ' = [some (.ref a), some (.ref ba), y2, some (.ref lk), some (.ref d.g), some (.ref da), some (.ref df), some (.ref ln), some (.ref d.p), y9, y10, y11, y12, y13, some (.ref og), some (.ref rd), some (.ref mn), y17, y18, y19, y20, y21, y22, y23, y24, y25, y26]) → ∀ H3 (M : Nat), Fr [ol, od] H2 H3 → TabH keyD w H3 ol od (addH hs2 (ren Mn h)) → (addH hs2 (ren Mn h))[M]? = some (ren Mn h) → ∃ l xs y, V.ref mn = .ref l ∧ [V.int (M : Int)] = [y] ∧ H3 l = some (.lst xs) ∧ xs.length < sizeLine ∧ ((∃ y2 y9 y10 y11 y12 y13 y17 y18 y19 y20 y21 y22 y23 y24 y25 y26, σ' = [some (.ref a), some (.ref ba), y2, some (.ref lk), some (.ref d.g), some (.ref da), some (.ref df), some (.ref ln), some (.ref d.p), y9, y10, y11, y12, y13, some (.ref og), some (.ref rd), some (.ref mn), y17, y18, y19, y20, y21, y22, y23, y24, y25, y26]) ∧ ∃ Mn' hs2', Fr [ba] H' (upd H3 l (.lst (xs ++ [y]))) ∧ BagC (upd H3 l (.lst (xs ++ [y]))) ba cb ∧ Rd (upd H3 l (.lst (xs ++ [y]))) og (.tup [.ref od, .ref ol]) ∧ TabH keyD w (upd H3 l (.lst (xs ++ [y]))) ol od hs2' ∧ upd H3 l (.lst (xs ++ [y])) rd = some (.lst (rs5.map V.int)) ∧ upd H3 l (.lst (xs ++ [y])) mn = some (.lst (Mn'.map intN)) ∧ RenOk hs hs2' Mn' (i + 1)) := by
          intro σz hσ H3 M f3 tg3 hM
          have e3 := f3 _ _ emn2 (.inl (by simp [mnol, mnod]))
          have fR : Fr [mn] H3 (upd H3 mn (.lst (Mn.map intN ++ [V.int (M : Int)]))) := Fr.old List.mem_cons_self e3 (fun z => z)
          refine ⟨mn, _, _, rfl, rfl, e3, small_line (by rw [List.length_map, ro2.len]; omega), hσ, Mn ++ [M], _, ?_, ?_, fR.tups _ _ (f3.tups _ _ eog2), tg3.kp fR (by simp [Ne.symm mnol]) (by simp [Ne.symm mnod]), ?_, by rw [upd_same]; simp, ro2.step r8.W r8.Lk hh hM⟩
          · exact fr_fresh (fr_fresh f2 f3 (by simp [hol, hod])) fR (by simp [hmn8])
          · refine (b2.kp f3 (by simp [Ne.symm (ne_ba hol).1, Ne.symm (ne_ba hod).1]) (by simp [Ne.symm (ne_ba hol).2, Ne.symm (ne_ba hod).2])).kp fR (by simp [Ne.symm (ne_ba hmn8).1]) (by simp [Ne.symm (ne_ba hmn8).2])
          · exact fR _ _ (f3 _ _ erd2 (.inl (by simp [rdol, rdod]))) (.inl (by simp [Ne.symm mnrd]))
        obtain ⟨ta1, xs1, rfl, e1, rs1⟩ := id rk2.tup_inv
        refine ⟨_, rfl, .inl ⟨rfl, _, SqL.of emn2⟩, ?_⟩
        refine ⟨_, rfl, ?_⟩
        cases h with
        | letter kk =>
          cases rs1 with
          | cons h1 t1 =>
            have e2 := h1.text_inv
            subst e2
            refine ⟨_, rfl, ta1, _, 0, _, rfl, rfl, .inl e1, atI_nat (j := 0) rfl, rfl, _, rfl, ?_⟩
            refine ite2 (fun _ => ?_) (fun z => absurd (se _) z)
            refine ⟨_, rfl, og, ol, od, _, hs2, .letter kk, rfl, eog2, tg2, hz', rk2, fun H3 M f3 tg3 hM => fin _ ⟨_, _, _, _, _, _, _, _, _, _, _, _, _, _, _, _, rfl⟩ H3 M f3 tg3 hM⟩
        | op o ps =>
          cases rs1 with
          | cons h1 t1 =>
            cases t1 with
            | cons h2 t2 =>
              cases t2 with
              | cons h3 t3 =>
                cases t3
                have e2 := h1.text_inv
                subst e2
                have e3 := h2.text_inv
                subst e3
                obtain ⟨b3, ys3, rfl, eb3, rb3⟩ := h3.tup_inv
                have e4 := reps_nat rb3
                subst e4
                have Wi := r8.W i o ps hh
                refine ⟨_, rfl, ta1, _, 0, _, rfl, rfl, .inl e1, atI_nat (j := 0) rfl, rfl, _, rfl, ?_⟩
                refine ite2 (fun z => absurd z (sn (by decide))) (fun _ => ?_)
                refine ⟨_, rfl, ta1, _, 1, _, rfl, rfl, .inl e1, atI_nat (j := 1) rfl, _, rfl, ta1, _, 2, _, rfl, rfl, .inl e1, atI_nat (j := 2) rfl, b3, rfl, ⟨_, .inl eb3⟩, fun D hD => ?_⟩
                have fD : ∀ {ys : List V}, Fr [] H2 (upd H2 D (.lst ys)) := fun {ys} => Fr.new hD
                have pD : mn ≠ D := ne_of_none emn2 hD
                refine lc_it (walk_tup (xs := ps.map intN)) (fun j H3 => H3 = upd H2 D (.lst ((ps.take j).map fun q => intN (Mn.getD q 0)))) rfl (fun j H3 _ e => by rw [e]; exact .inl (fD.tups _ _ eb3)) (fun j y H3 H4 hj e yy => ?_) (fun H3 e => ?_)
                · obtain ⟨rfl, hy⟩ := yy
                  rw [List.getElem?_map] at hy
                  obtain ⟨q, hq, rfl⟩ := Option.map_eq_some_iff.mp hy
                  have hj' : j < ps.length := by simpa using hj
                  have eq' : ps[j] = q := by
                    have := List.getElem?_eq_getElem hj'
                    rw [hq] at this
                    exact (Option.some.inj this).symm
                  have lq := ro2.getD (Wi.2.2 q (List.mem_of_getElem? hq))
                  have W2 := Wi.2.1
                  refine ⟨rfl, _, rfl, _, rfl, mn, _, q, intN (Mn.getD q 0), rfl, rfl, SqL.of (by rw [e, upd_ne pD]; exact emn2), atI_nat (by rw [List.getElem?_map, lq.1]; rfl), _, (by rw [e, upd_same]), small_line (by rw [List.length_map, List.length_take]; omega), ?_⟩
                  rw [e, upd_upd, List.take_succ_eq_append_getElem hj', List.map_append, eq']
                  rfl
                · have el : (ps.take (ps.map intN).length) = ps := by simp
                  rw [el] at e
                  have eD : H3 D = some (.lst (ps.map fun q => intN (Mn.getD q 0))) := by rw [e, upd_same]
                  have f3 : Fr [] H2 H3 := by rw [e]; exact fD
                  refine ⟨D, _, rfl, .inl ⟨SqL.of eD, fun t ht => ⟨(by show 3 ≤ sizeLine; decide), fun t2 ht2 => ?_⟩⟩⟩
                  have n21 : t2 ≠ t := fun e => by rw [e, upd_same] at ht2; cases ht2
                  have f4 : Fr [] H2 (upd (upd H3 t (.tup (ps.map fun q => intN (Mn.getD q 0)))) t2 (.tup [.str "op", .str o, .ref t])) := (f3.trans (Fr.new ht)).trans (Fr.new ht2)
                  refine ⟨og, ol, od, _, hs2, .op o (ps.map fun q => Mn.getD q 0), rfl, f4.tups _ _ eog2, tg2.kp f4 (fun h => nomatch h) (fun h => nomatch h), hz', .tup (.inl upd_same) (.cons (.text _) (.cons (.text _) (.cons (.tup (.inl ((upd_ne n21.symm).trans upd_same)) ?_) .nil))), fun H5 M f5 tg5 hM => fin _ ⟨_, _, _, _, _, _, _, _, _, _, _, _, _, _, _, _, rfl⟩ H5 M (f4.nil.trans f5) tg5 hM⟩
                  have := nat_reps (upd (upd H3 t (.tup (ps.map fun q => intN (Mn.getD q 0)))) t2 (.tup [.str "op", .str o, .ref t])) (ps.map fun q => Mn.getD q 0)
                  have e5 : (ps.map fun q => intN (Mn.getD q 0)) = (ps.map fun q => Mn.getD q 0).map intN := by rw [List.map_map]; rfl
                  rw [← e5] at this
                  exact this
      obtain ⟨⟨y2, y9, y10, y11, y12, y13, y17, y18, y19, y20, y21, y22, y23, y24, y25, y26, rfl⟩, Mn, hs2, f10, b10, eog10, tg10, erd10, emn10, ro2⟩ := e
      rw [lus] at ro2
      -- worths
      refine ⟨_, rfl, _, rfl, ba, cb, 50, rfl, b10, by decide, by decide, fun H11 mv f11 b11 lmv => ⟨(by show 2 ≤ sizeLine; decide), fun tm htm => ?_⟩⟩
      have ftm : Fr [] H11 (upd H11 tm (.tup [.str "numbers", intN mv])) := Fr.new htm
      have f12 : Fr [ba] H10 (upd H11 tm (.tup [.str "numbers", intN mv])) := f11.trans ftm.nil
      have etm : upd H11 tm (.tup [.str "numbers", intN mv]) tm = some (.tup [.str "numbers", intN mv]) := upd_same
      have b12 := b11.fr ftm
      generalize upd H11 tm (.tup [.str "numbers", intN mv]) = H12 at *
      have tg12 := tg10.kp f12 (by simp [(ne_ba hol).1]) (by simp [(ne_ba hod).1])
      obtain ⟨uso3, eol3, rol3⟩ := tg12.li
      have z2s := ro2.sz
      refine ⟨_, rfl, og, ol, tm, rd, od, uso3, (mv : Int), rs5, hs2, rfl, f12.tups _ _ eog10, eol3, rol3, ro2.wf, ro2.lt, by omega, .inl etm, f12 _ _ erd10 (.inl (by simp [(ne_ba hrd8).1])), hrs5, fun H13 wo f13 hwo ewo => ?_⟩
      have fb12 : Fr [ba] H' H12 := f10.trans f12
      have hwo8 : H' wo = none := freeB fb12 b12 hwo
      have fb13 : Fr [ba] H' H13 := fb12.trans f13.nil
      have b13 := b12.fr f13
      have emn13 : H13 mn = some (.lst (Mn.map intN)) := f13 _ _ (f12 _ _ emn10 (.inl (by simp [(ne_ba hmn8).1]))) (.inl (fun h => nomatch h))
      -- told
      have r13 := r8.take fb13 b13
      have tzz := r8.tz
      obtain ⟨oK, uK, eK, sK, kK, rK, lK⟩ := r13.lw.nu.keysO
      rw [enumF_keys] at rK
      refine ⟨_, rfl, da, oK, uK, rfl, eK, sK, kK, fun D hD => ?_⟩
      have luK : uK.length = T.length := by rw [lK, enumF_len]
      refine lc_it walk_X (fun j H2 => Fr [] H13 H2 ∧ ∃ ts, H2 D = some (.lst (ts.map V.ref)) ∧ ts.length = j ∧ PrT H2 ts ((told0 j).map fun p => (leafV p.1, p.2))) ⟨Fr.new hD, [], upd_same, rfl, .nil⟩ (fun j H2 _ e => e.1 _ _ eK (.inl (fun h => nomatch h))) (fun j y H2 H3 hj e yy => ?_) (fun H14 e => ?_)
      · obtain ⟨f2, ts, eD, lts, pr⟩ := e
        obtain ⟨rfl, hy⟩ := yy
        obtain ⟨kd, hk, rk2⟩ := rK.getV hy
        rw [List.getElem?_map] at hk
        obtain ⟨at1, hat1, rfl⟩ := Option.map_eq_some_iff.mp hk
        have hpi := pos_nd r8.lw.td hat1
        have ev : valV (enumN T) (.tup (nameK at1)) = some (V.int (j : Int)) := by
          have := enumN_val T at1
          rw [hpi] at this
          exact this
        have r3 := r13.fr f2
        refine ⟨rfl, _, rfl, _, rfl, da, _, rfl, ev ▸ GG.n r3.lw.nu (rk2.kp f2.tups) (nameD_depth at1), (by show 2 ≤ sizeLine; decide), fun t ht => ?_⟩
        have f3 : Fr [] H3 (upd H3 t (.tup [V.int (j : Int), .non])) := Fr.new ht
        have eD3 := f3 _ _ eD (.inl (fun h => nomatch h))
        have f4 : Fr [D] (upd H3 t (.tup [V.int (j : Int), .non])) (upd (upd H3 t (.tup [V.int (j : Int), .non])) D (.lst (ts.map V.ref ++ [.ref t]))) := Fr.old List.mem_cons_self eD3 (fun z => z)
        refine ⟨_, eD3, small_line (by rw [List.length_map]; omega), fun b u e n => ?_, ts ++ [t], by rw [upd_same, List.map_append]; rfl, by simp [lts], ?_⟩
        · rw [upd_ne (ne_of_none e hD)]
          exact f3 _ _ (f2 b u e n) (.inl (fun h => nomatch h))
        · have et : (told0 (j + 1)).map (fun p => (leafV p.1, p.2)) = (told0 j).map (fun p => (leafV p.1, p.2)) ++ [(V.int (j : Int), V.non)] := by
            unfold told0
            rw [List.range_succ, List.map_append, List.map_append]
            rfl
          rw [et]
          exact Paired.snoc ((pr.kp f3.tups).kp f4.tups) (f4.tups _ _ (.inl upd_same))
      obtain ⟨f14, ts, eD, lts, pr⟩ := e
      rw [luK] at pr
      refine ⟨D, ts, _, rfl, eD, pr, fun tl otl htl ltl => ?_⟩
      have em : mergeL [] (told0 T.length) = told0 T.length := mergeL_nd _ [] (told0_nd T.length)
      rw [em] at ltl
      have fb14 : Fr [ba] H' H14 := fb13.trans f14.nil
      have b14 := b13.fr f14
      have htl8 : H' tl = none := freeB fb14 b14 htl
      have ftl : Fr [] H14 (upd H14 tl (exo tl otl)) := Fr.new htl
      have emn14 := f14 _ _ emn13 (.inl (fun h => nomatch h))
      have ewo14 := f14 _ _ ewo (.inl (fun h => nomatch h))
      have tlmn : mn ≠ tl := ne_of_none emn14 htl
      have tlwo : wo ≠ tl := ne_of_none ewo14 htl
      have lT : ∀ {n}, n < hs.length → ∃ M, Mn[n]? = some M ∧ M < hs2.length ∧ tr hs2 M = tr hs n := fun h => ro2.pt _ h
      -- the worth of what stands at n
      have worth : ∀ {H2 : Hp} {n : Nat}, n < hs.length → ∃ M, Mn[n]? = some M ∧ ((wsOf (mv : Int) rs5 hs2).map V.int)[M]? = some (V.int (evT (apI (mv : Int)) (rdI rs5) (tr hs n))) := fun {H2 n} h => by
        obtain ⟨M, h1, h2, h3⟩ := lT h
        refine ⟨M, h1, ?_⟩
        unfold wsOf
        rw [List.getElem?_map, List.getElem?_map, List.getElem?_range h2, ← h3]
        rfl
      have evd : ∀ {t : M60.Tree} {L : Lin}, den T t = some L → evT (apI (mv : Int)) (rdI rs5) t = evL (vals (apI (mv : Int)) (rdI rs5) T) L := fun h => den_ev (apOk _) r8.tok.1 h
      generalize hV : vals (apI (mv : Int)) (rdI rs5) T = VV at *
      have hd8 : ∀ x, H' x = none → x ∉ [d.la, d.dn, d.dl] := fun x h z => by
        obtain ⟨u, hu⟩ := r8.sg.here x (by
          simp only [List.mem_cons, List.not_mem_nil, or_false] at z ⊢
          rcases z with z | z | z <;> simp [z])
        rw [h] at hu
        cases hu
      refine gName_go ?_
      dsimp only
      refine tSeq_mid (fun σ' H2 => (∃ y2 y9 y10 y11 y12 y13 y17 y20 y21 y22 y23 y24 y25 y26, σ' = [some (.ref a), some (.ref ba), y2, some (.ref lk), some (.ref d.g), some (.ref da), some (.ref df), some (.ref ln), some (.ref d.p), y9, y10, y11, y12, y13, some (.ref og), some (.ref rd), some (.ref mn), y17, some (.ref wo), some (.ref tl), y20, y21, y22, y23, y24, y25, y26]) ∧ ∃ kvs, Fr [ba] H' H2 ∧ BagC H2 ba cb ∧ H2 mn = some (.lst (Mn.map intN)) ∧ H2 wo = some (.lst ((wsOf (mv : Int) rs5 hs2).map V.int)) ∧ LD P w H2 tl kvs ∧ ∀ i : Nat, i < T.length → ∃ x, valV kvs (.num (i : Int)) = some x ∧ (x = .non ∨ x = .int (VV.getD i 0))) (fun σ' H2 e => ?_) (fun N13 hN13 => ?_)
      ·
        obtain ⟨⟨y2, y9, y10, y11, y12, y13, y17, y20, y21, y22, y23, y24, y25, y26, rfl⟩, kvs, fK, bK, emnK, ewoK, ltlK, tld⟩ := e
        have rK2 := r8.take fK bK
        refine ⟨_, rfl, _, us.length, rfl, .inl ⟨us, SqL.of rK2.kl, rfl⟩, _, rfl, by omega, by omega, ?_⟩
        refine for_it walk_range (fun i σ' H3 => (∃ y2 y9 y10 y11 y12 y13 y17 y20 y21 y22 y23 y24 y25 y26, σ' = [some (.ref a), some (.ref ba), y2, some (.ref lk), some (.ref d.g), some (.ref da), some (.ref df), some (.ref ln), some (.ref d.p), y9, y10, y11, y12, y13, some (.ref og), some (.ref rd), some (.ref mn), y17, some (.ref wo), some (.ref tl), y20, y21, y22, y23, y24, y25, y26]) ∧ ∃ kS, RS c P w H3 ba cb lk ln da df d us hs hs' Ms T kS kL ∧ H3 mn = some (.lst (Mn.map intN)) ∧ H3 wo = some (.lst ((wsOf (mv : Int) rs5 hs2).map V.int)) ∧ LD P w H3 tl kvs)
          ⟨⟨_, _, _, _, _, _, _, _, _, _, _, _, _, _, rfl⟩, kS, rK2, emnK, ewoK, ltlK⟩ (fun _ _ _ _ _ => True.intro) (fun i x σ' H1 H3 hi e y => ?_) (fun σ' H3 e => ?_)
        · obtain ⟨⟨y2, y9, y10, y11, y12, y13, y17, y20, y21, y22, y23, y24, y25, y26, rfl⟩, kS3, r3, emn3, ewo3, ltl3⟩ := e
          obtain ⟨rfl, hx⟩ := y
          have hx : x = intN i := by rw [hx]; show V.int (0 + (i : Int)) = V.int (i : Int); rw [Int.zero_add]
          subst hx
          have hn : i < hs.length := by
            have : (us.length : Int).toNat = us.length := by simp
            omega
          obtain ⟨M, hM, lM, eM⟩ := r8.ro.pt i hn
          obtain ⟨v0, hv0⟩ := full i hn
          obtain ⟨L, dd, rfl, hden, _⟩ := r3.lw.at hv0
          have eg := grow_id hden
          refine ⟨_, rfl, d.p, d.dx, _, rfl, r3.sg.ip, rfl, _, rfl, _, rfl, ln, _, i, intN M, rfl, rfl, SqL.of r3.nl, atI_nat (by rw [List.getElem?_map, hM]; rfl), d, hs', T, kS3, M, rfl, r3.sg, r3.ro.wf, by have := r3.ro.sz; omega, lM, fun H4 v' T' kS' L' f4 g4 eT hd' hL' => ?_⟩
          rw [eM] at eT hd'
          subst eT
          have r4 := r3.lin hn (Fr.refl _ _) (by rw [eg]; exact r3.lw) f4 g4
          rw [eg] at hd' r4
          have eL : L' = L := by
            rw [hden] at hd'
            exact (Option.some.inj hd').symm
          subst eL
          have ok := den_ok hden
          have emn4 := f4 _ _ emn3 (.inl (hd8 _ hmn8))
          have ewo4 := f4 _ _ ewo3 (.inl (hd8 _ hwo8))
          obtain ⟨ot3, et3⟩ := ltl3.at
          have et4 := f4 _ _ et3 (.inl (hd8 _ htl8))
          have ltl4 : LD P w H4 tl kvs := ltl3.keep (et4.trans et3.symm)
          have sk : ∀ H5, Fr [] H4 H5 → ∃ kS, RS c P w H5 ba cb lk ln da df d us hs hs' Ms T kS kL ∧ H5 mn = some (.lst (Mn.map intN)) ∧ H5 wo = some (.lst ((wsOf (mv : Int) rs5 hs2).map V.int)) ∧ LD P w H5 tl kvs := fun H5 f => ⟨_, r4.fr f, f _ _ emn4 (.inl (fun h => nomatch h)), f _ _ ewo4 (.inl (fun h => nomatch h)), ltl4.keep ((f _ _ et4 (.inl (fun h => nomatch h))).trans et4.symm)⟩
          obtain ⟨a4, t4, rs4, rfl, h1, h2, h3⟩ := hL'
          refine ⟨a4, _, rfl, .inl h1, rfl, _, _, rfl, _, _, rfl, rfl, ?_⟩
          have lr4 : rs4.length = L'.2.length := by
            have := Paired.length h3
            rw [List.length_map] at this
            exact this
          have l30 : L'.2.length ≤ 30 := by have := LOk_len ok; omega
          have tval : ∀ p ∈ L'.2, ∃ x, valV kvs (lf p.1) = some x ∧ (x = .non ∨ x = .int (VV.getD p.1.toNat 0)) := fun p hp => by
            have b := ok.2 p hp
            obtain ⟨n, hn2⟩ := Int.eq_ofNat_of_zero_le b.1
            obtain ⟨x, ex, hx⟩ := tld n (by omega)
            exact ⟨x, by rw [hn2, lf_nat]; exact ex, by rw [hn2, Int.toNat_natCast]; exact hx⟩
          -- the pairs one by one
          have item : ∀ {j : Nat} {y : V}, (rs4.map V.ref)[j]? = some y → ∃ (tj : Addr) (p : Int × Int), y = .ref tj ∧ L'.2[j]? = some p ∧ p ∈ L'.2 ∧ Rd H4 tj (.tup [.int p.1, .int p.2]) := fun {j y} hy => by
            rw [List.getElem?_map] at hy
            obtain ⟨tj, htj, rfl⟩ := Option.map_eq_some_iff.mp hy
            obtain ⟨q, hq, hr⟩ := paired_at h3 htj
            rw [List.getElem?_map] at hq
            obtain ⟨p, hp, rfl⟩ := Option.map_eq_some_iff.mp hq
            exact ⟨tj, p, rfl, hp, List.mem_of_getElem? hp, hr⟩
          have kle : ∀ p ∈ L'.2, leafV (lf p.1) = .int p.1 := fun p hp => by
            have b := ok.2 p hp
            unfold lf
            rw [if_neg (by omega)]
            rfl
          refine ⟨_, rfl, t4, rfl, ⟨_, .inl h2.rd⟩, fun D hD => ?_⟩
          have fD : ∀ {ys : List V}, Fr [] H4 (upd H4 D (.lst ys)) := fun {ys} => Fr.new hD
          refine lc_it (walk_tup (xs := rs4.map V.ref)) (fun j H5 => H5 = upd H4 D (.lst ((L'.2.take j).map fun p => (valV kvs (lf p.1)).getD .non))) rfl (fun j H5 _ e => by rw [e]; exact .inl (fD.tups _ _ h2.rd)) (fun j y H5 H6 hj e yy => ?_) (fun H5 e => ?_)
          · obtain ⟨rfl, hy⟩ := yy
            obtain ⟨tj, p, rfl, hp, hpm, hr⟩ := item hy
            obtain ⟨x, ex, _⟩ := tval p hpm
            have hj' : j < L'.2.length := (List.getElem?_eq_some_iff.mp hp).1
            have f5 : Fr [] H4 H6 := by rw [e]; exact fD
            obtain ⟨_, _, _, _, lt5⟩ := sk _ f5
            have g5 := GG.l (k := lf p.1) lt5 rfl
            rw [ex, kle p hpm] at g5
            refine ⟨tj, _, rfl, .inl (f5.tups _ _ hr), rfl, _, _, rfl, _, _, rfl, rfl, rfl, _, rfl, _, rfl, tl, x, rfl, g5, _, (by rw [e, upd_same]), small_line (by rw [List.length_map, List.length_take]; omega), ?_⟩
            have hp2 : L'.2[j] = p := by
              rw [List.getElem?_eq_getElem hj'] at hp
              exact Option.some.inj hp
            rw [e, upd_upd, List.take_succ_eq_append_getElem hj', List.map_append, hp2]
            show _ = upd H4 D (.lst (_ ++ [(valV kvs (lf p.1)).getD .non]))
            rw [ex]
            rfl
          have el : L'.2.take (rs4.map V.ref).length = L'.2 := by rw [List.length_map, lr4, List.take_length]
          rw [el] at e
          have f5 : Fr [] H4 H5 := by rw [e]; exact fD
          have eD : H5 D = some (.lst (L'.2.map fun p => (valV kvs (lf p.1)).getD .non)) := by rw [e, upd_same]
          clear e
          refine ⟨D, _, rfl, .inl (SqL.of eD), rfl, ?_, _, rfl, ?_⟩
          · refine List.all_eq_true.mpr fun z hz => ?_
            obtain ⟨p, hp, rfl⟩ := List.mem_map.mp hz
            obtain ⟨x, ex, hx⟩ := tval p hp
            rw [ex]
            rcases hx with rfl | rfl <;> rfl
          refine ite2 (fun c1 => ?_) (fun _ => ?_)
          rotate_left
          · exact ⟨⟨_, _, _, _, _, _, _, _, _, _, _, _, _, _, rfl⟩, sk _ f5⟩
          have tall : ∀ p ∈ L'.2, valV kvs (lf p.1) = some (.int (VV.getD p.1.toNat 0)) := fun p hp => by
            obtain ⟨x, ex, hx⟩ := tval p hp
            rcases hx with rfl | rfl
            · exfalso
              have : inV .non (L'.2.map fun p => (valV kvs (lf p.1)).getD .non) = true := by
                unfold inV
                refine List.any_eq_true.mpr ⟨.non, List.mem_map.mpr ⟨p, hp, by rw [ex]; rfl⟩, rfl⟩
              have c1' : (!inV .non (L'.2.map fun p => (valV kvs (lf p.1)).getD .non)) = true := c1
              rw [this] at c1'
              cases c1'
            · exact ex
          refine ⟨_, rfl, _, rfl, t4, rfl, ⟨_, .inl (f5.tups _ _ h2.rd)⟩, fun D2 hD2 => ?_⟩
          have fD2 : ∀ {ys : List V}, Fr [] H5 (upd H5 D2 (.lst ys)) := fun {ys} => Fr.new hD2
          have sml := smAll r8.W r8.z1 T i L' hn hden
          refine lc_it (walk_tup (xs := rs4.map V.ref)) (fun j H6 => H6 = upd H5 D2 (.lst ((L'.2.take j).map fun p => .int (p.2 * VV.getD p.1.toNat 0)))) rfl (fun j H6 _ e => by rw [e]; exact .inl (fD2.tups _ _ (f5.tups _ _ h2.rd))) (fun j y H6 H7 hj e yy => ?_) (fun H6 e => ?_)
          · obtain ⟨rfl, hy⟩ := yy
            obtain ⟨tj, p, rfl, hp, hpm, hr⟩ := item hy
            have ex := tall p hpm
            have hj' : j < L'.2.length := (List.getElem?_eq_some_iff.mp hp).1
            have f6 : Fr [] H4 H7 := f5.trans (by rw [e]; exact fD2)
            obtain ⟨_, _, _, _, lt5⟩ := sk _ f6
            have g5 := GG.l (k := lf p.1) lt5 rfl
            rw [ex, kle p hpm] at g5
            have b2 : p.2.natAbs ≤ 7 * 2 ^ 30 := sml.2 p hpm
            refine ⟨tj, _, rfl, .inl (f6.tups _ _ hr), rfl, _, _, rfl, _, _, rfl, rfl, rfl, _, rfl, _, rfl, _, rfl, tl, _, rfl, g5, _, _, rfl, rfl, .inl ⟨by omega, by omega⟩, _, (by rw [e, upd_same]), small_line (by rw [List.length_map, List.length_take]; omega), ?_⟩
            have hp2 : L'.2[j] = p := by
              rw [List.getElem?_eq_getElem hj'] at hp
              exact Option.some.inj hp
            rw [e, upd_upd, List.take_succ_eq_append_getElem hj', List.map_append, hp2]
            rfl
          rw [el] at e
          have f6 : Fr [] H4 H6 := f5.trans (by rw [e]; exact fD2)
          have eD2 : H6 D2 = some (.lst ((L'.2.map fun p => p.2 * VV.getD p.1.toNat 0).map V.int)) := by
            rw [e, upd_same, List.map_map]
            rfl
          clear e
          obtain ⟨M2, hM2, hW2⟩ := worth (H2 := H6) hn
          obtain ⟨_, r6, emn6, ewo6, _⟩ := sk _ f6
          refine ⟨D2, _, rfl, SqL.of eD2, _, _, rfl, rfl, _, rfl, _, rfl, _, rfl, mn, _, i, intN M2, rfl, rfl, SqL.of emn6, atI_nat (by rw [List.getElem?_map, hM2]; rfl), wo, _, M2, _, rfl, rfl, SqL.of ewo6, atI_nat hW2, rfl, _, rfl, ?_⟩
          have ev1 := evd hden
          have es : L'.1 + (L'.2.map fun p => p.2 * VV.getD p.1.toNat 0).sum = evT (apI (mv : Int)) (rdI rs5) (tr hs i) := by
            rw [ev1, sum_sumL]
            rfl
          have ed : (!decide (V.int (L'.1 + (L'.2.map fun p => p.2 * VV.getD p.1.toNat 0).sum) = V.int (evT (apI (mv : Int)) (rdI rs5) (tr hs i)))) = false := by rw [es]; simp
          refine ite2 (fun z => ?_) (fun _ => ?_)
          · rw [show (!decide (V.int (L'.1 + (L'.2.map fun p => p.2 * VV.getD p.1.toNat 0).sum) = V.int (evT (apI (mv : Int)) (rdI rs5) (tr hs i)))) = true from z] at ed
            cases ed
          · exact ⟨⟨_, _, _, _, _, _, _, _, _, _, _, _, _, _, rfl⟩, sk _ f6⟩
        · obtain ⟨⟨y2, y9, y10, y11, y12, y13, y17, y20, y21, y22, y23, y24, y25, y26, rfl⟩, kS3, r3, _, _, _⟩ := e
          exact ⟨⟨_, _, _, _, _, _, _, _, _, _, _, _, _, _, _, _, _, _, _, _, _, _, _, _, _, rfl⟩, r3.bg⟩
      · refine ⟨_, rfl, _, us.length, rfl, .inl ⟨us, SqL.of (us0 (fb14.trans ftl.nil)), rfl⟩, _, rfl, by omega, by omega, ?_⟩
        refine for_it walk_range (fun i σ' H2 => (∃ y2 y9 y10 y11 y12 y13 y17 y20 y21 y22 y23 y24 y25 y26, σ' = [some (.ref a), some (.ref ba), y2, some (.ref lk), some (.ref d.g), some (.ref da), some (.ref df), some (.ref ln), some (.ref d.p), y9, y10, y11, y12, y13, some (.ref og), some (.ref rd), some (.ref mn), y17, some (.ref wo), some (.ref tl), y20, y21, y22, y23, y24, y25, y26]) ∧ ∃ kvs, Fr [ba] H' H2 ∧ BagC H2 ba cb ∧ H2 mn = some (.lst (Mn.map intN)) ∧ H2 wo = some (.lst ((wsOf (mv : Int) rs5 hs2).map V.int)) ∧ LD P w H2 tl kvs ∧ (∀ i : Nat, i < T.length → ∃ x, valV kvs (.num (i : Int)) = some x ∧ (x = .non ∨ x = .int (VV.getD i 0))) ∧ kvs.length ≤ 30 + i)
          ⟨⟨_, _, _, _, _, _, _, _, _, _, _, _, _, _, rfl⟩, told0 T.length, fb14.trans ftl.nil, b14.fr ftl, ftl _ _ emn14 (.inl (fun h => nomatch h)), ftl _ _ ewo14 (.inl (fun h => nomatch h)), ltl, fun i hi => ⟨_, told0_val hi, .inl rfl⟩, by simp [told0]; omega⟩ (fun _ _ _ _ _ => True.intro) (fun i x σ' H1 H2 hi e y => ?_) (fun σ' H2 e => ?_)
        · obtain ⟨⟨y2, y9, y10, y11, y12, y13, y17, y20, y21, y22, y23, y24, y25, y26, rfl⟩, kvs, f2, b2, emn2, ewo2, ltl2, tld, lkv⟩ := e
          obtain ⟨rfl, hx⟩ := y
          have hx : x = intN i := by rw [hx]; show V.int (0 + (i : Int)) = V.int (i : Int); rw [Int.zero_add]
          subst hx
          have hn : i < hs.length := by
            have : (us.length : Int).toNat = us.length := by simp
            omega
          have r2 := r8.take f2 b2
          obtain ⟨v0, hv0⟩ := full i hn
          obtain ⟨L, dd, rfl, hden, ndd, l, hl, hi2⟩ := r2.lw.at hv0
          refine ⟨_, rfl, _, rfl, df, _, rfl, hv0 ▸ GG.k (k := ky i) r2.lw.df rfl, ?_⟩
          obtain ⟨odd, edd⟩ := hl.at
          obtain ⟨ot2, et2⟩ := ltl2.at
          have sk : ∀ H3, Fr [] H2 H3 → ∃ kvs, Fr [ba] H' H3 ∧ BagC H3 ba cb ∧ H3 mn = some (.lst (Mn.map intN)) ∧ H3 wo = some (.lst ((wsOf (mv : Int) rs5 hs2).map V.int)) ∧ LD P w H3 tl kvs ∧ (∀ i : Nat, i < T.length → ∃ x, valV kvs (.num (i : Int)) = some x ∧ (x = .non ∨ x = .int (VV.getD i 0))) ∧ kvs.length ≤ 30 + (i + 1) := fun H3 f => ⟨kvs, f2.trans f.nil, b2.fr f, f _ _ emn2 (.inl (fun h => nomatch h)), f _ _ ewo2 (.inl (fun h => nomatch h)), ltl2.keep ((f _ _ et2 (.inl (fun h => nomatch h))).trans et2.symm), tld, by omega⟩
          refine ⟨_, rfl, dd, _, rfl, .inr (.inr ⟨_, hl, rfl⟩), rfl, _, rfl, ?_⟩
          refine ite2 (fun c1 => ?_) (fun _ => ?_)
          rotate_left
          · refine iteF ?_
            exact ⟨⟨_, _, _, _, _, _, _, _, _, _, _, _, _, _, rfl⟩, sk _ (Fr.refl _ _)⟩
          have l1 : l.length = 1 := by
            have := V.int.inj (of_decide_eq_true c1)
            rw [encF_len] at this
            omega
          obtain ⟨⟨kk, vv⟩, rfl⟩ := List.length_eq_one_iff.mp l1
          refine ⟨_, rfl, dd, lf kk, .int vv, rfl, hl, fun q t hq ht nqt => ?_⟩
          have f3 : Fr [] H2 (upd (upd H2 q (.lst [.ref t])) t (.tup [leafV (lf kk), .int vv])) := (Fr.new hq).trans (Fr.new (by rw [upd_ne nqt]; exact ht))
          have eq3 : upd (upd H2 q (.lst [.ref t])) t (.tup [leafV (lf kk), .int vv]) q = some (.lst [.ref t]) := (upd_ne nqt.symm).trans upd_same
          have et3 : upd (upd H2 q (.lst [.ref t])) t (.tup [leafV (lf kk), .int vv]) t = some (.tup [leafV (lf kk), .int vv]) := upd_same
          generalize upd (upd H2 q (.lst [.ref t])) t (.tup [leafV (lf kk), .int vv]) = H3 at *
          refine ⟨q, _, 0, _, rfl, rfl, SqL.of eq3, atI_nat (j := 0) rfl, t, _, 1, _, rfl, rfl, .inl (.inl et3), atI_nat (j := 1) rfl, rfl, _, rfl, ?_⟩
          refine ite2 (fun c2 => ?_) (fun _ => ?_)
          rotate_left
          · refine iteF ?_
            exact ⟨⟨_, _, _, _, _, _, _, _, _, _, _, _, _, _, rfl⟩, sk _ f3⟩
          have hv1 : vv = 1 := V.int.inj (of_decide_eq_true c2)
          subst hv1
          have hl3 : ∀ {H4}, Fr [] H2 H4 → LD P w H4 dd (encF [(kk, 1)]) := fun f => hl.keep ((f _ _ edd (.inl (fun h => nomatch h))).trans edd.symm)
          have lt3 : ∀ {H4}, Fr [] H2 H4 → LD P w H4 tl kvs := fun f => ltl2.keep ((f _ _ et2 (.inl (fun h => nomatch h))).trans et2.symm)
          refine ⟨_, rfl, dd, _, rfl, GG.l (k := lf (-1)) (hl3 f3) rfl, _, rfl, ?_⟩
          cases hq1 : valV (encF [(kk, 1)]) (lf (-1)) with
          | some _ =>
            refine iteF ?_
            exact ⟨⟨_, _, _, _, _, _, _, _, _, _, _, _, _, _, rfl⟩, sk _ f3⟩
          | none =>
            refine iteT ?_
            have hk1 : kk ≠ -1 := fun z => by
              rw [encF_val] at hq1
              have := at_none.mp (Option.map_eq_none_iff.mp hq1)
              exact this (by simp [z])
            obtain ⟨eL, k0, kT⟩ := unit_lin (den_ok hden) hi2 hk1
            obtain ⟨kn, rfl⟩ := Int.eq_ofNat_of_zero_le k0
            have eW := evd hden
            rw [eL] at eW
            have eW2 : evT (apI (mv : Int)) (rdI rs5) (tr hs i) = VV.getD kn 0 := by
              rw [eW]
              show (0 : Int) + (1 * VV.getD ((kn : Int)).toNat 0 + 0) = _
              rw [Int.toNat_natCast]
              omega
            obtain ⟨x, ex, hx⟩ := tld kn (by omega)
            have ex' : valV kvs (lf (kn : Int)) = some x := by rw [lf_nat]; exact ex
            obtain ⟨M, hM, hW⟩ := worth (H2 := H2) hn
            have fin2 : ∀ H5, Fr [] H2 H5 → ∀ o, LD P w (upd H5 tl (exo tl o)) tl (putK kvs (lf (kn : Int)) (.int (VV.getD kn 0))) → ∃ kvs, Fr [ba] H' (upd H5 tl (exo tl o)) ∧ BagC (upd H5 tl (exo tl o)) ba cb ∧ upd H5 tl (exo tl o) mn = some (.lst (Mn.map intN)) ∧ upd H5 tl (exo tl o) wo = some (.lst ((wsOf (mv : Int) rs5 hs2).map V.int)) ∧ LD P w (upd H5 tl (exo tl o)) tl kvs ∧ (∀ i : Nat, i < T.length → ∃ x, valV kvs (.num (i : Int)) = some x ∧ (x = .non ∨ x = .int (VV.getD i 0))) ∧ kvs.length ≤ 30 + (i + 1) := by
              intro H5 f5 o l2
              refine ⟨_, fun b u e n => ?_, (b2.fr f5).own r8.bg htl8, ?_, ?_, l2, fun j hj => ?_, ?_⟩
              · rw [upd_ne (ne_of_none e htl8)]
                exact f5 _ _ (f2 b u e n) (.inl (fun h => nomatch h))
              · rw [upd_ne tlmn]
                exact f5 _ _ emn2 (.inl (fun h => nomatch h))
              · rw [upd_ne tlwo]
                exact f5 _ _ ewo2 (.inl (fun h => nomatch h))
              · rw [valV_put]
                by_cases z : Leaf.num (j : Int) = lf (kn : Int)
                · rw [if_pos z]
                  rw [lf_nat] at z
                  have := Leaf.num.inj z
                  have e : j = kn := by omega
                  rw [e]
                  exact ⟨_, rfl, .inr rfl⟩
                · rw [if_neg z]
                  exact tld j hj
              · have := length_putK kvs (lf (kn : Int)) (V.int (VV.getD kn 0))
                omega
            refine ⟨_, rfl, _, rfl, dd, _, rfl, hl3 f3, fun q1 hq1' => ⟨q1, _, 0, _, rfl, rfl, SqL.of upd_same, atI_nat (j := 0) rfl, tl, x, rfl, ex' ▸ GG.l (k := lf (kn : Int)) (lt3 (f3.trans (Fr.new hq1'))) rfl, rfl, _, rfl, ?_⟩⟩
            have f4 := f3.trans (Fr.new hq1' : Fr [] H3 (upd H3 q1 (.lst ((encF [((kn : Int), (1 : Int))]).map fun p => leafV p.1))))
            have put : ∀ H5, Fr [] H2 H5 → ∃ a1, V.ref dd = .ref a1 ∧ LD P w H5 dd (encF [((kn : Int), (1 : Int))]) := fun H5 f => ⟨dd, rfl, hl3 f⟩
            rcases hx with rfl | rfl
            · refine iteT ?_
              have emn5 := f4 _ _ emn2 (.inl (fun h => nomatch h))
              have ewo5 := f4 _ _ ewo2 (.inl (fun h => nomatch h))
              refine ⟨_, rfl, _, rfl, _, rfl, mn, _, i, intN M, rfl, rfl, SqL.of emn5, atI_nat (by rw [List.getElem?_map, hM]; rfl), wo, _, M, _, rfl, rfl, SqL.of ewo5, atI_nat hW, ?_⟩
              refine ⟨_, rfl, _, rfl, dd, _, rfl, hl3 f4, fun q2 hq2 => ⟨q2, _, 0, _, rfl, rfl, SqL.of upd_same, atI_nat (j := 0) rfl, tl, rfl, GP.l (k := lf (kn : Int)) (lt3 (f4.trans (Fr.new hq2))) rfl (small_line (by omega)) fun o l2 => ?_⟩⟩
              rw [eW2] at l2
              exact ⟨⟨_, _, _, _, _, _, _, _, _, _, _, _, _, _, rfl⟩, fin2 _ (f4.trans (Fr.new hq2)) o l2⟩
            · refine iteF ?_
              refine ⟨_, rfl, _, rfl, dd, _, rfl, hl3 f4, fun q2 hq2 => ⟨q2, _, 0, _, rfl, rfl, SqL.of upd_same, atI_nat (j := 0) rfl, tl, _, rfl, ex' ▸ GG.l (k := lf (kn : Int)) (lt3 (f4.trans (Fr.new hq2))) rfl, ?_⟩⟩
              have f5 := f4.trans (Fr.new hq2 : Fr [] _ (upd (upd H3 q1 (.lst ((encF [((kn : Int), (1 : Int))]).map fun p => leafV p.1))) q2 (.lst ((encF [((kn : Int), (1 : Int))]).map fun p => leafV p.1))))
              refine ⟨_, rfl, _, rfl, dd, _, rfl, hl3 f5, fun q3 hq3 => ⟨q3, _, 0, _, rfl, rfl, SqL.of upd_same, atI_nat (j := 0) rfl, tl, rfl, GP.l (k := lf (kn : Int)) (lt3 (f5.trans (Fr.new hq3))) rfl (small_line (by omega)) fun o l2 => ?_⟩⟩
              exact ⟨⟨_, _, _, _, _, _, _, _, _, _, _, _, _, _, rfl⟩, fin2 _ (f5.trans (Fr.new hq3)) o l2⟩
        · obtain ⟨⟨y2, y9, y10, y11, y12, y13, y17, y20, y21, y22, y23, y24, y25, y26, rfl⟩, kvs, f2, b2, emn2, ewo2, ltl2, tld, _⟩ := e
          exact hN13 _ _ ⟨⟨_, _, _, _, _, _, _, _, _, _, _, _, _, _, rfl⟩, kvs, f2, b2, emn2, ewo2, ltl2, tld⟩
    · refine ⟨2, rfl, by decide, by decide, ?_⟩
      refine for_it walk_range (fun i σ' H' => (∃ y2 y9 y10 y11 y12 y13 y14 y15 y16 y17 y18 y19 y20 y21 y22 y23 y24 y25 y26, σ' = [some (.ref a), some (.ref ba), y2, some (.ref lk), some (.ref d.g), some (.ref da), some (.ref df), some (.ref ln), some (.ref d.p), y9, y10, y11, y12, y13, y14, y15, y16, y17, y18, y19, y20, y21, y22, y23, y24, y25, y26]) ∧ ∃ T kS kL, RS c P w H' ba cb lk ln da df d us hs hs' Ms T kS kL ∧ ∀ n, n < hs.length → ∃ v, valV kL (ky n) = some v) ⟨⟨_, _, _, _, _, _, _, _, _, _, _, _, _, _, _, _, _, _, _, rfl⟩, T7, kS7, kL7, r7, full7⟩ (fun _ _ _ _ _ => True.intro) (fun i x σ' H1 H' hi e y => ?_) (fun σ' H' e => hN8 _ _ e)
      obtain ⟨⟨y2, y9, y10, y11, y12, y13, y14, y15, y16, y17, y18, y19, y20, y21, y22, y23, y24, y25, y26, rfl⟩, T, kS, kL, r, full⟩ := e
      obtain ⟨rfl, rfl⟩ := y
      have tzz := r.tz
      -- how many
      refine ⟨_, rfl, d.p, d.dx, _, rfl, r.sg.ip, rfl, d, hs', T, kS, rfl, r.sg, _, rfl, da, _, rfl, .inr (.inl ⟨_, r.lw.nu, rfl⟩), _, _, .num (T.length : Int), rfl, .num _, by rw [enumF_len]; exact .num _, okNum (by omega), _, rfl, ?_⟩
      refine iteF ?_
      -- the atoms
      obtain ⟨oK, uK, eK, sK, kK, rK, lK⟩ := r.lw.nu.keysO
      rw [enumF_keys] at rK
      unfold tNext
      dsimp only
      refine tSeq_mid (fun σ' H2 => (∃ y2 y9 y10 y11 y12 y13 y14 y15 y16 y17 y18 y19 y20 y21 y22 y23 y24 y25 y26, σ' = [some (.ref a), some (.ref ba), y2, some (.ref lk), some (.ref d.g), some (.ref da), some (.ref df), some (.ref ln), some (.ref d.p), y9, y10, y11, y12, y13, y14, y15, y16, y17, y18, y19, y20, y21, y22, y23, y24, y25, y26]) ∧ Fr [] H' H2) (fun σ' H2 e => ?_) (fun N9 hN9 => ?_)
      · obtain ⟨⟨y2, y9, y10, y11, y12, y13, y14, y15, y16, y17, y18, y19, y20, y21, y22, y23, y24, y25, y26, rfl⟩, f2⟩ := e
        have r2 := r.fr f2
        have lus2 : us.length = hs.length := lus
        have z0' := r.z0
        refine ⟨_, rfl, _, rfl, _, us.length, rfl, .inl ⟨us, SqL.of r2.kl, rfl⟩, ba, cb, _, rfl, r2.bg, by omega, by omega, fun H3 n f3 b3 ln3 => ?_⟩
        have r3 := r2.take f3 b3
        have hn : n < hs.length := by omega
        obtain ⟨M, hM, lM, eM⟩ := r.ro.pt n hn
        obtain ⟨v0, hv0⟩ := full n hn
        obtain ⟨L, dd, rfl, hd, dlv⟩ := r3.lw.at hv0
        have eg := grow_id hd
        refine ⟨_, rfl, d.p, d.dx, _, rfl, r3.sg.ip, rfl, _, rfl, _, rfl, ln, _, n, intN M, rfl, rfl, SqL.of r3.nl, atI_nat (by rw [List.getElem?_map, hM]; rfl), d, hs', T, kS, M, rfl, r3.sg, r.ro.wf, by have := r.ro.sz; omega, lM, fun H4 v' T' kS' L' f4 g4 eT hd' hL' => ?_⟩
        rw [eM] at eT hd'
        subst eT
        have r4 := r3.lin hn (Fr.refl _ _) (by rw [eg]; exact r3.lw) f4 g4
        rw [eg] at hd' r4
        have eL : L' = L := by
          rw [hd] at hd'
          exact (Option.some.inj hd').symm
        subst eL
        obtain ⟨L2', dd2, e2, hd2, ndd, l, hl, hi2⟩ := r4.lw.at hv0
        cases e2
        have eL2 : L2' = L' := by
          rw [hd] at hd2
          exact (Option.some.inj hd2).symm
        subst eL2
        refine ⟨_, rfl, _, rfl, df, _, rfl, hv0 ▸ GG.k (k := ky n) r4.lw.df rfl, dd, l, L2', _, rfl, hl, hi2, den_ok hd, by omega, fun H5 v f5 rv => ?_⟩
        have r5 := r4.fr f5
        refine ⟨v', v, linD L2', rfl, (hL'.kp f5).rep, rv, r5.okLin hn hd, _, rfl, ?_⟩
        refine iteF ?_
        exact ⟨⟨_, _, _, _, _, _, _, _, _, _, _, _, _, _, _, _, _, _, _, rfl⟩, T, _, _, r5, full⟩
      · refine ⟨_, rfl, da, oK, uK, rfl, eK, sK, kK, ?_⟩
        refine for_it walk_X (fun i σ' H2 => (∃ y2 y9 y10 y11 y12 y13 y14 y15 y16 y17 y18 y19 y20 y21 y22 y23 y24 y25 y26, σ' = [some (.ref a), some (.ref ba), y2, some (.ref lk), some (.ref d.g), some (.ref da), some (.ref df), some (.ref ln), some (.ref d.p), y9, y10, y11, y12, y13, y14, y15, y16, y17, y18, y19, y20, y21, y22, y23, y24, y25, y26]) ∧ Fr [] H' H2) ⟨⟨_, _, _, _, _, _, _, _, _, _, _, _, _, _, _, _, _, _, _, rfl⟩, Fr.refl _ _⟩ (fun i σ' H2 _ e => e.2 _ _ eK (.inl (fun h => nomatch h))) (fun i x σ' H1 H2 hi e y => ?_) (fun σ' H2 e => hN9 _ _ e)
        obtain ⟨⟨y2, y9, y10, y11, y12, y13, y14, y15, y16, y17, y18, y19, y20, y21, y22, y23, y24, y25, y26, rfl⟩, f2⟩ := e
        obtain ⟨rfl, hx⟩ := y
        obtain ⟨kd, hk, rk2⟩ := rK.getV hx
        rw [List.getElem?_map] at hk
        obtain ⟨at1, hat1, rfl⟩ := Option.map_eq_some_iff.mp hk
        have am : at1 ∈ T := List.mem_of_getElem? hat1
        obtain ⟨pi, hpi⟩ := pos_mem am
        have ev : valV (enumN T) (.tup (nameK at1)) = some (V.int (pi : Int)) := by
          have := enumN_val T at1
          rw [hpi] at this
          exact this
        have r2 := r.fr f2
        have rk3 := rk2.kp f2.tups
        obtain ⟨ta1, xs1, rfl, e1, rs1⟩ := id rk3.tup_inv
        cases at1 with
        | letter kk =>
          cases rs1 with
          | cons h1 t1 =>
            cases t1 with
            | cons h2 t2 =>
              cases t2 with
              | cons h3 t3 =>
                cases t3
                have e2 := h1.text_inv
                subst e2
                have e3 := h2.text_inv
                subst e3
                have e4 := h3.int_inv
                subst e4
                refine ⟨_, rfl, ta1, _, 0, _, rfl, rfl, .inl e1, atI_nat (j := 0) rfl, rfl, _, rfl, ?_⟩
                refine ite2 (fun _ => ?_) (fun z => absurd (se _) z)
                refine ⟨_, rfl, 1, rfl, ta1, _, rfl, .inl e1, (fun z => by cases z.1), fun t ht => ⟨(by show 2 ≤ sizeLine; decide), fun t2 ht2 => ?_⟩⟩
                have n21 : t2 ≠ t := fun e => by rw [e, upd_same] at ht2; cases ht2
                have f3 : Fr [] H2 (upd (upd H2 t (.tup (cutV [.str "letter", .str "read", .int kk] (some 1) none))) t2 (.tup [.str "letter", .ref t])) := (Fr.new ht).trans (Fr.new ht2)
                have r3 := r2.fr f3
                refine ⟨_, rfl, d.p, d.dx, _, rfl, r3.sg.ip, rfl, _, rfl, _, rfl, da, _, rfl, ev ▸ GG.n r3.lw.nu (rk3.kp f3.tups) (nameD_depth _), d, hs', T, kS, pi, .letter kk, rfl, r3.sg, pos_at hpi, fun v rv => ⟨_, rfl, v, _, atomD (.letter kk), rfl, rv, ?_, r3.okAtom am, _, rfl, ?_⟩⟩
                · exact .tup (.inl upd_same) (.cons (.text _) (.cons (.tup (.inl ((upd_ne n21.symm).trans upd_same)) (.cons (.text _) (.cons (.num _) .nil))) .nil))
                · refine iteF ?_
                  exact ⟨⟨_, _, _, _, _, _, _, _, _, _, _, _, _, _, _, _, _, _, _, rfl⟩, f2.trans f3⟩
        | op o Ls =>
          cases rs1 with
          | cons h1 t1 =>
            have e2 := h1.text_inv
            subst e2
            refine ⟨_, rfl, ta1, _, 0, _, rfl, rfl, .inl e1, atI_nat (j := 0) rfl, rfl, _, rfl, ?_⟩
            refine ite2 (fun z => absurd z (sn (by decide))) (fun _ => ?_)
            refine ⟨_, rfl, ?_⟩
            refine ⟨_, rfl, d.p, d.dx, _, rfl, r2.sg.ip, rfl, _, rfl, _, rfl, da, _, rfl, ev ▸ GG.n r2.lw.nu rk3 (nameD_depth _), d, hs', T, kS, pi, .op o Ls, rfl, r2.sg, pos_at hpi, fun v rv => ⟨_, rfl, v, _, atomD (.op o Ls), rfl, rv, rk3, r2.okAtom am, _, rfl, ?_⟩⟩
            refine iteF ?_
            exact ⟨⟨_, _, _, _, _, _, _, _, _, _, _, _, _, _, _, _, _, _, _, rfl⟩, f2⟩
  · refine ⟨_, rfl, lo, rfl, ⟨_, SqL.of elo0⟩, ?_⟩
    refine for_it (walk_list (xs := ys)) (fun i σ' H' => (∃ y2 y10 y11 y12 y13 y14 y15 y16 y17 y18 y19 y20 y21 y22 y23 y24 y25 y26, σ' = [some (.ref a), some (.ref ba), y2, some (.ref lk), some (.ref d.g), some (.ref da), some (.ref df), some (.ref ln), some (.ref d.p), some (.ref lo), y10, y11, y12, y13, y14, y15, y16, y17, y18, y19, y20, y21, y22, y23, y24, y25, y26]) ∧ H' lo = some (.lst ys) ∧ ∃ T kS kL, RS c P w H' ba cb lk ln da df d us hs hs' Ms T kS kL ∧ ∀ n, intN n ∈ ys.take i → ∃ v, valV kL (ky n) = some v)
      ⟨⟨_, _, _, _, _, _, _, _, _, _, _, _, _, _, _, _, _, _, rfl⟩, elo0, [], [], [], rsH, fun n h => nomatch h⟩ (fun i σ' H' _ e => SqL.of e.2.1) (fun i x σ' H1 H' hi e y => ?_) (fun σ' H' e => ?_)
    · obtain ⟨⟨y2, y10, y11, y12, y13, y14, y15, y16, y17, y18, y19, y20, y21, y22, y23, y24, y25, y26, rfl⟩, el, T1, kS, kL, r, hk⟩ := e
      obtain ⟨rfl, hx⟩ := y
      obtain ⟨n, rfl, hn⟩ := ysn x (List.mem_of_getElem? hx)
      -- due
      refine ⟨_, rfl, _, rfl, _, rfl, _, rfl, lk, da, df, dn, n, us, hs, T1, kL, rfl, Nat.lt_of_lt_of_le hn z1, hn, z1, by simp [dn_da, dn_df], r.sg.here dn (by simp [d]), W, r.kl, r.kr, r.lw, fun H2 kL' dd L f2 g2 hd hv mo ab dlv => ?_⟩
      obtain ⟨ndd, l, hl, hi2⟩ := dlv
      have tz2 : (grow T1 (tr hs n)).length ≤ 30 := by
        have := g2.len
        have := g2.tz
        omega
      refine ⟨dd, l, L, _, rfl, hl, hi2, den_ok hd, by omega, fun H3 v f3 rv => ?_⟩
      have f23 : Fr [da, df] H' H3 := f2.trans f3.nil
      have g3 := g2.kp f3
      obtain ⟨sg3, nl3⟩ := r.sub2 f23
      obtain ⟨M, hM, lM, eM⟩ := r.ro.pt n hn
      refine ⟨_, rfl, d.p, d.dx, _, rfl, sg3.ip, rfl, _, rfl, _, rfl, ln, _, n, intN M, rfl, rfl, SqL.of nl3, atI_nat (by rw [List.getElem?_map, hM]; rfl), d, hs', T1, kS, M, rfl, sg3, r.ro.wf, by have := r.ro.sz; omega, lM, fun H4 v' T' kS' L' f4 g4 eT hd' hL' => ?_⟩
      rw [eM] at eT hd'
      subst eT
      have eL : L' = L := by
        rw [hd] at hd'
        exact (Option.some.inj hd').symm
      subst eL
      have r4 := r.lin hn f23 g3 f4 g4
      refine ⟨_, rfl, v', v, linD L', rfl, hL'.rep, rv.kp f4.tups, r4.okLin hn hd, _, rfl, ?_⟩
      refine iteF ?_
      have f24 : Fr [da, df, d.la, d.dn, d.dl] H' H4 := (f23.mono (by simp)).trans (f4.mono (by simp))
      refine ⟨⟨_, _, _, _, _, _, _, _, _, _, _, _, _, _, _, _, _, _, rfl⟩, f24 _ _ el (.inl ?_), _, _, _, r4, fun k hk2 => ?_⟩
      · have := ndl
        simp only [List.mem_cons, List.not_mem_nil, or_false, not_or] at this ⊢
        exact ⟨this.2.2.2.1, this.2.2.2.2.1, this.1, this.2.1, this.2.2.1⟩
      · rw [List.take_succ_eq_append_getElem hi] at hk2
        rcases List.mem_append.mp hk2 with hk2 | hk2
        · obtain ⟨v0, hv0⟩ := hk k hk2
          exact ⟨v0, mo _ _ hv0⟩
        · have e1 := List.mem_singleton.mp hk2
          rw [List.getElem?_eq_getElem hi] at hx
          rw [Option.some.inj hx] at e1
          have e2 := V.int.inj e1
          have e3 : k = n := by omega
          rw [e3]
          exact ⟨_, hv⟩
    · obtain ⟨⟨y2, y10, y11, y12, y13, y14, y15, y16, y17, y18, y19, y20, y21, y22, y23, y24, y25, y26, rfl⟩, el, T1, kS, kL, r, hk⟩ := e
      refine hN _ _ ⟨⟨_, _, _, _, _, _, _, _, _, _, _, _, _, _, _, _, _, _, _, rfl⟩, T1, kS, kL, r, fun n hn => hk n ?_⟩
      rw [List.take_length]
      exact nys n hn
end
end R60

set_option Elab.async false
set_option linter.all false
set_option maxRecDepth 100000
set_option maxHeartbeats 0
namespace R60
open PySem PySem.Spec PyProof.Rows L2 M60
theorem all_mk {l : PySem.W.OpenLaw} {w : World} {K : PySem.W.Frag} {h : Heap} {mg : Str → Option Value} {fa CS CG f_d0 f_d1 f_d2 f_d3 f_d4 f_d5 f_d6 f_d7 f_d8 f_d9 f_d10 f_d11 f_d12 f_d13 f_d14 f_d15 f_d16 f_d17 f_d18 f_d19 f_s0 f_s1 f_s2 f_s3 f_s4 f_s5 f_g0 f_g1 f_g2 f_g3 f_g4 f_g5 f_g6 f_g7 f_g8 : Addr} (X : K.In h) (G : h.Ns mainGlobals mg) (hfa : mg "law" = some (.ref fa)) {mt : Tok}
    {od_d0 an_d0 od_d1 an_d1 od_d2 an_d2 od_d3 an_d3 od_d4 an_d4 od_d5 an_d5 od_d6 an_d6 od_d7 an_d7 od_d8 an_d8 od_d9 an_d9 od_d10 an_d10 od_d11 an_d11 od_d12 an_d12 od_d13 an_d13 od_d14 an_d14 od_d15 an_d15 od_d16 an_d16 od_d17 an_d17 od_d18 an_d18 od_d19 an_d19 od_s0 an_s0 od_s1 an_s1 od_s2 an_s2 od_s3 an_s3 od_s4 an_s4 od_s5 an_s5 od_g0 an_g0 od_g1 an_g1 od_g2 an_g2 od_g3 an_g3 od_g4 an_g4 od_g5 an_g5 od_g6 an_g6 od_g7 an_g7 od_g8 an_g8 : Option Addr} {sl_d0 sl_d1 sl_d2 sl_d3 sl_d4 sl_d5 sl_d6 sl_d7 sl_d8 sl_d9 sl_d10 sl_d11 sl_d12 sl_d13 sl_d14 sl_d15 sl_d16 sl_d17 sl_d18 sl_d19 sl_s0 sl_s1 sl_s2 sl_s3 sl_s4 sl_s5 sl_g0 sl_g1 sl_g2 sl_g3 sl_g4 sl_g5 sl_g6 sl_g7 sl_g8 : Array (Option Value)} {oc_d0 kV_d0 dc_d0 pm_d0 cd_d0 ct_d0 oc_d1 kV_d1 dc_d1 pm_d1 cd_d1 ct_d1 oc_d2 kV_d2 dc_d2 pm_d2 cd_d2 ct_d2 oc_d3 kV_d3 dc_d3 pm_d3 cd_d3 ct_d3 oc_d4 kV_d4 dc_d4 pm_d4 cd_d4 ct_d4 oc_d5 kV_d5 dc_d5 pm_d5 cd_d5 ct_d5 oc_d6 kV_d6 dc_d6 pm_d6 cd_d6 ct_d6 oc_d7 kV_d7 dc_d7 pm_d7 cd_d7 ct_d7 oc_d8 kV_d8 dc_d8 pm_d8 cd_d8 ct_d8 oc_d9 kV_d9 dc_d9 pm_d9 cd_d9 ct_d9 oc_d10 kV_d10 dc_d10 pm_d10 cd_d10 ct_d10 oc_d11 kV_d11 dc_d11 pm_d11 cd_d11 ct_d11 oc_d12 kV_d12 dc_d12 pm_d12 cd_d12 ct_d12 oc_d13 kV_d13 dc_d13 pm_d13 cd_d13 ct_d13 oc_d14 kV_d14 dc_d14 pm_d14 cd_d14 ct_d14 oc_d15 kV_d15 dc_d15 pm_d15 cd_d15 ct_d15 oc_d16 kV_d16 dc_d16 pm_d16 cd_d16 ct_d16 oc_d17 kV_d17 dc_d17 pm_d17 cd_d17 ct_d17 oc_d18 kV_d18 dc_d18 pm_d18 cd_d18 ct_d18 oc_d19 kV_d19 dc_d19 pm_d19 cd_d19 ct_d19 oc_s0 kV_s0 dc_s0 pm_s0 cd_s0 ct_s0 oc_s1 kV_s1 dc_s1 pm_s1 cd_s1 ct_s1 oc_s2 kV_s2 dc_s2 pm_s2 cd_s2 ct_s2 oc_s3 kV_s3 dc_s3 pm_s3 cd_s3 ct_s3 oc_s4 kV_s4 dc_s4 pm_s4 cd_s4 ct_s4 oc_s5 kV_s5 dc_s5 pm_s5 cd_s5 ct_s5 oc_g0 kV_g0 dc_g0 pm_g0 cd_g0 ct_g0 oc_g1 kV_g1 dc_g1 pm_g1 cd_g1 ct_g1 oc_g2 kV_g2 dc_g2 pm_g2 cd_g2 ct_g2 oc_g3 kV_g3 dc_g3 pm_g3 cd_g3 ct_g3 oc_g4 kV_g4 dc_g4 pm_g4 cd_g4 ct_g4 oc_g5 kV_g5 dc_g5 pm_g5 cd_g5 ct_g5 oc_g6 kV_g6 dc_g6 pm_g6 cd_g6 ct_g6 oc_g7 kV_g7 dc_g7 pm_g7 cd_g7 ct_g7 oc_g8 kV_g8 dc_g8 pm_g8 cd_g8 ct_g8 : Value}
    (aS : PySem.W.nsIn K mainGlobals "SumGraph" = some (some (.ref CS)))
    (aG : PySem.W.nsIn K mainGlobals "Graph" = some (some (.ref CG)))
    (a_d0 : PySem.W.nsIn K mainGlobals "scaled" = some (some (.ref f_d0)))
    (l_d0 : K.lookup f_d0 = some ⟨oc_d0, od_d0, .func (PySem.W.fnOf "scaled" "scaled" (defArgs s_scaled) (defBody s_scaled) (defScope s_scaled) .none kV_d0 dc_d0 pm_d0 an_d0 cd_d0 ct_d0), sl_d0⟩)
    (c_d0 : PySem.W.codeIn K cd_d0 "scaled" = true)
    (k_d0 : PySem.W.keepIn K (.ref f_d0) = true)
    (a_d1 : PySem.W.nsIn K mainGlobals "added" = some (some (.ref f_d1)))
    (l_d1 : K.lookup f_d1 = some ⟨oc_d1, od_d1, .func (PySem.W.fnOf "added" "added" (defArgs s_added) (defBody s_added) (defScope s_added) .none kV_d1 dc_d1 pm_d1 an_d1 cd_d1 ct_d1), sl_d1⟩)
    (c_d1 : PySem.W.codeIn K cd_d1 "added" = true)
    (k_d1 : PySem.W.keepIn K (.ref f_d1) = true)
    (a_d2 : PySem.W.nsIn K mainGlobals "linear_of" = some (some (.ref f_d2)))
    (l_d2 : K.lookup f_d2 = some ⟨oc_d2, od_d2, .func (PySem.W.fnOf "linear_of" "linear_of" (defArgs s_linear_of) (defBody s_linear_of) (defScope s_linear_of) .none kV_d2 dc_d2 pm_d2 an_d2 cd_d2 ct_d2), sl_d2⟩)
    (c_d2 : PySem.W.codeIn K cd_d2 "linear_of" = true)
    (k_d2 : PySem.W.keepIn K (.ref f_d2) = true)
    (a_d3 : PySem.W.nsIn K mainGlobals "is_sum" = some (some (.ref f_d3)))
    (l_d3 : K.lookup f_d3 = some ⟨oc_d3, od_d3, .func (PySem.W.fnOf "is_sum" "is_sum" (defArgs s_is_sum) (defBody s_is_sum) (defScope s_is_sum) .none kV_d3 dc_d3 pm_d3 an_d3 cd_d3 ct_d3), sl_d3⟩)
    (c_d3 : PySem.W.codeIn K cd_d3 "is_sum" = true)
    (k_d3 : PySem.W.keepIn K (.ref f_d3) = true)
    (a_d4 : PySem.W.nsIn K mainGlobals "sum_linear" = some (some (.ref f_d4)))
    (l_d4 : K.lookup f_d4 = some ⟨oc_d4, od_d4, .func (PySem.W.fnOf "sum_linear" "sum_linear" (defArgs s_sum_linear) (defBody s_sum_linear) (defScope s_sum_linear) .none kV_d4 dc_d4 pm_d4 an_d4 cd_d4 ct_d4), sl_d4⟩)
    (c_d4 : PySem.W.codeIn K cd_d4 "sum_linear" = true)
    (k_d4 : PySem.W.keepIn K (.ref f_d4) = true)
    (a_d5 : PySem.W.nsIn K mainGlobals "_law_bag" = some (some (.ref f_d5)))
    (l_d5 : K.lookup f_d5 = some ⟨oc_d5, od_d5, .func (PySem.W.fnOf "_law_bag" "_law_bag" (defArgs s_law_bag) (defBody s_law_bag) (defScope s_law_bag) .none kV_d5 dc_d5 pm_d5 an_d5 cd_d5 ct_d5), sl_d5⟩)
    (c_d5 : PySem.W.codeIn K cd_d5 "_law_bag" = true)
    (k_d5 : PySem.W.keepIn K (.ref f_d5) = true)
    (a_d6 : PySem.W.nsIn K mainGlobals "_law_take" = some (some (.ref f_d6)))
    (l_d6 : K.lookup f_d6 = some ⟨oc_d6, od_d6, .func (PySem.W.fnOf "_law_take" "_law_take" (defArgs s_law_take) (defBody s_law_take) (defScope s_law_take) .none kV_d6 dc_d6 pm_d6 an_d6 cd_d6 ct_d6), sl_d6⟩)
    (c_d6 : PySem.W.codeIn K cd_d6 "_law_take" = true)
    (k_d6 : PySem.W.keepIn K (.ref f_d6) = true)
    (a_d7 : PySem.W.nsIn K mainGlobals "_law_some" = some (some (.ref f_d7)))
    (l_d7 : K.lookup f_d7 = some ⟨oc_d7, od_d7, .func (PySem.W.fnOf "_law_some" "_law_some" (defArgs s_law_some) (defBody s_law_some) (defScope s_law_some) .none kV_d7 dc_d7 pm_d7 an_d7 cd_d7 ct_d7), sl_d7⟩)
    (c_d7 : PySem.W.codeIn K cd_d7 "_law_some" = true)
    (k_d7 : PySem.W.keepIn K (.ref f_d7) = true)
    (a_d8 : PySem.W.nsIn K mainGlobals "_law_mixed" = some (some (.ref f_d8)))
    (l_d8 : K.lookup f_d8 = some ⟨oc_d8, od_d8, .func (PySem.W.fnOf "_law_mixed" "_law_mixed" (defArgs s_law_mixed) (defBody s_law_mixed) (defScope s_law_mixed) .none kV_d8 dc_d8 pm_d8 an_d8 cd_d8 ct_d8), sl_d8⟩)
    (c_d8 : PySem.W.codeIn K cd_d8 "_law_mixed" = true)
    (k_d8 : PySem.W.keepIn K (.ref f_d8) = true)
    (a_d9 : PySem.W.nsIn K mainGlobals "_law_alike" = some (some (.ref f_d9)))
    (l_d9 : K.lookup f_d9 = some ⟨oc_d9, od_d9, .func (PySem.W.fnOf "_law_alike" "_law_alike" (defArgs s_law_alike) (defBody s_law_alike) (defScope s_law_alike) .none kV_d9 dc_d9 pm_d9 an_d9 cd_d9 ct_d9), sl_d9⟩)
    (c_d9 : PySem.W.codeIn K cd_d9 "_law_alike" = true)
    (k_d9 : PySem.W.keepIn K (.ref f_d9) = true)
    (a_d10 : PySem.W.nsIn K mainGlobals "_law_graph" = some (some (.ref f_d10)))
    (l_d10 : K.lookup f_d10 = some ⟨oc_d10, od_d10, .func (PySem.W.fnOf "_law_graph" "_law_graph" (defArgs s_law_graph) (defBody s_law_graph) (defScope s_law_graph) .none kV_d10 dc_d10 pm_d10 an_d10 cd_d10 ct_d10), sl_d10⟩)
    (c_d10 : PySem.W.codeIn K cd_d10 "_law_graph" = true)
    (k_d10 : PySem.W.keepIn K (.ref f_d10) = true)
    (a_d11 : PySem.W.nsIn K mainGlobals "_law_node" = some (some (.ref f_d11)))
    (l_d11 : K.lookup f_d11 = some ⟨oc_d11, od_d11, .func (PySem.W.fnOf "_law_node" "_law_node" (defArgs s_law_node) (defBody s_law_node) (defScope s_law_node) .none kV_d11 dc_d11 pm_d11 an_d11 cd_d11 ct_d11), sl_d11⟩)
    (c_d11 : PySem.W.codeIn K cd_d11 "_law_node" = true)
    (k_d11 : PySem.W.keepIn K (.ref f_d11) = true)
    (a_d12 : PySem.W.nsIn K mainGlobals "_law_applied" = some (some (.ref f_d12)))
    (l_d12 : K.lookup f_d12 = some ⟨oc_d12, od_d12, .func (PySem.W.fnOf "_law_applied" "_law_applied" (defArgs s_law_applied) (defBody s_law_applied) (defScope s_law_applied) .none kV_d12 dc_d12 pm_d12 an_d12 cd_d12 ct_d12), sl_d12⟩)
    (c_d12 : PySem.W.codeIn K cd_d12 "_law_applied" = true)
    (k_d12 : PySem.W.keepIn K (.ref f_d12) = true)
    (a_d13 : PySem.W.nsIn K mainGlobals "_law_worths" = some (some (.ref f_d13)))
    (l_d13 : K.lookup f_d13 = some ⟨oc_d13, od_d13, .func (PySem.W.fnOf "_law_worths" "_law_worths" (defArgs s_law_worths) (defBody s_law_worths) (defScope s_law_worths) .none kV_d13 dc_d13 pm_d13 an_d13 cd_d13 ct_d13), sl_d13⟩)
    (c_d13 : PySem.W.codeIn K cd_d13 "_law_worths" = true)
    (k_d13 : PySem.W.keepIn K (.ref f_d13) = true)
    (a_d14 : PySem.W.nsIn K mainGlobals "_law_drawn_terms" = some (some (.ref f_d14)))
    (l_d14 : K.lookup f_d14 = some ⟨oc_d14, od_d14, .func (PySem.W.fnOf "_law_drawn_terms" "_law_drawn_terms" (defArgs s_law_drawn_terms) (defBody s_law_drawn_terms) (defScope s_law_drawn_terms) .none kV_d14 dc_d14 pm_d14 an_d14 cd_d14 ct_d14), sl_d14⟩)
    (c_d14 : PySem.W.codeIn K cd_d14 "_law_drawn_terms" = true)
    (k_d14 : PySem.W.keepIn K (.ref f_d14) = true)
    (a_d15 : PySem.W.nsIn K mainGlobals "_law_plus" = some (some (.ref f_d15)))
    (l_d15 : K.lookup f_d15 = some ⟨oc_d15, od_d15, .func (PySem.W.fnOf "_law_plus" "_law_plus" (defArgs s_law_plus) (defBody s_law_plus) (defScope s_law_plus) .none kV_d15 dc_d15 pm_d15 an_d15 cd_d15 ct_d15), sl_d15⟩)
    (c_d15 : PySem.W.codeIn K cd_d15 "_law_plus" = true)
    (k_d15 : PySem.W.keepIn K (.ref f_d15) = true)
    (a_d16 : PySem.W.nsIn K mainGlobals "_law_linear" = some (some (.ref f_d16)))
    (l_d16 : K.lookup f_d16 = some ⟨oc_d16, od_d16, .func (PySem.W.fnOf "_law_linear" "_law_linear" (defArgs s_law_linear) (defBody s_law_linear) (defScope s_law_linear) .none kV_d16 dc_d16 pm_d16 an_d16 cd_d16 ct_d16), sl_d16⟩)
    (c_d16 : PySem.W.codeIn K cd_d16 "_law_linear" = true)
    (k_d16 : PySem.W.keepIn K (.ref f_d16) = true)
    (a_d17 : PySem.W.nsIn K mainGlobals "_law_told_linear" = some (some (.ref f_d17)))
    (l_d17 : K.lookup f_d17 = some ⟨oc_d17, od_d17, .func (PySem.W.fnOf "_law_told_linear" "_law_told_linear" (defArgs s_law_told_linear) (defBody s_law_told_linear) (defScope s_law_told_linear) .none kV_d17 dc_d17 pm_d17 an_d17 cd_d17 ct_d17), sl_d17⟩)
    (c_d17 : PySem.W.codeIn K cd_d17 "_law_told_linear" = true)
    (k_d17 : PySem.W.keepIn K (.ref f_d17) = true)
    (a_d18 : PySem.W.nsIn K mainGlobals "_law_made" = some (some (.ref f_d18)))
    (l_d18 : K.lookup f_d18 = some ⟨oc_d18, od_d18, .func (PySem.W.fnOf "_law_made" "_law_made" (defArgs s_law_made) (defBody s_law_made) (defScope s_law_made) .none kV_d18 dc_d18 pm_d18 an_d18 cd_d18 ct_d18), sl_d18⟩)
    (c_d18 : PySem.W.codeIn K cd_d18 "_law_made" = true)
    (k_d18 : PySem.W.keepIn K (.ref f_d18) = true)
    (a_d19 : PySem.W.nsIn K mainGlobals "law" = some (some (.ref f_d19)))
    (l_d19 : K.lookup f_d19 = some ⟨oc_d19, od_d19, .func (PySem.W.fnOf "law" "law" (defArgs s_law) (defBody s_law) (defScope s_law) .none kV_d19 dc_d19 pm_d19 an_d19 cd_d19 ct_d19), sl_d19⟩)
    (c_d19 : PySem.W.codeIn K cd_d19 "law" = true)
    (k_d19 : PySem.W.keepIn K (.ref f_d19) = true)
    (a_s0 : PySem.W.findIn K (.ref CS) "__init__" = some (some (.ref f_s0)))
    (i_s0 : PySem.W.isFn K (.ref f_s0) = true)
    (l_s0 : K.lookup f_s0 = some ⟨oc_s0, od_s0, .func (PySem.W.fnOf "__init__" "SumGraph.__init__" (defArgs (sS 0)) (defBody (sS 0)) (defScope (sS 0)) .none kV_s0 dc_s0 pm_s0 an_s0 cd_s0 ct_s0), sl_s0⟩)
    (c_s0 : PySem.W.codeIn K cd_s0 "SumGraph.__init__" = true)
    (k_s0 : PySem.W.keepIn K (.ref f_s0) = true)
    (a_s1 : PySem.W.findIn K (.ref CS) "atom_number" = some (some (.ref f_s1)))
    (i_s1 : PySem.W.isFn K (.ref f_s1) = true)
    (l_s1 : K.lookup f_s1 = some ⟨oc_s1, od_s1, .func (PySem.W.fnOf "atom_number" "SumGraph.atom_number" (defArgs (sS 1)) (defBody (sS 1)) (defScope (sS 1)) .none kV_s1 dc_s1 pm_s1 an_s1 cd_s1 ct_s1), sl_s1⟩)
    (c_s1 : PySem.W.codeIn K cd_s1 "SumGraph.atom_number" = true)
    (k_s1 : PySem.W.keepIn K (.ref f_s1) = true)
    (a_s2 : PySem.W.findIn K (.ref CS) "made" = some (some (.ref f_s2)))
    (i_s2 : PySem.W.isFn K (.ref f_s2) = true)
    (l_s2 : K.lookup f_s2 = some ⟨oc_s2, od_s2, .func (PySem.W.fnOf "made" "SumGraph.made" (defArgs (sS 2)) (defBody (sS 2)) (defScope (sS 2)) .none kV_s2 dc_s2 pm_s2 an_s2 cd_s2 ct_s2), sl_s2⟩)
    (c_s2 : PySem.W.codeIn K cd_s2 "SumGraph.made" = true)
    (k_s2 : PySem.W.keepIn K (.ref f_s2) = true)
    (a_s3 : PySem.W.findIn K (.ref CS) "linear" = some (some (.ref f_s3)))
    (i_s3 : PySem.W.isFn K (.ref f_s3) = true)
    (l_s3 : K.lookup f_s3 = some ⟨oc_s3, od_s3, .func (PySem.W.fnOf "linear" "SumGraph.linear" (defArgs (sS 3)) (defBody (sS 3)) (defScope (sS 3)) .none kV_s3 dc_s3 pm_s3 an_s3 cd_s3 ct_s3), sl_s3⟩)
    (c_s3 : PySem.W.codeIn K cd_s3 "SumGraph.linear" = true)
    (k_s3 : PySem.W.keepIn K (.ref f_s3) = true)
    (a_s4 : PySem.W.findIn K (.ref CS) "atom" = some (some (.ref f_s4)))
    (i_s4 : PySem.W.isFn K (.ref f_s4) = true)
    (l_s4 : K.lookup f_s4 = some ⟨oc_s4, od_s4, .func (PySem.W.fnOf "atom" "SumGraph.atom" (defArgs (sS 4)) (defBody (sS 4)) (defScope (sS 4)) .none kV_s4 dc_s4 pm_s4 an_s4 cd_s4 ct_s4), sl_s4⟩)
    (c_s4 : PySem.W.codeIn K cd_s4 "SumGraph.atom" = true)
    (k_s4 : PySem.W.keepIn K (.ref f_s4) = true)
    (a_s5 : PySem.W.findIn K (.ref CS) "many" = some (some (.ref f_s5)))
    (i_s5 : PySem.W.isFn K (.ref f_s5) = true)
    (l_s5 : K.lookup f_s5 = some ⟨oc_s5, od_s5, .func (PySem.W.fnOf "many" "SumGraph.many" (defArgs (sS 5)) (defBody (sS 5)) (defScope (sS 5)) .none kV_s5 dc_s5 pm_s5 an_s5 cd_s5 ct_s5), sl_s5⟩)
    (c_s5 : PySem.W.codeIn K cd_s5 "SumGraph.many" = true)
    (k_s5 : PySem.W.keepIn K (.ref f_s5) = true)
    (a_g0 : PySem.W.findIn K (.ref CG) "__init__" = some (some (.ref f_g0)))
    (i_g0 : PySem.W.isFn K (.ref f_g0) = true)
    (l_g0 : K.lookup f_g0 = some ⟨oc_g0, od_g0, .func (PySem.W.fnOf "__init__" "Graph.__init__" (defArgs (sG 0)) (defBody (sG 0)) (defScope (sG 0)) .none kV_g0 dc_g0 pm_g0 an_g0 cd_g0 ct_g0), sl_g0⟩)
    (c_g0 : PySem.W.codeIn K cd_g0 "Graph.__init__" = true)
    (k_g0 : PySem.W.keepIn K (.ref f_g0) = true)
    (a_g1 : PySem.W.findIn K (.ref CG) "numbered" = some (some (.ref f_g1)))
    (i_g1 : PySem.W.isFn K (.ref f_g1) = true)
    (l_g1 : K.lookup f_g1 = some ⟨oc_g1, od_g1, .func (PySem.W.fnOf "numbered" "Graph.numbered" (defArgs (sG 2)) (defBody (sG 2)) (defScope (sG 2)) .none kV_g1 dc_g1 pm_g1 an_g1 cd_g1 ct_g1), sl_g1⟩)
    (c_g1 : PySem.W.codeIn K cd_g1 "Graph.numbered" = true)
    (k_g1 : PySem.W.keepIn K (.ref f_g1) = true)
    (a_g2 : PySem.W.findIn K (.ref CG) "letter" = some (some (.ref f_g2)))
    (i_g2 : PySem.W.isFn K (.ref f_g2) = true)
    (l_g2 : K.lookup f_g2 = some ⟨oc_g2, od_g2, .func (PySem.W.fnOf "letter" "Graph.letter" (defArgs (sG 3)) (defBody (sG 3)) (defScope (sG 3)) .none kV_g2 dc_g2 pm_g2 an_g2 cd_g2 ct_g2), sl_g2⟩)
    (c_g2 : PySem.W.codeIn K cd_g2 "Graph.letter" = true)
    (k_g2 : PySem.W.keepIn K (.ref f_g2) = true)
    (a_g3 : PySem.W.findIn K (.ref CG) "node" = some (some (.ref f_g3)))
    (i_g3 : PySem.W.isFn K (.ref f_g3) = true)
    (l_g3 : K.lookup f_g3 = some ⟨oc_g3, od_g3, .func (PySem.W.fnOf "node" "Graph.node" (defArgs (sG 4)) (defBody (sG 4)) (defScope (sG 4)) .none kV_g3 dc_g3 pm_g3 an_g3 cd_g3 ct_g3), sl_g3⟩)
    (c_g3 : PySem.W.codeIn K cd_g3 "Graph.node" = true)
    (k_g3 : PySem.W.keepIn K (.ref f_g3) = true)
    (a_g4 : PySem.W.findIn K (.ref CG) "head_of" = some (some (.ref f_g4)))
    (i_g4 : PySem.W.isFn K (.ref f_g4) = true)
    (l_g4 : K.lookup f_g4 = some ⟨oc_g4, od_g4, .func (PySem.W.fnOf "head_of" "Graph.head_of" (defArgs (sG 5)) (defBody (sG 5)) (defScope (sG 5)) .none kV_g4 dc_g4 pm_g4 an_g4 cd_g4 ct_g4), sl_g4⟩)
    (c_g4 : PySem.W.codeIn K cd_g4 "Graph.head_of" = true)
    (k_g4 : PySem.W.keepIn K (.ref f_g4) = true)
    (a_g5 : PySem.W.findIn K (.ref CG) "is_letter" = some (some (.ref f_g5)))
    (i_g5 : PySem.W.isFn K (.ref f_g5) = true)
    (l_g5 : K.lookup f_g5 = some ⟨oc_g5, od_g5, .func (PySem.W.fnOf "is_letter" "Graph.is_letter" (defArgs (sG 6)) (defBody (sG 6)) (defScope (sG 6)) .none kV_g5 dc_g5 pm_g5 an_g5 cd_g5 ct_g5), sl_g5⟩)
    (c_g5 : PySem.W.codeIn K cd_g5 "Graph.is_letter" = true)
    (k_g5 : PySem.W.keepIn K (.ref f_g5) = true)
    (a_g6 : PySem.W.findIn K (.ref CG) "key_of" = some (some (.ref f_g6)))
    (i_g6 : PySem.W.isFn K (.ref f_g6) = true)
    (l_g6 : K.lookup f_g6 = some ⟨oc_g6, od_g6, .func (PySem.W.fnOf "key_of" "Graph.key_of" (defArgs (sG 7)) (defBody (sG 7)) (defScope (sG 7)) .none kV_g6 dc_g6 pm_g6 an_g6 cd_g6 ct_g6), sl_g6⟩)
    (c_g6 : PySem.W.codeIn K cd_g6 "Graph.key_of" = true)
    (k_g6 : PySem.W.keepIn K (.ref f_g6) = true)
    (a_g7 : PySem.W.findIn K (.ref CG) "op_of" = some (some (.ref f_g7)))
    (i_g7 : PySem.W.isFn K (.ref f_g7) = true)
    (l_g7 : K.lookup f_g7 = some ⟨oc_g7, od_g7, .func (PySem.W.fnOf "op_of" "Graph.op_of" (defArgs (sG 8)) (defBody (sG 8)) (defScope (sG 8)) .none kV_g7 dc_g7 pm_g7 an_g7 cd_g7 ct_g7), sl_g7⟩)
    (c_g7 : PySem.W.codeIn K cd_g7 "Graph.op_of" = true)
    (k_g7 : PySem.W.keepIn K (.ref f_g7) = true)
    (a_g8 : PySem.W.findIn K (.ref CG) "parts_of" = some (some (.ref f_g8)))
    (i_g8 : PySem.W.isFn K (.ref f_g8) = true)
    (l_g8 : K.lookup f_g8 = some ⟨oc_g8, od_g8, .func (PySem.W.fnOf "parts_of" "Graph.parts_of" (defArgs (sG 9)) (defBody (sG 9)) (defScope (sG 9)) .none kV_g8 dc_g8 pm_g8 an_g8 cd_g8 ct_g8), sl_g8⟩)
    (c_g8 : PySem.W.codeIn K cd_g8 "Graph.parts_of" = true)
    (k_g8 : PySem.W.keepIn K (.ref f_g8) = true)
    (pgS : PySem.W.plainGet K CS Str.empty = true)
    (hdS : PySem.W.hasDictIn K CS = true)
    (poS : PySem.W.plainOver K CS = true)
    (saS : PySem.W.findIn K (.ref CS) "__setattr__" = some (some (.builtin "object.__setattr__")))
    (mkS : PySem.W.makesIn K CS = true)
    (kcS : PySem.W.keepIn K (.ref CS) = true)
    (pgG : PySem.W.plainGet K CG Str.empty = true)
    (hdG : PySem.W.hasDictIn K CG = true)
    (poG : PySem.W.plainOver K CG = true)
    (saG : PySem.W.findIn K (.ref CG) "__setattr__" = some (some (.builtin "object.__setattr__")))
    (mkG : PySem.W.makesIn K CG = true)
    (kcG : PySem.W.keepIn K (.ref CG) = true)
    (nS_graph : PySem.W.findIn K (.ref CS) "graph" = some none)
    (nS_atoms : PySem.W.findIn K (.ref CS) "atoms" = some none)
    (nS_numbers : PySem.W.findIn K (.ref CS) "numbers" = some none)
    (nS_linears : PySem.W.findIn K (.ref CS) "linears" = some none)
    (nG_heads : PySem.W.findIn K (.ref CG) "heads" = some none)
    (nG_known_heads : PySem.W.findIn K (.ref CG) "known_heads" = some none)
    (z_len : PySem.W.nsIn K mainGlobals "len" = some none)
    (z_dict : PySem.W.nsIn K mainGlobals "dict" = some none)
    (z_int : PySem.W.nsIn K mainGlobals "int" = some none)
    (z_tuple : PySem.W.nsIn K mainGlobals "tuple" = some none)
    (z_list : PySem.W.nsIn K mainGlobals "list" = some none)
    (z_sorted : PySem.W.nsIn K mainGlobals "sorted" = some none)
    (z_repr : PySem.W.nsIn K mainGlobals "repr" = some none)
    (z_abs : PySem.W.nsIn K mainGlobals "abs" = some none)
    (z_sum : PySem.W.nsIn K mainGlobals "sum" = some none)
    (z_range : PySem.W.nsIn K mainGlobals "range" = some none)
    (zM : PySem.W.nsIn K mainGlobals "MOST_NODES" = some (some (.int 3000 mt))) :
    ∃ fd : FuncData, (∀ (s : Shared) (v : Value), BindsTo s fd ⟨[v], []⟩ [("script", v)]) ∧ ∀ base : Heap, K.In base → base.Ns mainGlobals mg → FnG l.prog w K mg base 40 fa fd ["script"] (spLaw K) := by
  have e := hfa.symm.trans (PySem.W.mg_of X G a_d19)
  cases e
  have B : Bl mg := ⟨PySem.W.mg_none_of X G z_len, PySem.W.mg_none_of X G z_dict, PySem.W.mg_none_of X G z_int, PySem.W.mg_none_of X G z_tuple, PySem.W.mg_none_of X G z_list, PySem.W.mg_none_of X G z_sorted, PySem.W.mg_none_of X G z_repr, PySem.W.mg_none_of X G z_abs, PySem.W.mg_none_of X G z_sum, PySem.W.mg_none_of X G z_range⟩
  let c : CC := ⟨CS, CG⟩
  have TS : ClS K c := ⟨⟨pgS, hdS, poS, saS⟩, ⟨pgG, hdG, poG, saG⟩, fun n hn => by
    simp only [List.mem_cons, List.not_mem_nil, or_false] at hn
    rcases hn with rfl | rfl | rfl | rfl
    · exact nS_graph
    · exact nS_atoms
    · exact nS_numbers
    · exact nS_linears⟩
  have TA : Cl K CS attS := ⟨⟨pgS, hdS, poS, saS⟩, TS.no⟩
  have TG : ClG K CG := ⟨⟨pgG, hdG, poG, saG⟩, fun n hn => by
    simp only [List.mem_cons, List.not_mem_nil, or_false] at hn
    rcases hn with rfl | rfl
    · exact nG_heads
    · exact nG_known_heads⟩
  have F_d0 := fun_mk (st := s_scaled) l_d0 c_d0 k_d0
  have b_d0 := F_d0.binds (ps := ["one", "factor"]) fun _ _ _ _ _ _ us hl => match us, hl with | [_, _], _ => rfl
  have F_d1 := fun_mk (st := s_added) l_d1 c_d1 k_d1
  have b_d1 := F_d1.binds (ps := ["one", "other"]) fun _ _ _ _ _ _ us hl => match us, hl with | [_, _], _ => rfl
  have F_d2 := fun_mk (st := s_linear_of) l_d2 c_d2 k_d2
  have b_d2 := F_d2.binds (ps := ["constant", "terms"]) fun _ _ _ _ _ _ us hl => match us, hl with | [_, _], _ => rfl
  have F_d3 := fun_mk (st := s_is_sum) l_d3 c_d3 k_d3
  have b_d3 := F_d3.binds (ps := ["op", "many"]) fun _ _ _ _ _ _ us hl => match us, hl with | [_, _], _ => rfl
  have F_d4 := fun_mk (st := s_sum_linear) l_d4 c_d4 k_d4
  have b_d4 := F_d4.binds (ps := ["op", "parts"]) fun _ _ _ _ _ _ us hl => match us, hl with | [_, _], _ => rfl
  have F_d5 := fun_mk (st := s_law_bag) l_d5 c_d5 k_d5
  have b_d5 := F_d5.binds (ps := ["script"]) fun _ _ _ _ _ _ us hl => match us, hl with | [_], _ => rfl
  have F_d6 := fun_mk (st := s_law_take) l_d6 c_d6 k_d6
  have b_d6 := F_d6.binds (ps := ["bag", "many"]) fun _ _ _ _ _ _ us hl => match us, hl with | [_, _], _ => rfl
  have F_d7 := fun_mk (st := s_law_some) l_d7 c_d7 k_d7
  have b_d7 := F_d7.binds (ps := ["bag", "things"]) fun _ _ _ _ _ _ us hl => match us, hl with | [_, _], _ => rfl
  have F_d8 := fun_mk (st := s_law_mixed) l_d8 c_d8 k_d8
  have b_d8 := F_d8.binds (ps := ["bag", "things"]) fun _ _ _ _ _ _ us hl => match us, hl with | [_, _], _ => rfl
  have F_d9 := fun_mk (st := s_law_alike) l_d9 c_d9 k_d9
  have b_d9 := F_d9.binds (ps := ["found", "due"]) fun _ _ _ _ _ _ us hl => match us, hl with | [_, _], _ => rfl
  have F_d10 := fun_mk (st := s_law_graph) l_d10 c_d10 k_d10
  have b_d10 := F_d10.binds (ps := []) fun _ _ _ _ _ _ us hl => match us, hl with | [], _ => rfl
  have F_d11 := fun_mk (st := s_law_node) l_d11 c_d11 k_d11
  have b_d11 := F_d11.binds (ps := ["graph", "key"]) fun _ _ _ _ _ _ us hl => match us, hl with | [_, _], _ => rfl
  have F_d12 := fun_mk (st := s_law_applied) l_d12 c_d12 k_d12
  have b_d12 := F_d12.binds (ps := ["meaning", "o", "parts"]) fun _ _ _ _ _ _ us hl => match us, hl with | [_, _, _], _ => rfl
  have F_d13 := fun_mk (st := s_law_worths) l_d13 c_d13 k_d13
  have b_d13 := F_d13.binds (ps := ["graph", "meaning", "reads"]) fun _ _ _ _ _ _ us hl => match us, hl with | [_, _, _], _ => rfl
  have F_d14 := fun_mk (st := s_law_drawn_terms) l_d14 c_d14 k_d14
  have b_d14 := F_d14.binds (ps := ["bag", "many"]) fun _ _ _ _ _ _ us hl => match us, hl with | [_, _], _ => rfl
  have F_d15 := fun_mk (st := s_law_plus) l_d15 c_d15 k_d15
  have b_d15 := F_d15.binds (ps := ["one", "other", "many"]) fun _ _ _ _ _ _ us hl => match us, hl with | [_, _, _], _ => rfl
  have F_d16 := fun_mk (st := s_law_linear) l_d16 c_d16 k_d16
  have b_d16 := F_d16.binds (ps := ["keys", "at", "atoms", "found"]) fun _ _ _ _ _ _ us hl => match us, hl with | [_, _, _, _], _ => rfl
  have F_d17 := fun_mk (st := s_law_told_linear) l_d17 c_d17 k_d17
  have b_d17 := F_d17.binds (ps := ["one"]) fun _ _ _ _ _ _ us hl => match us, hl with | [_], _ => rfl
  have F_d18 := fun_mk (st := s_law_made) l_d18 c_d18 k_d18
  have b_d18 := F_d18.binds (ps := ["graph", "keys"]) fun _ _ _ _ _ _ us hl => match us, hl with | [_, _], _ => rfl
  have F_d19 := fun_mk (st := s_law) l_d19 c_d19 k_d19
  have b_d19 := F_d19.binds (ps := ["script"]) fun _ _ _ _ _ _ us hl => match us, hl with | [_], _ => rfl
  have F_s0 := fun_mk (st := (sS 0)) l_s0 c_s0 k_s0
  have b_s0 := F_s0.binds (ps := ["self", "graph"]) fun _ _ _ _ _ _ us hl => match us, hl with | [_, _], _ => rfl
  have F_s1 := fun_mk (st := (sS 1)) l_s1 c_s1 k_s1
  have b_s1 := F_s1.binds (ps := ["self", "told"]) fun _ _ _ _ _ _ us hl => match us, hl with | [_, _], _ => rfl
  have F_s2 := fun_mk (st := (sS 2)) l_s2 c_s2 k_s2
  have b_s2 := F_s2.binds (ps := ["self", "op", "parts"]) fun _ _ _ _ _ _ us hl => match us, hl with | [_, _, _], _ => rfl
  have F_s3 := fun_mk (st := (sS 3)) l_s3 c_s3 k_s3
  have b_s3 := F_s3.binds (ps := ["self", "node"]) fun _ _ _ _ _ _ us hl => match us, hl with | [_, _], _ => rfl
  have F_s4 := fun_mk (st := (sS 4)) l_s4 c_s4 k_s4
  have b_s4 := F_s4.binds (ps := ["self", "number"]) fun _ _ _ _ _ _ us hl => match us, hl with | [_, _], _ => rfl
  have F_s5 := fun_mk (st := (sS 5)) l_s5 c_s5 k_s5
  have b_s5 := F_s5.binds (ps := ["self"]) fun _ _ _ _ _ _ us hl => match us, hl with | [_], _ => rfl
  have F_g0 := fun_mk (st := (sG 0)) l_g0 c_g0 k_g0
  have b_g0 := F_g0.binds (ps := ["self"]) fun _ _ _ _ _ _ us hl => match us, hl with | [_], _ => rfl
  have F_g1 := fun_mk (st := (sG 2)) l_g1 c_g1 k_g1
  have b_g1 := F_g1.binds (ps := ["self", "head"]) fun _ _ _ _ _ _ us hl => match us, hl with | [_, _], _ => rfl
  have F_g2 := fun_mk (st := (sG 3)) l_g2 c_g2 k_g2
  have b_g2 := F_g2.binds (ps := ["self", "key"]) fun _ _ _ _ _ _ us hl => match us, hl with | [_, _], _ => rfl
  have F_g3 := fun_mk (st := (sG 4)) l_g3 c_g3 k_g3
  have b_g3 := F_g3.binds (ps := ["self", "op", "parts"]) fun _ _ _ _ _ _ us hl => match us, hl with | [_, _, _], _ => rfl
  have F_g4 := fun_mk (st := (sG 5)) l_g4 c_g4 k_g4
  have b_g4 := F_g4.binds (ps := ["self", "n"]) fun _ _ _ _ _ _ us hl => match us, hl with | [_, _], _ => rfl
  have F_g5 := fun_mk (st := (sG 6)) l_g5 c_g5 k_g5
  have b_g5 := F_g5.binds (ps := ["self", "n"]) fun _ _ _ _ _ _ us hl => match us, hl with | [_, _], _ => rfl
  have F_g6 := fun_mk (st := (sG 7)) l_g6 c_g6 k_g6
  have b_g6 := F_g6.binds (ps := ["self", "n"]) fun _ _ _ _ _ _ us hl => match us, hl with | [_, _], _ => rfl
  have F_g7 := fun_mk (st := (sG 8)) l_g7 c_g7 k_g7
  have b_g7 := F_g7.binds (ps := ["self", "n"]) fun _ _ _ _ _ _ us hl => match us, hl with | [_, _], _ => rfl
  have F_g8 := fun_mk (st := (sG 9)) l_g8 c_g8 k_g8
  have b_g8 := F_g8.binds (ps := ["self", "n"]) fun _ _ _ _ _ _ us hl => match us, hl with | [_, _], _ => rfl
  refine ⟨PySem.W.fnOf "law" "law" (defArgs s_law) (defBody s_law) (defScope s_law) .none kV_d19 dc_d19 pm_d19 an_d19 cd_d19 ct_d19, fun s v => .of_eq rfl, fun base _ _ => ?_⟩
  have Dscaled : Df l.prog w K mg base 1 "scaled" f_d0 _ ["one", "factor"] spScaled := ⟨PySem.W.mg_of X G a_d0, k_d0, b_d0, ok_scaled F_d0⟩
  have Dadded : Df l.prog w K mg base 1 "added" f_d1 _ ["one", "other"] spAdded := ⟨PySem.W.mg_of X G a_d1, k_d1, b_d1, ok_added B F_d1⟩
  have Dlinear_of : Df l.prog w K mg base 1 "linear_of" f_d2 _ ["constant", "terms"] spLinearOf := ⟨PySem.W.mg_of X G a_d2, k_d2, b_d2, ok_linear_of B F_d2⟩
  have Dis_sum : Df l.prog w K mg base 1 "is_sum" f_d3 _ ["op", "many"] spIsSum := ⟨PySem.W.mg_of X G a_d3, k_d3, b_d3, ok_is_sum F_d3⟩
  have Dsum_linear : Df l.prog w K mg base 2 "sum_linear" f_d4 _ ["op", "parts"] spSumLinear := ⟨PySem.W.mg_of X G a_d4, k_d4, b_d4, ok_sum_linear B F_d4 Dlinear_of Dscaled Dadded⟩
  have Datom_number : Mf l.prog w K mg base 1 CS "atom_number" f_s1 _ ["self", "told"] (spAtomNumber w CS) := ⟨⟨a_s1, i_s1, k_s1⟩, b_s1, ok_atom_number B TA F_s1⟩
  have Dmade : Mf l.prog w K mg base 3 CS "made" f_s2 _ ["self", "op", "parts"] (spMade w c) := ⟨⟨a_s2, i_s2, k_s2⟩, b_s2, ok_made B TS F_s2 Dis_sum Dsum_linear Datom_number⟩
  have Dnumbered : Mf l.prog w K mg base 1 CG "numbered" f_g1 _ ["self", "head"] (spNumbered w CG) := ⟨⟨a_g1, i_g1, k_g1⟩, b_g1, ok_numbered (PySem.W.mg_of X G zM) B TG F_g1⟩
  have Dhead_of : Mf l.prog w K mg base 1 CG "head_of" f_g4 _ ["self", "n"] (spHeadOf w CG) := ⟨⟨a_g4, i_g4, k_g4⟩, b_g4, ok_head_of B TG F_g4⟩
  have Dletter : Mf l.prog w K mg base 2 CG "letter" f_g2 _ ["self", "key"] (spLetter w CG) := ⟨⟨a_g2, i_g2, k_g2⟩, b_g2, ok_letter B TG F_g2 Dnumbered⟩
  have Dnode : Mf l.prog w K mg base 2 CG "node" f_g3 _ ["self", "op", "parts"] (spNode w CG) := ⟨⟨a_g3, i_g3, k_g3⟩, b_g3, ok_node B TG F_g3 Dnumbered Dhead_of⟩
  have Dis_letter : Mf l.prog w K mg base 2 CG "is_letter" f_g5 _ ["self", "n"] (spIsLetter w CG) := ⟨⟨a_g5, i_g5, k_g5⟩, b_g5, ok_is_letter B TG F_g5 Dhead_of⟩
  have Dkey_of : Mf l.prog w K mg base 2 CG "key_of" f_g6 _ ["self", "n"] (spKeyOf w CG) := ⟨⟨a_g6, i_g6, k_g6⟩, b_g6, ok_key_of B TG F_g6 Dhead_of⟩
  have Dop_of : Mf l.prog w K mg base 2 CG "op_of" f_g7 _ ["self", "n"] (spOpOf w CG) := ⟨⟨a_g7, i_g7, k_g7⟩, b_g7, ok_op_of B TG F_g7 Dhead_of⟩
  have Dparts_of : Mf l.prog w K mg base 2 CG "parts_of" f_g8 _ ["self", "n"] (spPartsOf w CG) := ⟨⟨a_g8, i_g8, k_g8⟩, b_g8, ok_parts_of B TG F_g8 Dhead_of⟩
  have Dlinear : Mf l.prog w K mg base 4 CS "linear" f_s3 _ ["self", "node"] (spSlinear w c) := ⟨⟨a_s3, i_s3, k_s3⟩, b_s3, ok_slinear B TS F_s3 Dmade Datom_number Dis_letter Dkey_of Dop_of Dparts_of⟩
  have Datom : Mf l.prog w K mg base 1 CS "atom" f_s4 _ ["self", "number"] (spSatom w c) := ⟨⟨a_s4, i_s4, k_s4⟩, b_s4, ok_satom TS F_s4⟩
  have Dmany : Mf l.prog w K mg base 1 CS "many" f_s5 _ ["self"] (spSmany w c) := ⟨⟨a_s5, i_s5, k_s5⟩, b_s5, ok_smany B TS F_s5⟩
  have D_law_bag : Df l.prog w K mg base 1 "_law_bag" f_d5 _ ["script"] (spBag K) := ⟨PySem.W.mg_of X G a_d5, k_d5, b_d5, ok_law_bag B F_d5⟩
  have D_law_take : Df l.prog w K mg base 1 "_law_take" f_d6 _ ["bag", "many"] spTake := ⟨PySem.W.mg_of X G a_d6, k_d6, b_d6, ok_law_take B F_d6⟩
  have D_law_some : Df l.prog w K mg base 2 "_law_some" f_d7 _ ["bag", "things"] spSome := ⟨PySem.W.mg_of X G a_d7, k_d7, b_d7, ok_law_some B F_d7 D_law_take⟩
  have D_law_mixed : Df l.prog w K mg base 2 "_law_mixed" f_d8 _ ["bag", "things"] spMixed := ⟨PySem.W.mg_of X G a_d8, k_d8, b_d8, ok_law_mixed B F_d8 D_law_take⟩
  have D_law_graph : Df l.prog w K mg base 1 "_law_graph" f_d10 _ [] (spGraphL w) := ⟨PySem.W.mg_of X G a_d10, k_d10, b_d10, ok_law_graph B F_d10⟩
  have D_law_node : Df l.prog w K mg base 1 "_law_node" f_d11 _ ["graph", "key"] (spNodeL w) := ⟨PySem.W.mg_of X G a_d11, k_d11, b_d11, ok_law_node B F_d11⟩
  have D_law_applied : Df l.prog w K mg base 1 "_law_applied" f_d12 _ ["meaning", "o", "parts"] spApplied := ⟨PySem.W.mg_of X G a_d12, k_d12, b_d12, ok_law_applied B F_d12⟩
  have D_law_worths : Df l.prog w K mg base 2 "_law_worths" f_d13 _ ["graph", "meaning", "reads"] spWorths := ⟨PySem.W.mg_of X G a_d13, k_d13, b_d13, ok_law_worths B F_d13 D_law_applied⟩
  have D_law_drawn_terms : Df l.prog w K mg base 3 "_law_drawn_terms" f_d14 _ ["bag", "many"] spDrawn := ⟨PySem.W.mg_of X G a_d14, k_d14, b_d14, ok_law_drawn_terms B F_d14 D_law_take D_law_some⟩
  have D_law_plus : Df l.prog w K mg base 1 "_law_plus" f_d15 _ ["one", "other", "many"] (spPlus l.prog w) := ⟨PySem.W.mg_of X G a_d15, k_d15, b_d15, ok_law_plus B F_d15⟩
  have D_law_told_linear : Df l.prog w K mg base 1 "_law_told_linear" f_d17 _ ["one"] (spTold l.prog w) := ⟨PySem.W.mg_of X G a_d17, k_d17, b_d17, ok_law_told_linear B F_d17⟩
  have D_law_linear : Df l.prog w K mg base 32 "_law_linear" f_d16 _ ["keys", "at", "atoms", "found"] (spLinear l.prog w 30) := ⟨PySem.W.mg_of X G a_d16, k_d16, b_d16, ok_law_linear B F_d16 (PySem.W.mg_of X G a_d16) k_d16 b_d16 D_law_plus D_law_told_linear 30⟩
  have D_law_made : Df l.prog w K mg base 3 "_law_made" f_d18 _ ["graph", "keys"] (spMadeL w CG) := ⟨PySem.W.mg_of X G a_d18, k_d18, b_d18, ok_law_made B TG F_d18 Dletter Dnode⟩
  have okA : FnG l.prog w K mg base 1 f_d9 _ ["found", "due"] spAlike := ok_law_alike B F_d9
  have GG0 : FnOk l.prog w K mg base CX0 1 f_g0 _ ["self"] (spGinit w CG) := ok_ginit TG F_g0
  have GS0 : FnOk l.prog w K mg base CX0 1 f_s0 _ ["self", "graph"] (spSinit w CS) := ok_sinit TS F_s0
  have TL : ClL K mg c f_g0 f_s0 := ⟨TS, ⟨mkG, a_g0, i_g0, kcG⟩, PySem.W.mg_of X G aG, ⟨mkS, a_s0, i_s0, kcS⟩, PySem.W.mg_of X G aS⟩
  exact ok_law B TL F_d19 D_law_bag D_law_drawn_terms D_law_some D_law_made D_law_mixed D_law_told_linear D_law_linear D_law_take D_law_graph D_law_node D_law_worths (PySem.W.mg_of X G a_d9) k_d9 b_d9 okA Dlinear Datom Dmany GG0 b_g0 GS0 b_s0
end R60
open PySem PySem.W PyProof.Rows
set_option maxRecDepth 100000 in
set_option maxHeartbeats 0 in
theorem PySem.Challenge.cw_runshown_k60_sums_of_graphs_holds : PySem.Challenge.rw_runshown_k60_sums_of_graphs.Holds := by
  w_on; o_law; k_head; (case hw => w_witness2)
  k_fill
  refine R60.walkG (l := PySem.Challenge.rw_runshown_k60_sums_of_graphs) (n := 63) (k := 40) (x := "script") (sp := fun w => R60.spLaw _) rfl (by decide) rfl ⟨rfl, by decide, by decide⟩ (fun w h Y => PySem.W.kIn_of Y) ?F (fun w H a ns hl _ hS => ⟨a, ns, rfl, hS, fun _ => rfl⟩)
  case F =>
    intro w mg fa h KX G hmg
    refine' R60.all_mk KX G hmg ?aS ?aG ?a_d0 ?l_d0 ?c_d0 ?k_d0 ?a_d1 ?l_d1 ?c_d1 ?k_d1 ?a_d2 ?l_d2 ?c_d2 ?k_d2 ?a_d3 ?l_d3 ?c_d3 ?k_d3 ?a_d4 ?l_d4 ?c_d4 ?k_d4 ?a_d5 ?l_d5 ?c_d5 ?k_d5 ?a_d6 ?l_d6 ?c_d6 ?k_d6 ?a_d7 ?l_d7 ?c_d7 ?k_d7 ?a_d8 ?l_d8 ?c_d8 ?k_d8 ?a_d9 ?l_d9 ?c_d9 ?k_d9 ?a_d10 ?l_d10 ?c_d10 ?k_d10 ?a_d11 ?l_d11 ?c_d11 ?k_d11 ?a_d12 ?l_d12 ?c_d12 ?k_d12 ?a_d13 ?l_d13 ?c_d13 ?k_d13 ?a_d14 ?l_d14 ?c_d14 ?k_d14 ?a_d15 ?l_d15 ?c_d15 ?k_d15 ?a_d16 ?l_d16 ?c_d16 ?k_d16 ?a_d17 ?l_d17 ?c_d17 ?k_d17 ?a_d18 ?l_d18 ?c_d18 ?k_d18 ?a_d19 ?l_d19 ?c_d19 ?k_d19 ?a_s0 ?i_s0 ?l_s0 ?c_s0 ?k_s0 ?a_s1 ?i_s1 ?l_s1 ?c_s1 ?k_s1 ?a_s2 ?i_s2 ?l_s2 ?c_s2 ?k_s2 ?a_s3 ?i_s3 ?l_s3 ?c_s3 ?k_s3 ?a_s4 ?i_s4 ?l_s4 ?c_s4 ?k_s4 ?a_s5 ?i_s5 ?l_s5 ?c_s5 ?k_s5 ?a_g0 ?i_g0 ?l_g0 ?c_g0 ?k_g0 ?a_g1 ?i_g1 ?l_g1 ?c_g1 ?k_g1 ?a_g2 ?i_g2 ?l_g2 ?c_g2 ?k_g2 ?a_g3 ?i_g3 ?l_g3 ?c_g3 ?k_g3 ?a_g4 ?i_g4 ?l_g4 ?c_g4 ?k_g4 ?a_g5 ?i_g5 ?l_g5 ?c_g5 ?k_g5 ?a_g6 ?i_g6 ?l_g6 ?c_g6 ?k_g6 ?a_g7 ?i_g7 ?l_g7 ?c_g7 ?k_g7 ?a_g8 ?i_g8 ?l_g8 ?c_g8 ?k_g8 ?pgS ?hdS ?poS ?saS ?mkS ?kcS ?pgG ?hdG ?poG ?saG ?mkG ?kcG ?nS_graph ?nS_atoms ?nS_numbers ?nS_linears ?nG_heads ?nG_known_heads ?z_len ?z_dict ?z_int ?z_tuple ?z_list ?z_sorted ?z_repr ?z_abs ?z_sum ?z_range ?zM
    (case aS => k_is)
    (case aG => k_is)
    (case a_d0 => k_is)
    (case l_d0 => k_is)
    (case c_d0 => k_is)
    (case k_d0 => k_is)
    (case a_d1 => k_is)
    (case l_d1 => k_is)
    (case c_d1 => k_is)
    (case k_d1 => k_is)
    (case a_d2 => k_is)
    (case l_d2 => k_is)
    (case c_d2 => k_is)
    (case k_d2 => k_is)
    (case a_d3 => k_is)
    (case l_d3 => k_is)
    (case c_d3 => k_is)
    (case k_d3 => k_is)
    (case a_d4 => k_is)
    (case l_d4 => k_is)
    (case c_d4 => k_is)
    (case k_d4 => k_is)
    (case a_d5 => k_is)
    (case l_d5 => k_is)
    (case c_d5 => k_is)
    (case k_d5 => k_is)
    (case a_d6 => k_is)
    (case l_d6 => k_is)
    (case c_d6 => k_is)
    (case k_d6 => k_is)
    (case a_d7 => k_is)
    (case l_d7 => k_is)
    (case c_d7 => k_is)
    (case k_d7 => k_is)
    (case a_d8 => k_is)
    (case l_d8 => k_is)
    (case c_d8 => k_is)
    (case k_d8 => k_is)
    (case a_d9 => k_is)
    (case l_d9 => k_is)
    (case c_d9 => k_is)
    (case k_d9 => k_is)
    (case a_d10 => k_is)
    (case l_d10 => k_is)
    (case c_d10 => k_is)
    (case k_d10 => k_is)
    (case a_d11 => k_is)
    (case l_d11 => k_is)
    (case c_d11 => k_is)
    (case k_d11 => k_is)
    (case a_d12 => k_is)
    (case l_d12 => k_is)
    (case c_d12 => k_is)
    (case k_d12 => k_is)
    (case a_d13 => k_is)
    (case l_d13 => k_is)
    (case c_d13 => k_is)
    (case k_d13 => k_is)
    (case a_d14 => k_is)
    (case l_d14 => k_is)
    (case c_d14 => k_is)
    (case k_d14 => k_is)
    (case a_d15 => k_is)
    (case l_d15 => k_is)
    (case c_d15 => k_is)
    (case k_d15 => k_is)
    (case a_d16 => k_is)
    (case l_d16 => k_is)
    (case c_d16 => k_is)
    (case k_d16 => k_is)
    (case a_d17 => k_is)
    (case l_d17 => k_is)
    (case c_d17 => k_is)
    (case k_d17 => k_is)
    (case a_d18 => k_is)
    (case l_d18 => k_is)
    (case c_d18 => k_is)
    (case k_d18 => k_is)
    (case a_d19 => k_is)
    (case l_d19 => k_is)
    (case c_d19 => k_is)
    (case k_d19 => k_is)
    (case a_s0 => k_is)
    (case i_s0 => k_is)
    (case l_s0 => k_is)
    (case c_s0 => k_is)
    (case k_s0 => k_is)
    (case a_s1 => k_is)
    (case i_s1 => k_is)
    (case l_s1 => k_is)
    (case c_s1 => k_is)
    (case k_s1 => k_is)
    (case a_s2 => k_is)
    (case i_s2 => k_is)
    (case l_s2 => k_is)
    (case c_s2 => k_is)
    (case k_s2 => k_is)
    (case a_s3 => k_is)
    (case i_s3 => k_is)
    (case l_s3 => k_is)
    (case c_s3 => k_is)
    (case k_s3 => k_is)
    (case a_s4 => k_is)
    (case i_s4 => k_is)
    (case l_s4 => k_is)
    (case c_s4 => k_is)
    (case k_s4 => k_is)
    (case a_s5 => k_is)
    (case i_s5 => k_is)
    (case l_s5 => k_is)
    (case c_s5 => k_is)
    (case k_s5 => k_is)
    (case a_g0 => k_is)
    (case i_g0 => k_is)
    (case l_g0 => k_is)
    (case c_g0 => k_is)
    (case k_g0 => k_is)
    (case a_g1 => k_is)
    (case i_g1 => k_is)
    (case l_g1 => k_is)
    (case c_g1 => k_is)
    (case k_g1 => k_is)
    (case a_g2 => k_is)
    (case i_g2 => k_is)
    (case l_g2 => k_is)
    (case c_g2 => k_is)
    (case k_g2 => k_is)
    (case a_g3 => k_is)
    (case i_g3 => k_is)
    (case l_g3 => k_is)
    (case c_g3 => k_is)
    (case k_g3 => k_is)
    (case a_g4 => k_is)
    (case i_g4 => k_is)
    (case l_g4 => k_is)
    (case c_g4 => k_is)
    (case k_g4 => k_is)
    (case a_g5 => k_is)
    (case i_g5 => k_is)
    (case l_g5 => k_is)
    (case c_g5 => k_is)
    (case k_g5 => k_is)
    (case a_g6 => k_is)
    (case i_g6 => k_is)
    (case l_g6 => k_is)
    (case c_g6 => k_is)
    (case k_g6 => k_is)
    (case a_g7 => k_is)
    (case i_g7 => k_is)
    (case l_g7 => k_is)
    (case c_g7 => k_is)
    (case k_g7 => k_is)
    (case a_g8 => k_is)
    (case i_g8 => k_is)
    (case l_g8 => k_is)
    (case c_g8 => k_is)
    (case k_g8 => k_is)
    (case pgS => k_is)
    (case hdS => k_is)
    (case poS => k_is)
    (case saS => k_is)
    (case mkS => k_is)
    (case kcS => k_is)
    (case pgG => k_is)
    (case hdG => k_is)
    (case poG => k_is)
    (case saG => k_is)
    (case mkG => k_is)
    (case kcG => k_is)
    (case nS_graph => k_is)
    (case nS_atoms => k_is)
    (case nS_numbers => k_is)
    (case nS_linears => k_is)
    (case nG_heads => k_is)
    (case nG_known_heads => k_is)
    (case z_len => k_is)
    (case z_dict => k_is)
    (case z_int => k_is)
    (case z_tuple => k_is)
    (case z_list => k_is)
    (case z_sorted => k_is)
    (case z_repr => k_is)
    (case z_abs => k_is)
    (case z_sum => k_is)
    (case z_range => k_is)
    (case zM => k_is)
