import PyProof.Rows.All
import Wide.All
import OpenK.AllK
import Wide.FinOn
import HandS.ForMost
import HandS.TupAny
import HandS.TupMul
import HandS.Style
import HandS.Flow
import HandS.Wide
import HandS.Walk
import HandS.Zip
import HandS.IsInst
import HandS.More
import KE.GoesZip
import KE.GoesMore
import KE.GoesEnum
import HandS.DictTup
import KE.KSortTupAny
import HandS.Head2
import HandS.HeadHook4
import PySem.Challenge.RW_samemeant_k16_lets_of_lets_are_turned
set_option Elab.async false
set_option linter.all false
set_option maxRecDepth 100000
set_option maxHeartbeats 16000000
namespace Pl
open PySem PySem.Spec PyProof.Rows L2

/-- data: what can't change is a tree, what can is a place in the store -/
inductive D where
  | non | bl (b : Bool) | int (i : Int) | str (x : Str)
  | tup (xs : List D) | lst (xs : List D) | frz (xs : List D)
  | ref (n : Nat)
inductive Ob where
  | lst (xs : List D) | dct (kvs : List (Key × D))
abbrev Mu := List Ob
abbrev En := List (Option D)
/-- the written part; addresses that no data may lean on -/
structure Kp where
  fr : PySem.W.Frag
  hid : List Addr

mutual
/-- a value stands for data; ρ has the addresses of the store -/
inductive Rp (K : Kp) (H : Hp) (ρ : List Addr) : V → D → Prop
  | non : Rp K H ρ .non .non
  | bl (b : Bool) : Rp K H ρ (.bl b) (.bl b)
  | int (i : Int) : Rp K H ρ (.int i) (.int i)
  | str (x : Str) : Rp K H ρ (.str x) (.str x)
  | tup {a : Addr} {vs : List V} {ds : List D} : H a = some (.tup vs) → (a ∉ ρ ∧ a ∉ K.hid) → ds.length ≤ sizeLine → RpL K H ρ vs ds → Rp K H ρ (.ref a) (.tup ds)
  | lst {a : Addr} {vs : List V} {ds : List D} : H a = some (.lst vs) → (a ∉ ρ ∧ a ∉ K.hid) → ds.length ≤ sizeLine → RpL K H ρ vs ds → Rp K H ρ (.ref a) (.lst ds)
  | frz {a : Addr} {vs : List V} {ds : List D} : (SqL K.fr (fun _ => none) a vs ∨ ∃ o, H a = some (.frz o (.lst vs)) ∧ a ∉ ρ ∧ a ∉ K.hid) → ds.length ≤ sizeLine → RpL K H ρ vs ds → Rp K H ρ (.ref a) (.frz ds)
  | ref {a : Addr} {n : Nat} : ρ[n]? = some a → Rp K H ρ (.ref a) (.ref n)
inductive RpL (K : Kp) (H : Hp) (ρ : List Addr) : List V → List D → Prop
  | nil : RpL K H ρ [] []
  | cons {v : V} {d : D} {vs : List V} {ds : List D} : Rp K H ρ v d → RpL K H ρ vs ds → RpL K H ρ (v :: vs) (d :: ds)
end

/-- the heap has grown: what was no part of the store is as it was -/
structure Ext (ρ : List Addr) (H : Hp) (ρ' : List Addr) (H' : Hp) : Prop where
  pre : ∃ t, ρ' = ρ ++ t
  keep : ∀ a o, H a = some o → a ∉ ρ → H' a = some o ∧ a ∉ ρ'
theorem Ext.refl (ρ : List Addr) (H : Hp) : Ext ρ H ρ H := ⟨⟨[], by simp⟩, fun _ _ h n => ⟨h, n⟩⟩
theorem Ext.trans {ρ ρ1 ρ2 : List Addr} {H H1 H2 : Hp} (a : Ext ρ H ρ1 H1) (b : Ext ρ1 H1 ρ2 H2) : Ext ρ H ρ2 H2 := by
  obtain ⟨t, ht⟩ := a.pre
  obtain ⟨u, hu⟩ := b.pre
  refine ⟨⟨t ++ u, by rw [hu, ht, List.append_assoc]⟩, fun c o h n => ?_⟩
  obtain ⟨h1, n1⟩ := a.keep c o h n
  exact b.keep c o h1 n1
theorem Ext.get {ρ ρ' : List Addr} {H H' : Hp} (a : Ext ρ H ρ' H') {n : Nat} {x : Addr} (h : ρ[n]? = some x) : ρ'[n]? = some x := by
  obtain ⟨t, ht⟩ := a.pre
  have hn : n < ρ.length := (List.getElem?_eq_some_iff.mp h).1
  rw [ht, List.getElem?_append_left hn]
  exact h
/-- the same, but for what is hidden -/
structure ExtH (φ ρ : List Addr) (H : Hp) (ρ' : List Addr) (H' : Hp) : Prop where
  pre : ∃ t, ρ' = ρ ++ t
  keep : ∀ a o, H a = some o → a ∉ ρ → a ∉ φ → H' a = some o ∧ a ∉ ρ'
theorem Ext.toH {ρ ρ' : List Addr} {H H' : Hp} (e : Ext ρ H ρ' H') (φ : List Addr) : ExtH φ ρ H ρ' H' := ⟨e.pre, fun a o h n _ => e.keep a o h n⟩
theorem ExtH.get {φ ρ ρ' : List Addr} {H H' : Hp} (a : ExtH φ ρ H ρ' H') {n : Nat} {x : Addr} (h : ρ[n]? = some x) : ρ'[n]? = some x := by
  obtain ⟨t, rfl⟩ := a.pre
  rw [List.getElem?_append_left (List.getElem?_eq_some_iff.mp h).1]
  exact h
theorem ExtH.trans {φ ρ ρ1 ρ2 : List Addr} {H H1 H2 : Hp} (a : ExtH φ ρ H ρ1 H1) (b : ExtH φ ρ1 H1 ρ2 H2) : ExtH φ ρ H ρ2 H2 := by
  obtain ⟨t, ht⟩ := a.pre
  obtain ⟨u, hu⟩ := b.pre
  refine ⟨⟨t ++ u, by rw [hu, ht, List.append_assoc]⟩, fun x o h n m => ?_⟩
  obtain ⟨h1, n1⟩ := a.keep x o h n m
  exact b.keep x o h1 n1 m
theorem ExtH.upd {φ ρ : List Addr} {H : Hp} {p : Addr} {o : HO} (hp : p ∈ φ) : ExtH φ ρ H ρ (upd H p o) :=
  ⟨⟨[], by simp⟩, fun a u h n m => ⟨by rw [upd_ne (fun e => m (by rw [e]; exact hp))]; exact h, n⟩⟩
/-- something new that is no part of the store -/
theorem Ext.new {ρ : List Addr} {H : Hp} {p : Addr} {o : HO} (hp : H p = none) : Ext ρ H ρ (upd H p o) :=
  ⟨⟨[], by simp⟩, fun a u h n => ⟨by rw [upd_ne (ne_of_none h hp)]; exact h, n⟩⟩
/-- something new that is -/
theorem Ext.newR {ρ : List Addr} {H : Hp} {p : Addr} {o : HO} (hp : H p = none) : Ext ρ H (ρ ++ [p]) (upd H p o) :=
  ⟨⟨[p], rfl⟩, fun a u h n => ⟨by rw [upd_ne (ne_of_none h hp)]; exact h, by
    have := ne_of_none h hp
    simp only [List.mem_append, List.mem_singleton, not_or]
    exact ⟨n, this⟩⟩⟩
/-- a part of the store is written -/
theorem Ext.put {ρ : List Addr} {H : Hp} {p : Addr} {o : HO} (hp : p ∈ ρ) : Ext ρ H ρ (upd H p o) :=
  ⟨⟨[], by simp⟩, fun a u h n => ⟨by rw [upd_ne (fun e => n (by rw [e]; exact hp))]; exact h, n⟩⟩

section
variable {K : Kp} {H H' : Hp} {ρ ρ' : List Addr}
theorem sqL_emp {a : Addr} {vs : List V} (h : SqL K.fr (fun _ => none) a vs) (H' : Hp) : SqL K.fr H' a vs := by
  rcases h with (h | ⟨o, h⟩) | h
  · cases h
  · cases h
  · exact .inr h
mutual
theorem Rp.mono (e : Ext ρ H ρ' H') : ∀ {v : V} {d : D}, Rp K H ρ v d → Rp K H' ρ' v d
  | _, _, .non => .non
  | _, _, .bl b => .bl b
  | _, _, .int i => .int i
  | _, _, .str x => .str x
  | _, _, .tup h n z r => .tup (e.keep _ _ h n.1).1 ⟨(e.keep _ _ h n.1).2, n.2⟩ z (RpL.mono e r)
  | _, _, .lst h n z r => .lst (e.keep _ _ h n.1).1 ⟨(e.keep _ _ h n.1).2, n.2⟩ z (RpL.mono e r)
  | _, _, .frz h z r => .frz (h.imp id fun ⟨o, h, n, m⟩ => ⟨o, (e.keep _ _ h n).1, (e.keep _ _ h n).2, m⟩) z (RpL.mono e r)
  | _, _, .ref h => .ref (e.get h)
theorem RpL.mono (e : Ext ρ H ρ' H') : ∀ {vs : List V} {ds : List D}, RpL K H ρ vs ds → RpL K H' ρ' vs ds
  | _, _, .nil => .nil
  | _, _, .cons h t => .cons (Rp.mono e h) (RpL.mono e t)
end

mutual
theorem Rp.monoH (e : ExtH K.hid ρ H ρ' H') : ∀ {v : V} {d : D}, Rp K H ρ v d → Rp K H' ρ' v d
  | _, _, .non => .non
  | _, _, .bl b => .bl b
  | _, _, .int i => .int i
  | _, _, .str x => .str x
  | _, _, .tup h n z r => .tup (e.keep _ _ h n.1 n.2).1 ⟨(e.keep _ _ h n.1 n.2).2, n.2⟩ z (RpL.monoH e r)
  | _, _, .lst h n z r => .lst (e.keep _ _ h n.1 n.2).1 ⟨(e.keep _ _ h n.1 n.2).2, n.2⟩ z (RpL.monoH e r)
  | _, _, .frz h z r => .frz (h.imp id fun ⟨o, h, n, m⟩ => ⟨o, (e.keep _ _ h n m).1, (e.keep _ _ h n m).2, m⟩) z (RpL.monoH e r)
  | _, _, .ref h => .ref (e.get h)
theorem RpL.monoH (e : ExtH K.hid ρ H ρ' H') : ∀ {vs : List V} {ds : List D}, RpL K H ρ vs ds → RpL K H' ρ' vs ds
  | _, _, .nil => .nil
  | _, _, .cons h t => .cons (Rp.monoH e h) (RpL.monoH e t)
end

theorem RpL.length : ∀ {vs : List V} {ds : List D}, RpL K H ρ vs ds → vs.length = ds.length
  | _, _, .nil => rfl
  | _, _, .cons _ t => by simp [RpL.length t]
theorem RpL.get : ∀ {vs : List V} {ds : List D} {i : Nat} {d : D}, RpL K H ρ vs ds → ds[i]? = some d → ∃ v, vs[i]? = some v ∧ Rp K H ρ v d
  | _, _, _, _, .nil, h => by simp at h
  | _, _, 0, _, .cons r _, h => by simp at h; subst h; exact ⟨_, rfl, r⟩
  | _, _, i + 1, d, .cons _ t, h => by
    obtain ⟨v, h1, h2⟩ := RpL.get (i := i) (d := d) t (by simpa using h)
    exact ⟨v, by simpa using h1, h2⟩
theorem RpL.of_get : ∀ {vs : List V} {ds : List D} {i : Nat} {v : V}, RpL K H ρ vs ds → vs[i]? = some v → ∃ d, ds[i]? = some d ∧ Rp K H ρ v d
  | _, _, _, _, .nil, h => by simp at h
  | _, _, 0, _, .cons r _, h => by simp at h; subst h; exact ⟨_, rfl, r⟩
  | _, _, i + 1, d, .cons _ t, h => by
    obtain ⟨v, h1, h2⟩ := RpL.of_get (i := i) (v := d) t (by simpa using h)
    exact ⟨v, by simpa using h1, h2⟩
theorem RpL.append : ∀ {vs us : List V} {ds es : List D}, RpL K H ρ vs ds → RpL K H ρ us es → RpL K H ρ (vs ++ us) (ds ++ es)
  | _, _, _, _, .nil, s => s
  | _, _, _, _, .cons r t, s => .cons r (RpL.append t s)
theorem RpL.take : ∀ {vs : List V} {ds : List D} (n : Nat), RpL K H ρ vs ds → RpL K H ρ (vs.take n) (ds.take n)
  | _, _, 0, _ => .nil
  | _, _, _ + 1, .nil => .nil
  | _, _, n + 1, .cons r t => .cons r (RpL.take n t)
theorem RpL.drop : ∀ {vs : List V} {ds : List D} (n : Nat), RpL K H ρ vs ds → RpL K H ρ (vs.drop n) (ds.drop n)
  | _, _, 0, r => r
  | _, _, _ + 1, .nil => .nil
  | _, _, n + 1, .cons _ t => RpL.drop n t
theorem RpL.set {v : V} {d : D} (h : Rp K H ρ v d) : ∀ {vs : List V} {ds : List D} (n : Nat), RpL K H ρ vs ds → RpL K H ρ (vs.set n v) (ds.set n d)
  | _, _, _, .nil => .nil
  | _, _, 0, .cons _ t => .cons h t
  | _, _, n + 1, .cons r t => .cons r (RpL.set h n t)
theorem RpL.reverse : ∀ {vs : List V} {ds : List D}, RpL K H ρ vs ds → RpL K H ρ vs.reverse ds.reverse
  | _, _, .nil => .nil
  | _, _, .cons r t => by
    rw [List.reverse_cons, List.reverse_cons]
    exact RpL.append (RpL.reverse t) (.cons r .nil)
theorem RpL.cut (lo hi : Option Int) {vs : List V} {ds : List D} (h : RpL K H ρ vs ds) :
    RpL K H ρ (cutV vs lo hi) ((ds.drop (HT.sIx ds.length 0 lo)).take (HT.sIx ds.length ds.length hi - HT.sIx ds.length 0 lo)) := by
  unfold cutV
  rw [h.length]
  exact (h.drop _).take _
theorem RpL.at {vs : List V} {ds : List D} {i : Int} {d : D} (h : RpL K H ρ vs ds) (e : atI ds i = some d) : ∃ v, atI vs i = some v ∧ Rp K H ρ v d := by
  unfold atI at e ⊢
  rw [h.length]
  cases q : ixN ds.length i with
  | none => rw [q] at e; cases e
  | some j =>
    rw [q] at e
    exact h.get e
/-- the pairs of a dict -/
def RpK (K : Kp) (H : Hp) (ρ : List Addr) : List (Key × V) → List (Key × D) → Prop
  | [], [] => True
  | (k, v) :: r, (k', d) :: t => k = k' ∧ Rp K H ρ v d ∧ RpK K H ρ r t
  | _, _ => False
theorem RpK.mono (e : Ext ρ H ρ' H') : ∀ {vs : List (Key × V)} {ds : List (Key × D)}, RpK K H ρ vs ds → RpK K H' ρ' vs ds
  | [], [], _ => trivial
  | (_, _) :: _, (_, _) :: _, ⟨h1, h2, h3⟩ => ⟨h1, h2.mono e, RpK.mono e h3⟩
  | [], _ :: _, h => h.elim
  | _ :: _, [], h => h.elim
theorem RpK.keys : ∀ {vs : List (Key × V)} {ds : List (Key × D)}, RpK K H ρ vs ds → vs.map (·.1) = ds.map (·.1)
  | [], [], _ => rfl
  | (_, _) :: _, (_, _) :: _, ⟨h1, h2, h3⟩ => by simp [h1, RpK.keys h3]
  | [], _ :: _, h => h.elim
  | _ :: _, [], h => h.elim
theorem RpK.length {vs : List (Key × V)} {ds : List (Key × D)} (h : RpK K H ρ vs ds) : vs.length = ds.length := by
  have := congrArg List.length h.keys
  simpa using this
def valD (kvs : List (Key × D)) (k : Key) : Option D := (kvs.find? fun kv => decide (kv.1 = k)).map (·.2)
def putD (kvs : List (Key × D)) (k : Key) (v : D) : List (Key × D) :=
  if (kvs.any fun kv => decide (kv.1 = k)) = true then kvs.map (fun kv => if kv.1 = k then (kv.1, v) else kv) else kvs ++ [(k, v)]
theorem RpK.val (k : Key) : ∀ {vs : List (Key × V)} {ds : List (Key × D)}, RpK K H ρ vs ds →
    (valD ds k = none ∧ valV vs k = none) ∨ ∃ v d, valD ds k = some d ∧ valV vs k = some v ∧ Rp K H ρ v d
  | [], [], _ => .inl ⟨rfl, rfl⟩
  | (a, v) :: r, (b, d) :: t, ⟨h1, h2, h3⟩ => by
    subst h1
    by_cases e : a = k
    · right
      refine ⟨v, d, ?_, ?_, h2⟩
      · simp [valD, List.find?_cons, e]
      · simp [valV, List.find?_cons, e]
    · have ih := RpK.val k h3
      have e1 : valD ((a, d) :: t) k = valD t k := by simp [valD, List.find?_cons, e]
      have e2 : valV ((a, v) :: r) k = valV r k := by simp [valV, List.find?_cons, e]
      rw [e1, e2]
      exact ih
  | [], _ :: _, h => h.elim
  | _ :: _, [], h => h.elim
theorem RpK.any (k : Key) {vs : List (Key × V)} {ds : List (Key × D)} (h : RpK K H ρ vs ds) : (vs.any fun kv => decide (kv.1 = k)) = ds.any fun kv => decide (kv.1 = k) := by
  have e1 : (vs.any fun kv => decide (kv.1 = k)) = (vs.map (·.1)).any fun x => decide (x = k) := by rw [List.any_map]; rfl
  have e2 : (ds.any fun kv => decide (kv.1 = k)) = (ds.map (·.1)).any fun x => decide (x = k) := by rw [List.any_map]; rfl
  rw [e1, e2, h.keys]
theorem RpK.repl (k : Key) {v : V} {d : D} (r : Rp K H ρ v d) : ∀ {vs : List (Key × V)} {ds : List (Key × D)}, RpK K H ρ vs ds →
    RpK K H ρ (vs.map fun kv => if kv.1 = k then (kv.1, v) else kv) (ds.map fun kv => if kv.1 = k then (kv.1, d) else kv)
  | [], [], _ => trivial
  | (a, u) :: q, (b, c) :: t, ⟨h1, h2, h3⟩ => by
    subst h1
    have ih := RpK.repl k r h3
    rw [List.map_cons, List.map_cons]
    by_cases e : a = k
    · simp only [e, if_true]
      exact ⟨rfl, r, ih⟩
    · simp only [e, if_false]
      exact ⟨rfl, h2, ih⟩
  | [], _ :: _, h => h.elim
  | _ :: _, [], h => h.elim
theorem RpK.snoc {k : Key} {v : V} {d : D} (r : Rp K H ρ v d) : ∀ {vs : List (Key × V)} {ds : List (Key × D)}, RpK K H ρ vs ds → RpK K H ρ (vs ++ [(k, v)]) (ds ++ [(k, d)])
  | [], [], _ => ⟨rfl, r, trivial⟩
  | (_, _) :: _, (_, _) :: _, ⟨h1, h2, h3⟩ => ⟨h1, h2, RpK.snoc r h3⟩
  | [], _ :: _, h => h.elim
  | _ :: _, [], h => h.elim
theorem RpK.put (k : Key) {v : V} {d : D} (r : Rp K H ρ v d) {vs : List (Key × V)} {ds : List (Key × D)} (h : RpK K H ρ vs ds) : RpK K H ρ (putK vs k v) (putD ds k d) := by
  unfold putK putD
  rw [h.any k]
  split
  · exact h.repl k r
  · exact h.snoc r
/-- what stands at a place of the store -/
inductive RpO (K : Kp) (H : Hp) (ρ : List Addr) (a : Addr) : Ob → Prop
  | lst {vs : List V} {ds : List D} : H a = some (.lst vs) → ds.length ≤ sizeLine → RpL K H ρ vs ds → RpO K H ρ a (.lst ds)
  | dct {vs : List (Key × V)} {ds : List (Key × D)} : H a = some (.dK vs) → RpK K H ρ vs ds → RpO K H ρ a (.dct ds)
theorem RpO.is {a : Addr} {o : Ob} : RpO K H ρ a o → ∃ u, H a = some u
  | .lst h _ _ => ⟨_, h⟩
  | .dct h _ => ⟨_, h⟩
theorem RpO.mono (e : Ext ρ H ρ' H') {a : Addr} (same : H' a = H a) {o : Ob} (h : RpO K H ρ a o) : RpO K H' ρ' a o := by
  cases h with
  | lst h z r => exact .lst (same.trans h) z (r.mono e)
  | dct h r => exact .dct (same.trans h) (r.mono e)
structure Sr (K : Kp) (H : Hp) (ρ : List Addr) (μ : Mu) : Prop where
  nd : ρ.Nodup
  len : ρ.length = μ.length
  at' : ∀ (n : Nat) (a : Addr) (o : Ob), ρ[n]? = some a → μ[n]? = some o → RpO K H ρ a o
  off : ∀ a ∈ K.hid, a ∉ ρ ∧ ∃ u, H a = some u
variable {μ : Mu}
theorem Sr.look (s : Sr K H ρ μ) {n : Nat} {o : Ob} (h : μ[n]? = some o) : ∃ a, ρ[n]? = some a ∧ RpO K H ρ a o := by
  have hn : n < μ.length := (List.getElem?_eq_some_iff.mp h).1
  have hn' : n < ρ.length := by rw [s.len]; exact hn
  exact ⟨ρ[n], by simp [hn'], s.at' n _ o (by simp [hn']) h⟩
theorem Sr.there (s : Sr K H ρ μ) {a : Addr} (h : a ∈ ρ) : ∃ u, H a = some u := by
  obtain ⟨n, hn, e⟩ := List.mem_iff_getElem.mp h
  have hn' : n < μ.length := by rw [← s.len]; exact hn
  exact (s.at' n a μ[n] (by simp [hn, e]) (by simp [hn'])).is
/-- something new beside the store -/
theorem Sr.new (s : Sr K H ρ μ) {p : Addr} {o : HO} (hp : H p = none) : Sr K (upd H p o) ρ μ :=
  ⟨s.nd, s.len, fun n a ob h1 h2 => by
    have r := s.at' n a ob h1 h2
    obtain ⟨u, hu⟩ := r.is
    exact r.mono (Ext.new hp) (upd_ne (ne_of_none hu hp)), fun a ha => ⟨(s.off a ha).1, by
      obtain ⟨u, hu⟩ := (s.off a ha).2
      exact ⟨u, by rw [upd_ne (ne_of_none hu hp)]; exact hu⟩⟩⟩
theorem Sr.newR (s : Sr K H ρ μ) {p : Addr} {o : HO} {ob : Ob} (hp : H p = none) (r : RpO K (upd H p o) (ρ ++ [p]) p ob) : Sr K (upd H p o) (ρ ++ [p]) (μ ++ [ob]) := by
  have np : p ∉ ρ := fun h => by
    obtain ⟨u, hu⟩ := s.there h
    rw [hp] at hu; cases hu
  refine ⟨?_, by simp [s.len], fun n a ob' h1 h2 => ?_, fun a ha => ?_⟩
  · rw [List.nodup_append]
    exact ⟨s.nd, by simp, fun a ha b hb e => np (by simp at hb; rw [← hb, ← e]; exact ha)⟩
  · by_cases hn : n < ρ.length
    · rw [List.getElem?_append_left hn] at h1
      rw [List.getElem?_append_left (by rw [← s.len]; exact hn)] at h2
      have q := s.at' n a ob' h1 h2
      obtain ⟨u, hu⟩ := q.is
      exact q.mono (Ext.newR hp) (upd_ne (ne_of_none hu hp))
    · rw [List.getElem?_append_right (by omega)] at h1
      rw [List.getElem?_append_right (by rw [← s.len]; omega)] at h2
      rw [← s.len] at h2
      have e0 : n - ρ.length = 0 := by
        by_cases z : n - ρ.length = 0
        · exact z
        · rw [List.getElem?_eq_none (by simp; omega)] at h1; cases h1
      rw [e0] at h1 h2
      simp at h1 h2
      subst h1 h2
      exact r
  · obtain ⟨h1, u, hu⟩ := s.off a ha
    have ne := ne_of_none hu hp
    exact ⟨by simp [h1, ne], u, by rw [upd_ne ne]; exact hu⟩
/-- a place of the store is written -/
theorem Sr.put (s : Sr K H ρ μ) {n : Nat} {a : Addr} {o : HO} {ob : Ob} (h : ρ[n]? = some a) (r : RpO K (upd H a o) ρ a ob) : Sr K (upd H a o) ρ (μ.set n ob) := by
  have hm : a ∈ ρ := List.mem_of_getElem? h
  refine ⟨s.nd, by simp [s.len], fun j b ob' h1 h2 => ?_, fun b hb => ⟨(s.off b hb).1, by
    obtain ⟨h1, u, hu⟩ := s.off b hb
    exact ⟨u, by rw [upd_ne (fun e => h1 (by rw [e]; exact hm))]; exact hu⟩⟩⟩
  by_cases e : j = n
  · subst e
    rw [h] at h1; cases h1
    have hj : j < μ.length := by rw [← s.len]; exact (List.getElem?_eq_some_iff.mp h).1
    rw [List.getElem?_set_self hj] at h2
    cases h2
    exact r
  · rw [List.getElem?_set_ne (Ne.symm e)] at h2
    have q := s.at' j b ob' h1 h2
    refine q.mono (Ext.put hm) (upd_ne fun z => e ?_)
    subst z
    obtain ⟨p1, e1⟩ := List.getElem?_eq_some_iff.mp h
    obtain ⟨p2, e2⟩ := List.getElem?_eq_some_iff.mp h1
    exact (List.getElem_inj s.nd).mp (e2.trans e1.symm)
/-- the names' values -/
structure EnR (K : Kp) (H : Hp) (ρ : List Addr) (σ : L2.St) (env : En) : Prop where
  len : σ.length = env.length
  at' : ∀ (i : Nat) (d : D), env[i]? = some (some d) → ∃ v, σ[i]? = some (some v) ∧ Rp K H ρ v d
theorem EnR.mono (e : Ext ρ H ρ' H') {σ : L2.St} {env : En} (h : EnR K H ρ σ env) : EnR K H' ρ' σ env :=
  ⟨h.len, fun i d x => let ⟨v, h1, h2⟩ := h.at' i d x; ⟨v, h1, h2.mono e⟩⟩
theorem EnR.set {σ : L2.St} {env : En} (h : EnR K H ρ σ env) (i : Nat) {v : V} {d : D} (r : Rp K H ρ v d) : EnR K H ρ (σ.set i (some v)) (env.set i (some d)) := by
  refine ⟨by simp [h.len], fun j c x => ?_⟩
  by_cases e : j = i
  · subst e
    have hj : j < env.length := by
      have := (List.getElem?_eq_some_iff.mp x).1
      simpa using this
    rw [List.getElem?_set_self hj] at x
    cases x
    exact ⟨v, by rw [List.getElem?_set_self (by rw [h.len]; exact hj)], r⟩
  · rw [List.getElem?_set_ne (Ne.symm e)] at x ⊢
    exact h.at' j c x
def wipeD (env : En) : List Nat → En
  | [] => env
  | v :: vs => (wipeD env vs).set v none
theorem EnR.wipe {σ : L2.St} {env : En} (h : EnR K H ρ σ env) : ∀ vs : List Nat, EnR K H ρ (wipe σ vs) (wipeD env vs)
  | [] => h
  | v :: vs => by
    have ih := EnR.wipe h vs
    refine ⟨by simp [L2.wipe, wipeD, ih.len], fun j c x => ?_⟩
    unfold wipeD at x
    by_cases e : j = v
    · subst e
      by_cases hj : j < (wipeD env vs).length
      · rw [List.getElem?_set_self hj] at x; cases x
      · rw [List.getElem?_eq_none (by simpa using hj)] at x; cases x
    · rw [List.getElem?_set_ne (Ne.symm e)] at x
      unfold L2.wipe
      rw [List.getElem?_set_ne (Ne.symm e)]
      exact ih.at' j c x
end
end Pl

namespace Pl
open PySem PySem.Spec PyProof.Rows L2

/-- built-ins and methods by values -/
inductive Bi where
  | len | int | sum | max | tuple | list | nlist | dict | abs
  deriving DecidableEq
mutual
inductive AE where
  | var (i : Nat) | lit (c : Const) | gint (x : Str) (n : Int)
  | tup (es : AEs) | lst (es : AEs) | nls (es : AEs) | ndc (ks : List Str) (es : AEs)
  | neg (a : AE) | bin (o : Operator) (a b : AE)
  | cmp (o : CmpOp) (a b : AE) | cmp2 (o o' : CmpOp) (a b c : AE)
  | tin (ng : Bool) (x : Str) (ents : List (Str × Option Nat)) (a : AE)
  | boo (o : BoolOp) (es : AEs) | not (a : AE) | ife (c : AB) (a b : AE)
  | idx (a b : AE) | sl (a : AE) (lo hi : AO) | rev (a : AE)
  | call (f : Nat) (es : AEs) | tab (x : Str) (ents : List (Str × Option Nat)) (k : AE) (es : AEs)
  | bi (b : Bi) (es : AEs) | isi (T : String) (a : AE) | told (a : AE) | lzip (a b : AE) | app (l e : AE) | get (d k e : AE)
  | lc (own : List Nat) (elt : AE) (t : AT) (src : ASr) (ifs : ABs) | lc2 (own own1 : List Nat) (elt : AE) (t : AT) (src : ASr) (t1 : AT) (src1 : ASr)
inductive AEs where
  | nil | cons (e : AE) (es : AEs)
inductive AB where
  | val (e : AE) | not (b : AB) | boo (o : BoolOp) (bs : ABs)
inductive ABs where
  | nil | cons (b : AB) (bs : ABs)
inductive AO where
  | no | yes (e : AE)
inductive ASr where
  | it (e : AE) | rng (a : AE) | rng2 (a b : AE) | enm (a : AE) | zip (a b : AE)
inductive AT where
  | nm (i : Nat) | tp (ts : ATs)
inductive ATs where
  | nil | cons (t : AT) (ts : ATs)
end
mutual
inductive AS where
  | expr (e : AE) | asg (t : AT) (e : AE) | set (o i e : AE) | aug (i : Nat) (op : Operator) (e : AE) | augI (o i : AE) (op : Operator) (e : AE)
  | asgLc (i : Nat) (own : List Nat) (elt : AE) (t : AT) (src : ASr) (ifs : ABs) | asgLc2 (i : Nat) (own own1 : List Nat) (elt : AE) (t : AT) (src : ASr) (t1 : AT) (src1 : ASr)
  | asg2 (i j : Nat) (a b : AE)
  | ret (e : AE) | retN | ife (c : AB) (a b : ASs) | for_ (t : AT) (src : ASr) (b : ASs) | brk | cnt | pass | nev
inductive ASs where
  | nil | cons (s : AS) (ss : ASs)
end
inductive Fl where
  | nx | bk | ct | rt (d : D)

def AEs.len : AEs → Nat
  | .nil => 0
  | .cons _ r => r.len + 1
def ATs.len : ATs → Nat
  | .nil => 0
  | .cons _ r => r.len + 1
def litD : Const → Option D
  | .none => some .non
  | .bool b => some (.bl b)
  | .int i => some (.int i)
  | .str x => some (.str x)
  | _ => none
def binD : Operator → D → D → Option D
  | .Add, .int i, .int j => some (.int (i + j))
  | .Add, .str x, .str y => if x.length + y.length ≤ sizeLine then some (.str (x ++ y)) else none
  | .Add, .tup xs, .tup ys => if xs.length + ys.length ≤ sizeLine then some (.tup (xs ++ ys)) else none
  | .Add, .lst xs, .lst ys => if xs.length + ys.length ≤ sizeLine then some (.lst (xs ++ ys)) else none
  | .Sub, .int i, .int j => some (.int (i - j))
  | .Mult, .int i, .int j => if (-(2 ^ 64) < i ∧ i < 2 ^ 64) ∨ (-(2 ^ 64) < j ∧ j < 2 ^ 64) then some (.int (i * j)) else none
  | .FloorDiv, .int i, .int j => if 0 < j ∧ j.natAbs.log2 < 9000 then some (.int (i / j)) else none
  | .Mod, .int i, .int j => if 0 < j then some (.int (i % j)) else none
  | .Pow, .int i, .int j => if 0 ≤ j ∧ j ≤ 1000000 ∧ i.natAbs < 2 ^ 64 then some (.int (i ^ j.toNat)) else none
  | _, _, _ => none
def binM (μ : Mu) : Operator → D → D → Option D
  | .Add, .ref n, .lst ys => match μ[n]? with
    | some (.lst xs) => if xs.length + ys.length ≤ sizeLine then some (.lst (xs ++ ys)) else none
    | _ => none
  | .Mult, .tup (x :: xs), .int k => if 0 ≤ k ∧ k ≤ 1000 ∧ (x :: xs).length ≤ 1000 then some (.tup (List.replicate k.toNat (x :: xs)).flatten) else none
  | o, d, e => binD o d e
def flatD : D → Bool
  | .non | .bl _ | .int _ | .str _ => true
  | _ => false
def scalD : D → D → Option Bool
  | .non, .non => some true
  | .non, .int _ | .int _, .non | .non, .bl _ | .bl _, .non | .non, .str _ | .str _, .non => some false
  | .int i, .int j => some (decide (i = j))
  | .bl i, .bl j => some (decide (i = j))
  | .str i, .str j => some (decide (i = j))
  | .int _, .str _ | .str _, .int _ | .bl _, .str _ | .str _, .bl _ => some false
  | _, _ => none
def flatEq : D → D → Bool
  | .non, .non => true
  | .bl a, .bl b => a == b
  | .bl a, .int b => (if a then 1 else 0) == b
  | .int a, .bl b => a == (if b then 1 else 0)
  | .int a, .int b => a == b
  | .str a, .str b => a == b
  | _, _ => false
def keyD : D → Option Key
  | .int i => some (.inl i)
  | .str x => some (.inr x)
  | _ => none
/-- the items of a list or tuple -/
def itemsD (μ : Mu) : D → Option (List D)
  | .tup xs => some xs
  | .lst xs => some xs
  | .ref n => match μ[n]? with
    | some (.lst xs) => some xs
    | _ => none
  | _ => none
mutual
/-- data without places of the store, as plain data -/
def pyD (μ : Mu) : D → Option PyData
  | .non => some .none
  | .bl b => some (.bool b)
  | .int i => some (.int i)
  | .str x => some (.str x)
  | .tup xs => (pyDs μ xs).map .tuple
  | .lst xs => (pyDs μ xs).map .list
  | .frz _ => none
  | .ref _ => none
def pyDs (μ : Mu) : List D → Option (List PyData)
  | [] => some []
  | d :: r => (pyD μ d).bind fun x => (pyDs μ r).map fun y => x :: y
end
def deepEq (μ : Mu) (x y : D) : Option Bool :=
  match pyD μ x, pyD μ y with
  | some p, some q => if SeqAt.shaped p = true ∧ SeqAt.shaped q = true then some (PyData.eqv p q) else none
  | _, _ => none
def eqD (μ : Mu) (x y : D) : Option Bool :=
  match scalD x y with
  | some b => some b
  | none => match flatD x, flatD y with
    | false, false => deepEq μ x y
    | _, _ => none
def inD (μ : Mu) (x y : D) : Option Bool :=
  match itemsD μ y with
  | some xs => if flatD x = true ∧ xs.all flatD = true then some (xs.any fun y => flatEq y x) else none
  | none => match y, keyD x with
    | .ref n, some k => match μ[n]? with
      | some (.dct kvs) => some (valD kvs k).isSome
      | _ => none
    | _, _ => none
def cmpD (μ : Mu) : CmpOp → D → D → Option Bool
  | .Eq, x, y => eqD μ x y
  | .NotEq, x, y => (eqD μ x y).map fun b => !b
  | .Lt, .int i, .int j => some (decide (i < j))
  | .LtE, .int i, .int j => some (decide (i ≤ j))
  | .Gt, .int i, .int j => some (decide (j < i))
  | .GtE, .int i, .int j => some (decide (j ≤ i))
  | .Is, x, .non => some (match x with | .non => true | _ => false)
  | .IsNot, x, .non => some (match x with | .non => false | _ => true)
  | .In, x, y => inD μ x y
  | .NotIn, x, y => (inD μ x y).map fun b => !b
  | _, _, _ => none
def truD (μ : Mu) : D → Option Bool
  | .non => some false
  | .bl b => some b
  | .int i => some (i != 0)
  | .tup xs => some (!xs.isEmpty)
  | .lst xs => some (!xs.isEmpty)
  | .ref n => match μ[n]? with
    | some (.lst xs) => some (!xs.isEmpty)
    | some (.dct kvs) => some (!kvs.isEmpty)
    | none => none
  | _ => none
def idxD (μ : Mu) : D → D → Option D
  | .tup xs, .int i => atI xs i
  | .lst xs, .int i => atI xs i
  | .ref n, k => match μ[n]?, k with
    | some (.lst xs), .int i => atI xs i
    | some (.dct kvs), .int i => valD kvs (.inl i)
    | some (.dct kvs), .str x => valD kvs (.inr x)
    | _, _ => none
  | _, _ => none
def cutL {α : Type} (xs : List α) (lo hi : Option Int) : List α := (xs.drop (HT.sIx xs.length 0 lo)).take (HT.sIx xs.length xs.length hi - HT.sIx xs.length 0 lo)
def slD (μ : Mu) (lo hi : Option Int) : D → Option D
  | .tup xs => some (.tup (cutL xs lo hi))
  | .lst xs => some (.lst (cutL xs lo hi))
  | .ref n => match μ[n]? with
    | some (.lst xs) => some (.lst (cutL xs lo hi))
    | _ => none
  | _ => none
def revD (μ : Mu) : D → Option D
  | .lst xs => some (.lst xs.reverse)
  | .ref n => match μ[n]? with
    | some (.lst xs) => some (.lst xs.reverse)
    | _ => none
  | _ => none
def isiD (T : String) : D → Option Bool
  | .tup _ => some (T == "tuple")
  | .str _ => some (T == "str")
  | .int _ => some (T == "int")
  | .bl _ => some (T == "bool" || T == "int")
  | .lst _ => some (T == "list")
  | .non => some false
  | _ => none
def intsOf : List D → Option (List Int)
  | [] => some []
  | .int i :: r => (intsOf r).map fun x => i :: x
  | _ :: _ => none
def maxI : Int → List Int → Int
  | m, [] => m
  | m, x :: r => maxI (if m < x then x else m) r
/-- the list of the three pairs -/
def threePy (x y z : PyData) : PyData := .list [.tuple [.str "m.f", x], .tuple [.str "m.g", y], .tuple [.str "m.h", z]]
/-- repr(sorted(d.items())): of the three that a law's dict holds, in their order -/
def toldD (μ : Mu) : List (Key × D) → Option Str
  | [(.inr k1, .tup a), (.inr k2, .tup b), (.inr k3, .tup e)] => if k1 = "m.f" ∧ k2 = "m.g" ∧ k3 = "m.h" then
      (pyD μ (.tup a)).bind fun x => (pyD μ (.tup b)).bind fun y => (pyD μ (.tup e)).bind fun z =>
        if (threePy x y z).showable = true ∧ (threePy x y z).depth ≤ 60 ∧ (threePy x y z).shown.length ≤ sizeLine then some (threePy x y z).shown else none
    else none
  | _ => none
def biD (μ : Mu) : Bi → List D → Option (D × Mu)
  | .len, [d] => match itemsD μ d with
    | some xs => some (.int xs.length, μ)
    | none => match d with
      | .frz xs => some (.int xs.length, μ)
      | _ => none
  | .int, [.int i] => some (.int i, μ)
  | .int, [.bl b] => some (.int (if b then 1 else 0), μ)
  | .abs, [.int i] => some (.int (if i < 0 then -i else i), μ)
  | .sum, [.lst xs] => (intsOf xs).map fun ns => (.int ns.sum, μ)
  | .max, [.lst xs] => match intsOf xs with
    | some (n :: ns) => some (.int (maxI n ns), μ)
    | _ => none
  | .tuple, [d] => (itemsD μ d).map fun xs => (.tup xs, μ)
  | .list, [d] => match itemsD μ d with
    | some xs => some (.lst xs, μ)
    | none => match d with
      | .frz xs => some (.lst xs, μ)
      | _ => none
  | .nlist, [d] => (itemsD μ d).map fun xs => (.ref μ.length, μ ++ [.lst xs])
  | .dict, [.ref n] => match μ[n]? with
    | some (.dct kvs) => some (.ref μ.length, μ ++ [.dct kvs])
    | _ => none
  | _, _ => none
def isLstD (μ : Mu) : D → Bool
  | .ref n => match μ[n]? with
    | some (.lst _) => true
    | _ => false
  | _ => false
def isDctD (μ : Mu) : D → Bool
  | .ref n => match μ[n]? with
    | some (.dct _) => true
    | _ => false
  | _ => false
def appD (μ : Mu) : D → D → Option Mu
  | .ref n, d => match μ[n]? with
    | some (.lst xs) => if xs.length < sizeLine then some (μ.set n (.lst (xs ++ [d]))) else none
    | _ => none
  | _, _ => none
def getD (μ : Mu) : D → D → D → Option D
  | .ref n, k, e => match μ[n]?, keyD k with
    | some (.dct kvs), some q => some ((valD kvs q).getD e)
    | _, _ => none
  | _, _, _ => none
def toldR (μ : Mu) : D → Option Str
  | .ref n => match μ[n]? with
    | some (.dct kvs) => toldD μ kvs
    | _ => none
  | _ => none
def zipD : D → D → Option (List D)
  | .lst xs, .lst ys => some ((xs.zip ys).map fun p => .tup [p.1, p.2])
  | .tup xs, .tup ys => some ((xs.zip ys).map fun p => .tup [p.1, p.2])
  | .tup xs, .lst ys => some ((xs.zip ys).map fun p => .tup [p.1, p.2])
  | _, _ => none
def lookE : List (Str × Option Nat) → Str → Option (Option Nat)
  | [], _ => none
  | (x, f) :: r, y => if x = y then some f else lookE r y
mutual
def asgT : AT → D → En → Option En
  | .nm i, d, env => some (env.set i (some d))
  | .tp ts, .tup xs, env => asgTs ts xs env
  | .tp _, _, _ => none
def asgTs : ATs → List D → En → Option En
  | .nil, [], env => some env
  | .cons t ts, d :: r, env => (asgT t d env).bind fun e => asgTs ts r e
  | _, _, _ => none
end
mutual
def beqD : D → D → Bool
  | .non, .non => true
  | .bl a, .bl b => a == b
  | .int a, .int b => decide (a = b)
  | .str a, .str b => decide (a = b)
  | .tup a, .tup b => beqDs a b
  | .lst a, .lst b => beqDs a b
  | .frz a, .frz b => beqDs a b
  | .ref a, .ref b => decide (a = b)
  | _, _ => false
def beqDs : List D → List D → Bool
  | [], [] => true
  | a :: r, b :: t => beqD a b && beqDs r t
  | _, _ => false
end
mutual
theorem beqD_eq : ∀ {a b : D}, beqD a b = true → a = b
  | .non, .non, _ => rfl
  | .bl a, .bl b, h => by simp [beqD] at h; rw [h]
  | .int a, .int b, h => by simp [beqD] at h; rw [h]
  | .str a, .str b, h => by simp [beqD] at h; rw [h]
  | .tup a, .tup b, h => by rw [beqD] at h; rw [beqDs_eq h]
  | .lst a, .lst b, h => by rw [beqD] at h; rw [beqDs_eq h]
  | .frz a, .frz b, h => by rw [beqD] at h; rw [beqDs_eq h]
  | .ref a, .ref b, h => by simp [beqD] at h; rw [h]
theorem beqDs_eq : ∀ {a b : List D}, beqDs a b = true → a = b
  | [], [], _ => rfl
  | a :: r, b :: t, h => by
    rw [beqDs, Bool.and_eq_true] at h
    rw [beqD_eq h.1, beqDs_eq h.2]
end
mutual
theorem beqD_self : ∀ (a : D), beqD a a = true
  | .non => rfl
  | .bl a => by simp [beqD]
  | .int a => by simp [beqD]
  | .str a => by simp [beqD]
  | .tup a => by rw [beqD]; exact beqDs_self a
  | .lst a => by rw [beqD]; exact beqDs_self a
  | .frz a => by rw [beqD]; exact beqDs_self a
  | .ref a => by simp [beqD]
theorem beqDs_self : ∀ (a : List D), beqDs a a = true
  | [] => rfl
  | a :: r => by rw [beqDs, beqD_self a, beqDs_self r]; rfl
end
/-- what a loop may lean on: a list of the store that stands as it was -/
abbrev Grd := Option (Nat × List D)
def okG : Grd → Mu → Bool
  | none, _ => true
  | some (n, xs), μ => match μ[n]? with
    | some (.lst ys) => beqDs ys xs
    | _ => false
abbrev Orc := Nat → List D → Mu → Option (D × Mu)
def lcLoop (step : D → Mu → Option (Option D × Mu)) : List D → Mu → Option (List D × Mu)
  | [], μ => some ([], μ)
  | x :: r, μ => (step x μ).bind fun o => (lcLoop step r o.2).map fun q => (match o.1 with | some y => y :: q.1 | none => q.1, q.2)
def pairs : List D → Nat → List D
  | [], _ => []
  | x :: r, i => .tup [.int i, x] :: pairs r (i + 1)
def setD (μ : Mu) : D → D → D → Option Mu
  | .ref n, k, d => match μ[n]?, k with
    | some (.lst xs), .int i => (ixN xs.length i).map fun j => μ.set n (.lst (xs.set j d))
    | some (.dct kvs), .int i => if kvs.length < sizeLine then some (μ.set n (.dct (putD kvs (.inl i) d))) else none
    | some (.dct kvs), .str x => if kvs.length < sizeLine then some (μ.set n (.dct (putD kvs (.inr x) d))) else none
    | _, _ => none
  | _, _, _ => none
def lc2Loop (f : D → Mu → Option (List D × Mu)) : List D → Mu → Option (List D × Mu)
  | [], μ => some ([], μ)
  | x :: r, μ => (f x μ).bind fun o => (lc2Loop f r o.2).map fun y => (o.1 ++ y.1, y.2)
mutual
def evE (c : Orc) : AE → En → Mu → Option (D × Mu)
  | .var i, env, μ => match env[i]? with
    | some (some d) => some (d, μ)
    | _ => none
  | .lit k, _, μ => (litD k).map fun d => (d, μ)
  | .gint _ n, _, μ => some (.int n, μ)
  | .tup es, env, μ => (evEs c es env μ).map fun x => (.tup x.1, x.2)
  | .lst es, env, μ => (evEs c es env μ).map fun x => (.lst x.1, x.2)
  | .nls es, env, μ => (evEs c es env μ).map fun x => (.ref x.2.length, x.2 ++ [.lst x.1])
  | .ndc ks es, env, μ => (evEs c es env μ).bind fun x =>
      if ks.length = x.1.length ∧ ks.Nodup then some (.ref x.2.length, x.2 ++ [.dct ((ks.map Sum.inr).zip x.1)]) else none
  | .neg a, env, μ => (evE c a env μ).bind fun x => match x.1 with
    | .int i => some (.int (-i), x.2)
    | _ => none
  | .bin o a b, env, μ => (evE c a env μ).bind fun x => (evE c b env x.2).bind fun y => (binM y.2 o x.1 y.1).map fun z => (z, y.2)
  | .cmp o a b, env, μ => (evE c a env μ).bind fun x => (evE c b env x.2).bind fun y => (cmpD y.2 o x.1 y.1).map fun z => (.bl z, y.2)
  | .cmp2 o o' a b e, env, μ => (evE c a env μ).bind fun x => (evE c b env x.2).bind fun y => (cmpD y.2 o x.1 y.1).bind fun z =>
      if z = true then (evE c e env y.2).bind fun u => (cmpD u.2 o' y.1 u.1).map fun t => (.bl t, u.2) else some (.bl false, y.2)
  | .tin ng _ ents a, env, μ => (evE c a env μ).bind fun x => match x.1 with
    | .str y => (lookE ents y).map fun r => (.bl (if ng then !r.isSome else r.isSome), x.2)
    | _ => none
  | .boo o es, env, μ => evV c o es env μ
  | .not a, env, μ => (evE c a env μ).bind fun x => (truD x.2 x.1).map fun b => (.bl (!b), x.2)
  | .ife b x y, env, μ => (evB c b env μ).bind fun t => if t.1 = true then evE c x env t.2 else evE c y env t.2
  | .idx a b, env, μ => (evE c a env μ).bind fun x => (evE c b env x.2).bind fun y => (idxD y.2 x.1 y.1).map fun z => (z, y.2)
  | .sl a lo hi, env, μ => (evE c a env μ).bind fun x => (evO c lo env x.2).bind fun l => (evO c hi env l.2).bind fun h => (slD h.2 l.1 h.1 x.1).map fun z => (z, h.2)
  | .rev a, env, μ => (evE c a env μ).bind fun x => (revD x.2 x.1).map fun z => (z, x.2)
  | .call f es, env, μ => (evEs c es env μ).bind fun x => c f x.1 x.2
  | .tab _ ents k es, env, μ => (evE c k env μ).bind fun x => match x.1 with
    | .str y => match lookE ents y with
      | some (some f) => (evEs c es env x.2).bind fun z => c f z.1 z.2
      | _ => none
    | _ => none
  | .bi b es, env, μ => (evEs c es env μ).bind fun x => biD x.2 b x.1
  | .isi T a, env, μ => (evE c a env μ).bind fun x => (isiD T x.1).map fun b => (.bl b, x.2)
  | .told a, env, μ => (evE c a env μ).bind fun x => (toldR x.2 x.1).map fun z => (.str z, x.2)
  | .lzip a b, env, μ => (evE c a env μ).bind fun x => (evE c b env x.2).bind fun y => (zipD x.1 y.1).map fun z => (.lst z, y.2)
  | .app l e, env, μ => (evE c l env μ).bind fun x => if isLstD x.2 x.1 = true then (evE c e env x.2).bind fun y => (appD y.2 x.1 y.1).map fun m => (.non, m) else none
  | .get d k e, env, μ => (evE c d env μ).bind fun x => if isDctD x.2 x.1 = true then (evE c k env x.2).bind fun y => (evE c e env y.2).bind fun z => (getD z.2 x.1 y.1 z.1).map fun r => (r, z.2) else none
  | .lc own elt t src ifs, env, μ => (evSrc c src env μ).bind fun s =>
      (lcLoop (fun d μ1 => if okG s.2.1 μ1 = true then (asgT t d (wipeD env own)).bind fun e => (evBs c .And ifs e μ1).bind fun q =>
        if q.1 = true then (evE c elt e q.2).map fun y => (some y.1, y.2) else some (none, q.2) else none) s.1 s.2.2).bind fun r =>
      if okG s.2.1 r.2 = true then some (.lst r.1, r.2) else none
  | .lc2 own own1 elt t src t1 src1, env, μ => (evSrc c src env μ).bind fun s =>
      (lc2Loop (fun d μ1 => if okG s.2.1 μ1 = true then (asgT t d (wipeD env own)).bind fun e => (evSrc c src1 e μ1).bind fun s1 =>
        (lcLoop (fun d1 μ2 => if okG s1.2.1 μ2 = true then (asgT t1 d1 (wipeD e own1)).bind fun e1 => (evE c elt e1 μ2).map fun y => (some y.1, y.2) else none) s1.1 s1.2.2).bind fun r =>
        if okG s1.2.1 r.2 = true then some r else none else none) s.1 s.2.2).bind fun r =>
      if okG s.2.1 r.2 = true ∧ r.1.length ≤ sizeLine then some (.lst r.1, r.2) else none
def evEs (c : Orc) : AEs → En → Mu → Option (List D × Mu)
  | .nil, _, μ => some ([], μ)
  | .cons e es, env, μ => (evE c e env μ).bind fun x => (evEs c es env x.2).map fun y => (x.1 :: y.1, y.2)
/-- and, or as values: bools -/
def evV (c : Orc) (o : BoolOp) : AEs → En → Mu → Option (D × Mu)
  | .nil, _, _ => none
  | .cons e .nil, env, μ => evE c e env μ
  | .cons e es, env, μ => (evE c e env μ).bind fun x => match x.1, o with
    | .bl true, .And => evV c o es env x.2
    | .bl false, .And => some (.bl false, x.2)
    | .bl true, .Or => some (.bl true, x.2)
    | .bl false, .Or => evV c o es env x.2
    | _, _ => none
def evB (c : Orc) : AB → En → Mu → Option (Bool × Mu)
  | .val e, env, μ => (evE c e env μ).bind fun x => (truD x.2 x.1).map fun b => (b, x.2)
  | .not b, env, μ => (evB c b env μ).map fun x => (!x.1, x.2)
  | .boo o bs, env, μ => evBs c o bs env μ
def evBs (c : Orc) (o : BoolOp) : ABs → En → Mu → Option (Bool × Mu)
  | .nil, _, μ => some (o == .And, μ)
  | .cons b bs, env, μ => (evB c b env μ).bind fun x => match x.1, o with
    | false, .And => some (false, x.2)
    | true, .Or => some (true, x.2)
    | _, _ => evBs c o bs env x.2
def evO (c : Orc) : AO → En → Mu → Option (Option Int × Mu)
  | .no, _, μ => some (none, μ)
  | .yes e, env, μ => (evE c e env μ).bind fun x => match x.1 with
    | .int i => some (some i, x.2)
    | _ => none
/-- the items that a loop goes through, what it leans on -/
def evSrc (c : Orc) : ASr → En → Mu → Option (List D × Grd × Mu)
  | .it e, env, μ => (evE c e env μ).bind fun x => (itemsD x.2 x.1).map fun xs => (xs, (match x.1 with | .ref n => some (n, xs) | _ => none), x.2)
  | .rng a, env, μ => (evE c a env μ).bind fun x => match x.1 with
    | .int j => if j ≤ 1000000 ∧ -(2 ^ 62) ≤ j then some ((List.range j.toNat).map fun i => .int (0 + (i : Nat)), none, x.2) else none
    | _ => none
  | .rng2 a b, env, μ => (evE c a env μ).bind fun x => (evE c b env x.2).bind fun y => match x.1, y.1 with
    | .int i, .int j => if j - i ≤ 1000000 ∧ -(2 ^ 62) ≤ i ∧ i < 2 ^ 62 ∧ -(2 ^ 62) ≤ j ∧ j < 2 ^ 62 then some ((List.range (j - i).toNat).map fun k => .int (i + (k : Nat)), none, y.2) else none
    | _, _ => none
  | .enm a, env, μ => (evE c a env μ).bind fun x => match x.1 with
    | .lst xs => some (pairs xs 0, none, x.2)
    | .tup xs => some (pairs xs 0, none, x.2)
    | _ => none
  | .zip a b, env, μ => (evE c a env μ).bind fun x => (evE c b env x.2).bind fun y => (zipD x.1 y.1).map fun z => (z, none, y.2)
end
def forLoop (g : Grd) (t : AT) (body : En → Mu → Option (Fl × En × Mu)) : List D → En → Mu → Option (Fl × En × Mu)
  | [], env, μ => if okG g μ = true then some (.nx, env, μ) else none
  | x :: r, env, μ => if okG g μ = true then (asgT t x env).bind fun e => (body e μ).bind fun q => match q.1 with
    | .nx | .ct => forLoop g t body r q.2.1 q.2.2
    | .bk => some (.nx, q.2.1, q.2.2)
    | .rt d => some (.rt d, q.2.1, q.2.2) else none
mutual
def evS (c : Orc) : AS → En → Mu → Option (Fl × En × Mu)
  | .expr e, env, μ => (evE c e env μ).map fun x => (.nx, env, x.2)
  | .asg t e, env, μ => (evE c e env μ).bind fun x => (asgT t x.1 env).map fun v => (.nx, v, x.2)
  | .asg2 i j a b, env, μ => (evE c a env μ).bind fun x => (evE c b env x.2).map fun y => (.nx, (env.set i (some x.1)).set j (some y.1), y.2)
  | .asgLc i own elt t src ifs, env, μ => (evE c (.lc own elt t src ifs) env μ).map fun x => (.nx, env.set i (some x.1), x.2)
  | .asgLc2 i own own1 elt t src t1 src1, env, μ => (evE c (.lc2 own own1 elt t src t1 src1) env μ).map fun x => (.nx, env.set i (some x.1), x.2)
  | .set o i e, env, μ => (evE c e env μ).bind fun x => (evE c o env x.2).bind fun y => (evE c i env y.2).bind fun z => (setD z.2 y.1 z.1 x.1).map fun m => (.nx, env, m)
  | .aug i op e, env, μ => match env[i]? with
    | some (some (.int p)) => (evE c e env μ).bind fun x => match op, x.1 with
      | .Add, .int q => some (.nx, env.set i (some (.int (p + q))), x.2)
      | .Sub, .int q => some (.nx, env.set i (some (.int (p - q))), x.2)
      | _, _ => none
    | _ => none
  | .augI o i op e, env, μ => (evE c o env μ).bind fun x => (evE c i env x.2).bind fun y => (idxD y.2 x.1 y.1).bind fun d => (evE c e env y.2).bind fun z =>
      match op, d, z.1 with
      | .Add, .int p, .int q => (setD z.2 x.1 y.1 (.int (p + q))).map fun m => (.nx, env, m)
      | _, _, _ => none
  | .ret e, env, μ => (evE c e env μ).map fun x => (.rt x.1, env, x.2)
  | .retN, env, μ => some (.rt .non, env, μ)
  | .ife b x y, env, μ => (evB c b env μ).bind fun t => if t.1 = true then evSs c x env t.2 else evSs c y env t.2
  | .for_ t src b, env, μ => (evSrc c src env μ).bind fun s => forLoop s.2.1 t (fun e m => evSs c b e m) s.1 env s.2.2
  | .brk, env, μ => some (.bk, env, μ)
  | .cnt, env, μ => some (.ct, env, μ)
  | .pass, env, μ => some (.nx, env, μ)
  | .nev, _, _ => none
def evSs (c : Orc) : ASs → En → Mu → Option (Fl × En × Mu)
  | .nil, env, μ => some (.nx, env, μ)
  | .cons s ss, env, μ => (evS c s env μ).bind fun r => match r.1 with
    | .nx => evSs c ss r.2.1 r.2.2
    | _ => some r
end
structure PDef where
  ar : Nat
  nl : Nat
  body : ASs
def start (ds : List D) (nl : Nat) : En := ds.map some ++ List.replicate (nl - ds.length) none
def callF (P : List PDef) : Nat → Orc
  | 0, _, _, _ => none
  | k + 1, f, ds, μ => match P[f]? with
    | some d => if ds.length = d.ar then (evSs (callF P k) d.body (start ds d.nl) μ).bind fun r => match r.1 with
      | .nx => some (.non, r.2.2)
      | .rt v => some (v, r.2.2)
      | _ => none else none
    | none => none
end Pl

namespace Pl
open PySem PySem.Spec PyProof.Rows L2

structure FnG (P : Program) (w : World) (K : PySem.W.Frag) (mg : Str → Option Value) (base : Heap) (k : Nat) (f : Addr) (fd : FuncData) (ps : List Str) (sp : List V → Hp → VK → Prop) : Prop where
  len : ∀ vs H Q, sp vs H Q → vs.length = ps.length
  run : ∀ (A : Around) (outer : List Env) (s : Shared) (H : Hp) (args : Args) (us : List Value) (vs : List V) (Q : VK), A.guards = some [] → Room k A →
    Env0 P w K mg base A outer s H → BindsTo s fd args (ps.zip us) → Vals vs us → sp vs H Q →
    codeAny (model P w) A (.call (.ref f) args) (CR CX0 outer P w H s Q E0) s
theorem FnG.mono {P : Program} {w : World} {K : PySem.W.Frag} {mg : Str → Option Value} {base : Heap} {j k : Nat} {f : Addr} {fd : FuncData} {ps : List Str} {sp : List V → Hp → VK → Prop}
    (F : FnG P w K mg base j f fd ps sp) (h : j ≤ k) : FnG P w K mg base k f fd ps sp :=
  ⟨F.len, fun A outer s H args us vs Q g r => F.run A outer s H args us vs Q g (Room.mono r h)⟩

section
variable {X : Cx} {k : Nat} {f : Addr} {fd : FuncData} {ps : List Str} {sp : List V → Hp → VK → Prop} {pins : List (Addr × Obj)} {σ : L2.St} {H : Hp} {s : Shared} {Q : VK} {us : List Value} {vs : List V}
theorem FnG.call (F : FnG X.prog X.w X.K X.mg X.base k f fd ps sp) (g : X.A.guards = some []) (hr : Room k X.A) (hb : Binds X.K fd ps [])
    (I : Inv X pins σ H s) (r : Vals vs us) (h : sp vs H Q) : wpAny (model X.prog X.w) X.A (call (.ref f) us) (EP X pins σ Q) X.xe s := by
  have e1 : us.length = ps.length := r.length.symm.trans (F.len _ _ _ h)
  have bd : BindsTo s fd ⟨us, []⟩ (ps.zip us) := by
    have := hb s us I.kIn (by simpa using e1)
    simpa using this
  refine wpAny_call (codeAny_mono (F.run X.A X.stack s H ⟨us, []⟩ us vs Q g hr I.env0 bd r h) fun res s' hq => ?_)
  cases res with
  | error e => exact False.elim hq
  | ok fl =>
    cases fl with
    | ret u => exact I.after hq
    | next => exact False.elim hq
    | brk => exact False.elim hq
    | cont => exact False.elim hq
end

/-- a def of the text, by its body -/
theorem fnG_of {P : Program} {w : World} {K : PySem.W.Frag} {mg : Str → Option Value} {base : Heap} {x qual : Str} {st : Stmt} {f : Addr} {fd : FuncData} {N ps : List Str} {k : Nat} {sp : List V → Hp → VK → Prop}
    (F : Fun K x qual st f fd) (S : FnScope N ps (defScope st)) (len : ∀ vs H Q, sp vs H Q → vs.length = ps.length)
    (hb : ∀ (cdv : Value) (A : Around) (outer : List Env) (s : Shared) (H : Hp) (vs : List V) (Q : VK), A.guards = some [] →
      Room k (A.deeper (envOfC qual (defScope st) s.heap.objs.size f cdv)) → sp vs H Q →
      ∃ t, L2.PSs (cxOf CX0 P w K mg base N qual (defScope st) f cdv A outer s H E0).nox (defBody st) t ∧ t { nx := fun _ H' => Q .non H', rt := Q } (L2.start N vs) H) :
    FnG P w K mg base (k + 1) f fd ps sp := by
  obtain ⟨oc, od, kV, doc, pm, an, cdv, ct, osl, rfl, lk, hcd⟩ := F.ex
  refine ⟨len, fun A outer s H args us vs Q g hr e0 hbd r hsp => ?_⟩
  have inK : K.In s.heap := e0.mod.kin.keeps fun b o e => (e0.bs b o e).1
  have lim : s.heap.NoLimit := e0.mod.nolimit.keeps fun b o e => (e0.bs b o e).1
  have kinds : ((ps.zip us).all fun y => (defScope st).names.lookup y.1 == some .local || (defScope st).names.lookup y.1 == some .cell) = true := by
    rw [List.all_eq_true]
    rintro ⟨n, v⟩ hy
    rcases S.par n (List.of_mem_zip hy).1 with q | q
    · simp [q]
    · simp [q]
  refine Att.call_fn inK lim lk hcd hr.depth hbd kinds (fun s1 x1 => ?_) S.co S.gen S.kind
  have I := inv_start (CX := CX0) (P := P) (w := w) (mg := mg) (base := base) (E := E0) S hr.hd e0 (len _ _ _ hsp) r x1
  obtain ⟨t, ht, hq⟩ := hb cdv A outer s H vs Q g (hr.deeper _) hsp
  refine wpAny_mono (ht.nox.run [] s1 _ H _ I hq) (fun fl s' hs => ?_) fun e s' hs => hs
  have fin : ∀ {σ' : L2.St} {H' : Hp} {v : V} {u : Value}, Inv (cxOf CX0 P w K mg base N qual (defScope st) f cdv A outer s H E0) [] σ' H' s' → RelV v u → Q v H' →
      CE outer P w H s Q u s' := fun J rv q => ⟨_, _, J.os, J.bare, J.base, J.hok, rv, q⟩
  cases fl with
  | next => exact let ⟨_, _, J, q⟩ := hs; fin (v := .non) J rfl q
  | ret u => exact let ⟨_, _, _, J, rv, q⟩ := hs; fin J rv q
  | brk => exact let ⟨_, _, _, q⟩ := hs; False.elim q
  | cont => exact let ⟨_, _, _, q⟩ := hs; False.elim q
end Pl

namespace Pl
open PySem PySem.Spec PyProof.Rows L2

def asName : Expr → Option Str | .Name x _ => some x | _ => none
def asConst : Expr → Option Const | .Constant c _ _ => some c | _ => none
def asTuple : Expr → Option (List Expr) | .Tuple es _ _ => some es | _ => none
def asList : Expr → Option (List Expr) | .List es _ => some es | _ => none
def asUn : Expr → Option (UnaryOp × Expr) | .UnaryOp o a _ => some (o, a) | _ => none
def asBin : Expr → Option (Expr × Operator × Expr) | .BinOp a o b _ => some (a, o, b) | _ => none
def asCmp : Expr → Option (Expr × CmpOp × Expr) | .Compare a [o] [b] _ => some (a, o, b) | _ => none
def asCmp2 : Expr → Option (Expr × CmpOp × CmpOp × Expr × Expr) | .Compare a [o, o'] [b, c] _ => some (a, o, o', b, c) | _ => none
def asBoo : Expr → Option (BoolOp × List Expr × Pos) | .BoolOp o es p => some (o, es, p) | _ => none
def asIf : Expr → Option (Expr × Expr × Expr) | .IfExp c a b _ => some (c, a, b) | _ => none
def asSub : Expr → Option (Expr × Expr) | .Subscript a b _ => some (a, b) | _ => none
def asSlice : Expr → Option (Option Expr × Option Expr) | .Slice a b none _ => some (a, b) | _ => none
def asRev : Expr → Bool | .Slice none none (some (.UnaryOp .USub (.Constant (.int 1) _ _) _)) _ => true | _ => false
def asCall : Expr → Option (Expr × List Expr) | .Call f es [] _ => some (f, es) | _ => none
def asMeth : Expr → Option (Expr × Str × List Expr) | .Call (.Attribute o m a) es [] p => if a.endLine == p.line then some (o, m, es) else none | _ => none
def asLc : Expr → Option (Expr × Expr × Expr × List Expr × Scope) | .ListComp e [⟨t, i, fs, 0⟩] sc _ => some (e, t, i, fs, sc) | _ => none
def asLc2 : Expr → Option (Expr × (Expr × Expr) × (Expr × Expr) × Scope) | .ListComp e [⟨t, i, [], 0⟩, ⟨t1, i1, [], 0⟩] sc _ => some (e, (t, i), (t1, i1), sc) | _ => none
def asDict : Expr → Option (List (Option Expr) × List Expr) | .Dict ks vs _ => some (ks, vs) | _ => none
theorem asName_eq {e : Expr} {x : Str} (h : asName e = some x) : ∃ p, e = .Name x p := by cases e <;> simp_all [asName]
theorem asConst_eq {e : Expr} {x : Const} (h : asConst e = some x) : ∃ k p, e = .Constant x k p := by cases e <;> simp_all [asConst]
theorem asTuple_eq {e : Expr} {x : List Expr} (h : asTuple e = some x) : ∃ k p, e = .Tuple x k p := by cases e <;> simp_all [asTuple]
theorem asList_eq {e : Expr} {x : List Expr} (h : asList e = some x) : ∃ p, e = .List x p := by cases e <;> simp_all [asList]
theorem asUn_eq {e : Expr} {o : UnaryOp} {a : Expr} (h : asUn e = some (o, a)) : ∃ p, e = .UnaryOp o a p := by cases e <;> simp_all [asUn]
theorem asBin_eq {e a b : Expr} {o : Operator} (h : asBin e = some (a, o, b)) : ∃ p, e = .BinOp a o b p := by cases e <;> simp_all [asBin]
theorem asCmp_eq {e a b : Expr} {o : CmpOp} (h : asCmp e = some (a, o, b)) : ∃ p, e = .Compare a [o] [b] p := by
  unfold asCmp at h; split at h <;> simp_all
theorem asCmp2_eq {e a b c : Expr} {o o' : CmpOp} (h : asCmp2 e = some (a, o, o', b, c)) : ∃ p, e = .Compare a [o, o'] [b, c] p := by
  unfold asCmp2 at h; split at h <;> simp_all
theorem asBoo_eq {e : Expr} {o : BoolOp} {es : List Expr} {p : Pos} (h : asBoo e = some (o, es, p)) : e = .BoolOp o es p := by cases e <;> simp_all [asBoo]
theorem asIf_eq {e a b c : Expr} (h : asIf e = some (c, a, b)) : ∃ p, e = .IfExp c a b p := by cases e <;> simp_all [asIf]
theorem asSub_eq {e a b : Expr} (h : asSub e = some (a, b)) : ∃ p, e = .Subscript a b p := by cases e <;> simp_all [asSub]
theorem asSlice_eq {e : Expr} {a b : Option Expr} (h : asSlice e = some (a, b)) : ∃ p, e = .Slice a b none p := by
  unfold asSlice at h; split at h <;> simp_all
theorem asRev_eq {e : Expr} (h : asRev e = true) : ∃ k p1 p2 p, e = .Slice none none (some (.UnaryOp .USub (.Constant (.int 1) k p1) p2)) p := by
  unfold asRev at h; split at h <;> simp_all
theorem asCall_eq {e f : Expr} {es : List Expr} (h : asCall e = some (f, es)) : ∃ p, e = .Call f es [] p := by
  unfold asCall at h; split at h <;> simp_all
theorem asMeth_eq {e o : Expr} {m : Str} {es : List Expr} (h : asMeth e = some (o, m, es)) : ∃ a p, e = .Call (.Attribute o m a) es [] p ∧ (a.endLine == p.line) = true := by
  unfold asMeth at h
  split at h
  · split at h
    · simp only [Option.some.injEq, Prod.mk.injEq] at h
      obtain ⟨h1, h2, h3⟩ := h
      subst h1 h2 h3
      exact ⟨_, _, rfl, by assumption⟩
    · cases h
  · cases h
theorem asLc_eq {e el t i : Expr} {fs : List Expr} {sc : Scope} (h : asLc e = some (el, t, i, fs, sc)) : ∃ p, e = .ListComp el [⟨t, i, fs, 0⟩] sc p := by
  unfold asLc at h; split at h <;> simp_all
theorem asLc2_eq {e el t i t1 i1 : Expr} {sc : Scope} (h : asLc2 e = some (el, (t, i), (t1, i1), sc)) : ∃ p, e = .ListComp el [⟨t, i, [], 0⟩, ⟨t1, i1, [], 0⟩] sc p := by
  unfold asLc2 at h; split at h <;> simp_all
theorem asDict_eq {e : Expr} {ks : List (Option Expr)} {vs : List Expr} (h : asDict e = some (ks, vs)) : ∃ p, e = .Dict ks vs p := by cases e <;> simp_all [asDict]

def nStar : Expr → Bool | .Starred .. => false | _ => true
def nSlice : Expr → Bool | .Slice .. => false | _ => true
def nSet : Expr → Bool | .Set .. => false | _ => true
def nComp : Expr → Bool | .ListComp .. => false | .SetComp .. => false | .DictComp .. => false | _ => true
def nTup : Expr → Bool | .Tuple .. => false | _ => true
def nCall : Expr → Bool | .Call .. => false | _ => true
/-- a test that is asked by its value's truth -/
def nTest : Expr → Bool | .UnaryOp .. => false | .BoolOp .. => false | .IfExp .. => false | .Compare .. => false | _ => true
theorem starEach_cons {e : Expr} {es : List Expr} {env : Env} (h : nStar e = true) : starEach (e :: es) env = (false, eval e env) :: starEach es env := by
  cases e <;> first | rfl | (simp [nStar] at h)
theorem plainIx {e : Expr} (h : nSlice e = true) : PlainIx e := fun _ _ => by
  cases e <;> first | rfl | (simp [nSlice] at h)
theorem noSet {e : Expr} {env : Env} (h : nSet e = true) : ∀ x, foldedSetIterable e env x = pure x := fun _ => by
  cases e <;> first | rfl | (simp [nSet] at h)
theorem noMark {e : Expr} (o : CmpOp) (h : nSet e = true) : behindInMarks o e = false := by
  cases e <;> first | rfl | (simp [nSet] at h)
theorem noBase {e : Expr} {m : Str} {env : Env} (h : nCall e = true) : attributeBase e m env (eval e env) = eval e env := by
  cases e <;> first | rfl | (simp [nCall] at h)
theorem noSwap {e : Expr} {t : Option Expr} {l : Nat} {env : Env} (h : nComp e = true) : swapsWith e t l env = pure false := by
  cases e <;> first | rfl | (simp [nComp] at h)
theorem valTest {e : Expr} {env : Env} (h : nTest e = true) : ∀ whole, isTrue e env whole = (do let v ← whole; standAt e.pos; holding [v] (truthy v)) := fun _ => by
  cases e <;> first | rfl | (simp [nTest] at h)

structure Stt where
  N : List Str
  fns : List Str
  gi : List (Str × Int)
  gt : List (Str × List (Str × Option Nat))
def visB (sc : Scope) (x : Str) : Bool := match sc.names.lookup x with | some .local | some .cell | some .free => true | _ => false
def locB (sc : Scope) (x : Str) : Bool := match sc.names.lookup x with | some .local | some .cell => true | _ => false
def glB (sc : Scope) (x : Str) : Bool := decide (sc.names.lookup x = some .globalImplicit)
def isBlt (sc : Scope) (e : Expr) (x : Str) : Bool := decide (asName e = some x) && glB sc x
def ownP (N : List Str) (own : List Nat) : List (Str × Nat) := own.filterMap fun i => (N[i]?).map fun x => (x, i)
def AT.within (own : List Nat) : AT → Bool
  | .nm i => own.contains i
  | .tp ts => ATs.within own ts
where ATs.within (own : List Nat) : ATs → Bool
  | .nil => true
  | .cons t ts => AT.within own t && ATs.within own ts
def biName : Bi → Option Str
  | .len => some "len" | .int => some "int" | .sum => some "sum" | .max => some "max" | .tuple => some "tuple" | .list => some "list" | .nlist => some "list" | .dict => some "dict" | .abs => some "abs"
def AE.isCmp : AE → Bool
  | .cmp .. | .cmp2 .. | .tin .. => true
  | _ => false
mutual
/-- a target; ss: whose names it may store -/
def kT (S : Stt) (ss : Scope) : AT → Expr → Bool
  | .nm i, e => match asName e with
    | some x => decide (S.N[i]? = some x) && locB ss x
    | none => false
  | .tp ts, e => match asTuple e with
    | some es => kTs S ss ts es
    | none => false
def kTs (S : Stt) (ss : Scope) : ATs → List Expr → Bool
  | .nil, [] => true
  | .cons t ts, e :: es => nStar e && kT S ss t e && kTs S ss ts es
  | _, _ => false
end
mutual
def kE (S : Stt) (sc : Scope) : AE → Expr → Bool
  | .var i, e => match asName e with
    | some x => decide (S.N[i]? = some x) && visB sc x && !(x == ("__debug__" : Str)) && !(x == ("__classdict__" : Str))
    | none => false
  | .lit k, e => decide (asConst e = some k) && (litD k).isSome
  | .gint x n, e => decide (asName e = some x) && glB sc x && decide (S.gi.lookup x = some n) && !(x == ("__debug__" : Str))
  | .tup es, e => match asTuple e with
    | some l => kEs S sc es l && decide (es.len ≤ 1000)
    | none => false
  | .lst es, e => match asList e with
    | some l => kEs S sc es l && decide (es.len ≤ 1000)
    | none => false
  | .nls es, e => match asList e with
    | some l => kEs S sc es l && decide (es.len ≤ 1000)
    | none => false
  | .ndc ks es, e => match asDict e with
    | some (k, l) => decide (k.map (fun o => o.bind asConst) = ks.map fun x => some (.str x)) && decide (0 < k.length ∧ k.length ≤ 15) && decide (k.length = l.length) && kEs S sc es l
    | none => false
  | .neg a, e => match asUn e with
    | some (o, b) => decide (o = .USub) && kE S sc a b
    | none => false
  | .bin o a b, e => match asBin e with
    | some (x, p, y) => decide (p = o) && kE S sc a x && kE S sc b y
    | none => false
  | .cmp o a b, e => match asCmp e with
    | some (x, p, y) => decide (p = o) && kE S sc a x && kE S sc b y && nSet y
    | none => false
  | .cmp2 o o' a b c, e => match asCmp2 e with
    | some (x, p, p', y, z) => decide (p = o) && decide (p' = o') && kE S sc a x && kE S sc b y && kE S sc c z && nSet z
    | none => false
  | .tin ng x ents a, e => match asCmp e with
    | some (y, p, z) => decide (p = if ng then .NotIn else .In) && kE S sc a y && decide (asName z = some x) && glB sc x && decide (S.gt.lookup x = some ents) && !(x == ("__debug__" : Str))
    | none => false
  | .boo o es, e => match asBoo e with
    | some (p, l, _) => decide (p = o) && kEs S sc es l
    | none => false
  | .not a, e => match asUn e with
    | some (o, b) => decide (o = .Not) && kE S sc a b
    | none => false
  | .ife c a b, e => match asIf e with
    | some (x, y, z) => kB S sc c x && kE S sc a y && kE S sc b z
    | none => false
  | .idx a b, e => match asSub e with
    | some (x, y) => kE S sc a x && kE S sc b y && nSlice y
    | none => false
  | .sl a lo hi, e => match asSub e with
    | some (x, y) => (match asSlice y with
      | some (l, h) => kE S sc a x && kO S sc lo l && kO S sc hi h
      | none => false)
    | none => false
  | .rev a, e => match asSub e with
    | some (x, y) => kE S sc a x && asRev y
    | none => false
  | .call f es, e => match asCall e with
    | some (g, l) => (match S.fns[f]? with
      | some x => decide (asName g = some x) && glB sc x && kEs S sc es l && !(x == ("__debug__" : Str))
      | none => false)
    | none => false
  | .tab x ents k es, e => match asCall e with
    | some (g, l) => (match asSub g with
      | some (t, i) => decide (asName t = some x) && glB sc x && decide (S.gt.lookup x = some ents) && kE S sc k i && nSlice i && kEs S sc es l && decide (0 < l.length) && !(x == ("__debug__" : Str))
      | none => false)
    | none => false
  | .bi b es, e => match asCall e, biName b with
    | some (g, l), some x => isBlt sc g x && kEs S sc es l && decide (l.length = 1)
    | _, _ => false
  | .isi T a, e => match asCall e with
    | some (g, [x, t]) => isBlt sc g "isinstance" && isBlt sc t (Str.ofString T) && kE S sc a x && nStar x && nStar t && ["tuple", "str", "int", "bool"].contains T
    | _ => false
  | .told a, e => match asCall e with
    | some (g, [y]) => isBlt sc g "repr" && nStar y && (match asCall y with
      | some (g2, [z]) => isBlt sc g2 "sorted" && nStar z && (match asMeth z with
        | some (o, m, []) => decide (m = "items") && nCall o && kE S sc a o
        | _ => false)
      | _ => false)
    | _ => false
  | .lzip _ _, _ => false
  | .app l a, e => match asMeth e with
    | some (o, m, [x]) => decide (m = "append") && nCall o && nStar x && kE S sc l o && kE S sc a x
    | _ => false
  | .get d k a, e => match asMeth e with
    | some (o, m, [x, y]) => decide (m = "get") && nCall o && nStar x && nStar y && kE S sc d o && kE S sc k x && kE S sc a y
    | _ => false
  | .lc own elt t src ifs, e => match asLc e with
    | some (el, tg, it, fs, bs) => decide ((ownP S.N own).map (·.2) = own) && blkC S.N sc bs (ownP S.N own) && kSr S sc tg src it && kT S bs t tg && AT.within own t && nSet it &&
        (match ifs, fs with
          | .nil, [] => true
          | .cons b .nil, [f] => kB S (relS bs sc) b f
          | _, _ => false) && kE S (relS bs sc) elt el
    | none => false
  | .lc2 own own1 elt t src t1 src1, e => match asLc2 e with
    | some (el, (tg, it), (tg1, it1), bs) => decide ((ownP S.N own).map (·.2) = own) && blkC S.N sc bs (ownP S.N own) && own1.all own.contains && kSr S sc tg src it && kT S bs t tg && AT.within own t && nSet it &&
        kSr S (relS bs sc) tg1 src1 it1 && kT S bs t1 tg1 && AT.within own1 t1 && nSet it1 && kE S (relS bs sc) elt el
    | none => false
def kEs (S : Stt) (sc : Scope) : AEs → List Expr → Bool
  | .nil, [] => true
  | .cons e es, x :: l => nStar x && kE S sc e x && kEs S sc es l
  | _, _ => false
def kB (S : Stt) (sc : Scope) : AB → Expr → Bool
  | .val a, e => kE S sc a e && (a.isCmp || nTest e)
  | .not b, e => match asUn e with
    | some (o, x) => decide (o = .Not) && kB S sc b x
    | none => false
  | .boo o bs, e => match asBoo e with
    | some (p, l, _) => decide (p = o) && kBs S sc bs l && decide (0 < l.length)
    | none => false
def kBs (S : Stt) (sc : Scope) : ABs → List Expr → Bool
  | .nil, [] => true
  | .cons e es, x :: l => kB S sc e x && kBs S sc es l
  | _, _ => false
def kO (S : Stt) (sc : Scope) : AO → Option Expr → Bool
  | .no, none => true
  | .yes a, some e => kE S sc a e
  | _, _ => false
def kSr (S : Stt) (sc : Scope) (tg : Expr) : ASr → Expr → Bool
  | .it a, e => kE S sc a e
  | .rng a, e => match asCall e with
    | some (g, [x]) => isBlt sc g "range" && kE S sc a x && nStar x
    | _ => false
  | .rng2 a b, e => match asCall e with
    | some (g, [x, y]) => isBlt sc g "range" && kE S sc a x && kE S sc b y && nStar x && nStar y
    | _ => false
  | .enm a, e => match asCall e with
    | some (g, [x]) => isBlt sc g "enumerate" && kE S sc a x && nStar x && (asTuple tg).isSome
    | _ => false
  | .zip a b, e => match asCall e with
    | some (g, [x, y]) => isBlt sc g "zip" && kE S sc a x && kE S sc b y && nStar x && nStar y && (asTuple tg).isSome
    | _ => false
end
def stExpr : Stmt → Option Expr | .Expr e _ => some e | _ => none
def stAsg : Stmt → Option (Expr × Expr × Nat) | .Assign [t] e p => some (t, e, p.line) | _ => none
def stAug : Stmt → Option (Expr × Operator × Expr) | .AugAssign t o e _ => some (t, o, e) | _ => none
def stRet : Stmt → Option (Option Expr) | .Return e _ => some e | _ => none
def stIf : Stmt → Option (Expr × List Stmt × List Stmt) | .If c a b _ => some (c, a, b) | _ => none
def stFor : Stmt → Option (Expr × Expr × List Stmt) | .For t i b [] _ => some (t, i, b) | _ => none
theorem stExpr_eq {s : Stmt} {e : Expr} (h : stExpr s = some e) : ∃ p, s = .Expr e p := by cases s <;> simp_all [stExpr]
theorem stAsg_eq {s : Stmt} {t e : Expr} {l : Nat} (h : stAsg s = some (t, e, l)) : ∃ p : Pos, s = .Assign [t] e p ∧ p.line = l := by
  unfold stAsg at h; split at h <;> simp_all
theorem stAug_eq {s : Stmt} {t e : Expr} {o : Operator} (h : stAug s = some (t, o, e)) : ∃ p, s = .AugAssign t o e p := by cases s <;> simp_all [stAug]
theorem stRet_eq {s : Stmt} {e : Option Expr} (h : stRet s = some e) : ∃ p, s = .Return e p := by cases s <;> simp_all [stRet]
theorem stIf_eq {s : Stmt} {c : Expr} {a b : List Stmt} (h : stIf s = some (c, a, b)) : ∃ p, s = .If c a b p := by cases s <;> simp_all [stIf]
theorem stFor_eq {s : Stmt} {t i : Expr} {b : List Stmt} (h : stFor s = some (t, i, b)) : ∃ p, s = .For t i b [] p := by
  unfold stFor at h; split at h <;> simp_all
/-- a, b = x, y with plain local names -/
def asg2Ok (sc : Scope) (i j : Nat) (x y : Str) (px py : Pos) (vs : List Expr) : Bool :=
  decide (i ≠ j) && decide (sc.names.lookup x = some .local) && decide (sc.names.lookup y = some .local) && (px.line == py.line) && decide (x ≠ y) && !vs.all (foldedForSure 8) && !vs.all (constantsAlone 8) && vs.all nStar
mutual
def kS (S : Stt) (sc : Scope) : AS → Stmt → Bool
  | .expr a, s => match stExpr s with
    | some e => kE S sc a e && nComp e
    | none => false
  | .asg t a, s => match stAsg s with
    | some (tg, e, _) => kT S sc t tg && nStar tg && kE S sc a e && nComp e && (nTup e || nTup tg && (asList tg).isNone)
    | none => false
  | .asg2 i j a b, s => match stAsg s with
    | some (.Tuple [.Name x px, .Name y py] _ _, .Tuple [e, e'] _ _, _) => decide (S.N[i]? = some x) && decide (S.N[j]? = some y) && asg2Ok sc i j x y px py [e, e'] && kE S sc a e && kE S sc b e'
    | _ => false
  | .asgLc i own elt t src ifs, s => match stAsg s with
    | some (.Name y py, .ListComp el gs bs p, l) => decide (S.N[i]? = some y) && decide (sc.names.lookup y = some .local) && (py.line == p.line) && !(bs.names.any fun (n, k) => n == y && (k == .local || k == .cell)) &&
        kE S sc (.lc own elt t src ifs) (.ListComp el gs bs p)
    | _ => false
  | .asgLc2 i own own1 elt t src t1 src1, s => match stAsg s with
    | some (.Name y py, .ListComp el gs bs p, l) => decide (S.N[i]? = some y) && decide (sc.names.lookup y = some .local) && (py.line == p.line) && !(bs.names.any fun (n, k) => n == y && (k == .local || k == .cell)) &&
        kE S sc (.lc2 own own1 elt t src t1 src1) (.ListComp el gs bs p)
    | _ => false
  | .set o i a, s => match stAsg s with
    | some (tg, e, _) => (match asSub tg with
      | some (x, y) => kE S sc o x && kE S sc i y && kE S sc a e && nComp e && nSlice y
      | none => false)
    | none => false
  | .aug i op a, s => match stAug s with
    | some (tg, o, e) => (match asName tg with
      | some x => decide (S.N[i]? = some x) && locB sc x && decide (o = op) && decide (op = .Add ∨ op = .Sub) && kE S sc a e
      | none => false)
    | none => false
  | .augI o i op a, s => match stAug s with
    | some (tg, p, e) => (match asSub tg with
      | some (x, y) => kE S sc o x && kE S sc i y && decide (p = op) && kE S sc a e && nSlice y
      | none => false)
    | none => false
  | .ret a, s => match stRet s with
    | some (some e) => kE S sc a e
    | _ => false
  | .retN, s => match stRet s with
    | some none => true
    | _ => false
  | .ife c a b, s => match stIf s with
    | some (x, y, z) => kB S sc c x && kSs S sc a y && kSs S sc b z
    | none => false
  | .for_ t src b, s => match stFor s with
    | some (tg, i, y) => kSr S sc tg src i && kT S sc t tg && nSet i && kSs S sc b y
    | none => false
  | .brk, s => match s with | .Break _ => true | _ => false
  | .cnt, s => match s with | .Continue _ => true | _ => false
  | .pass, s => match s with | .Pass _ => true | _ => false
  | .nev, _ => true
def kSs (S : Stt) (sc : Scope) : ASs → List Stmt → Bool
  | .nil, [] => true
  | .cons a r, s :: l => kS S sc a s && kSs S sc r l
  | _, _ => false
end
end Pl

namespace Pl
open PySem PySem.Spec PyProof PyProof.Rows L2
theorem tupleOnce (l : Addr) (items : Array Value) (n : Nat) (dd : Option Addr) (sl : Array (Option Value)) (u : Tok) :
    Meets (Builtin.«tuple.__mul__» ⟨[.ref l, .int 1 u], []⟩) (fun _ R s => s.heap.get? l = some { cls := .type "tuple", dict := dd, data := .seq items n, slots := sl } ∧ R (.ok (.ret (Value.ref l))) s) :=
  .of_wp fun prog w A R s h => by
    obtain ⟨hp, g, d, tk, os⟩ := s
    obtain ⟨hl, h⟩ := h
    have f1 := AutoSeq1.idx_int
    wp_walk using wpAny_loadPart' hl
    exact ⟨_, rfl, h⟩
theorem tupleNever (l : Addr) (items : Array Value) (n : Nat) (dd : Option Addr) (sl : Array (Option Value)) (u : Tok) (hi : items.isEmpty = false) :
    Meets (Builtin.«tuple.__mul__» ⟨[.ref l, .int 0 u], []⟩) (fun _ R s => s.heap.get? l = some { cls := .type "tuple", dict := dd, data := .seq items n, slots := sl } ∧
      R (.ok (.ret (Value.ref s.heap.objs.size))) { s with heap := s.heap.push { cls := Value.type "tuple", data := Data.seq #[] }, toks := s.toks }) :=
  .of_wp fun prog w A R s h => by
    obtain ⟨hp, g, d, tk, os⟩ := s
    obtain ⟨hl, h⟩ := h
    have f1 := AutoSeq1.idx_int
    wp_walk using wpAny_loadPart' hl
    exact ⟨_, rfl, h⟩
theorem op_rep01 {X : Cx} : OpR X (binaryOp .Mult) (fun x y H Q => ∃ l xs, x = .ref l ∧ SqT X.K H l xs ∧ xs ≠ [] ∧ ((y = .int 1 ∧ Q (.ref l) H) ∨ (y = .int 0 ∧ ∀ p, H p = none → Q (.ref p) (upd H p (.tup []))))) := by
  intro pins s σ H x y v u Q I rx ry h
  obtain ⟨l, xs, rfl, hT, hne, q⟩ := h
  cases rx
  obtain ⟨its, r, ⟨⟨cls, dd, data, sl⟩, ho, hc, n, hd⟩, hs⟩ := I.tuple hT
  simp only at hc hd
  subst hc hd
  have hi : its.toArray.isEmpty = false := by
    cases its with
    | nil => cases r; exact absurd rfl hne
    | cons a b => rfl
  rcases q with ⟨rfl, q⟩ | ⟨rfl, q⟩
  · obtain ⟨t, rfl⟩ := ry
    exact wpAny_binaryOp_repeat_ref (T := "tuple") (U := "int") (by decide) ⟨_, ho, rfl⟩ (fun s' => typeIs_int s' 1 t) noFill_tuple_mul F.fills_int_mul F.slot_int_rmul repeat_tuple F.slot_int_index.lookup
      (call_meets F.slot_int_rmul (typeIs_int s 1 t) F.entry_int_rmul (F.args_int_rmul_2 _ _) (int_rmul_tuple 1 t l its.toArray n dd sl)
        ⟨ho, rfl, ⟨_, ho, rfl⟩, call_meets F.slot_tuple_mul ⟨_, ho, rfl⟩ F.entry_tuple_mul (F.args_tuple_mul_2 _ _) (tupleOnce l its.toArray n dd sl t) ⟨ho, .ref l, H, I, rfl, q⟩⟩)
  · obtain ⟨t, rfl⟩ := ry
    refine wpAny_binaryOp_repeat_ref (T := "tuple") (U := "int") (by decide) ⟨_, ho, rfl⟩ (fun s' => typeIs_int s' 0 t) noFill_tuple_mul F.fills_int_mul F.slot_int_rmul repeat_tuple F.slot_int_index.lookup
      (call_meets F.slot_int_rmul (typeIs_int s 0 t) F.entry_int_rmul (F.args_int_rmul_2 _ _) (int_rmul_tuple 0 t l its.toArray n dd sl)
        ⟨ho, rfl, ⟨_, ho, rfl⟩, call_meets F.slot_tuple_mul ⟨_, ho, rfl⟩ F.entry_tuple_mul (F.args_tuple_mul_2 _ _) (tupleNever l its.toArray n dd sl t hi) ⟨ho, ?_⟩⟩)
    refine ⟨.ref s.heap.objs.size, _, I.laid (t' := s.toks) (o := .tup []) (fun b ob q => Heap.get?_push_of_some _ q) (Nat.le_refl _) ?_, rfl, q _ (I.hok.fresh (Nat.le_refl _))⟩
    exact ⟨Nat.zero_le _, [], .nil, IsTup.new _ _⟩
end Pl

namespace Pl
open PySem PySem.Spec PyProof.Rows L2

section
variable {K : Kp} {H : Hp} {ρ : List Addr} {μ : Mu} {v u : V} {d e : D}
theorem sqL {F : PySem.W.Frag} {a : Addr} {vs : List V} (h : H a = some (.lst vs)) : SqL F H a vs := .inl (.inl h)
theorem sqT {F : PySem.W.Frag} {a : Addr} {vs : List V} (h : H a = some (.tup vs)) : SqT F H a vs := .inl (.inl h)
theorem Rp.toTup {ds : List D} (h : Rp K H ρ v (.tup ds)) : ∃ a vs, v = .ref a ∧ H a = some (.tup vs) ∧ (a ∉ ρ ∧ a ∉ K.hid) ∧ ds.length ≤ sizeLine ∧ RpL K H ρ vs ds := by
  cases h with
  | tup h n z r => exact ⟨_, _, rfl, h, n, z, r⟩
theorem Rp.toLst {ds : List D} (h : Rp K H ρ v (.lst ds)) : ∃ a vs, v = .ref a ∧ H a = some (.lst vs) ∧ (a ∉ ρ ∧ a ∉ K.hid) ∧ ds.length ≤ sizeLine ∧ RpL K H ρ vs ds := by
  cases h with
  | lst h n z r => exact ⟨_, _, rfl, h, n, z, r⟩
theorem Rp.toFrz {ds : List D} (h : Rp K H ρ v (.frz ds)) : ∃ a vs, v = .ref a ∧ SqL K.fr H a vs ∧ ds.length ≤ sizeLine ∧ RpL K H ρ vs ds := by
  cases h with
  | frz h z r =>
    refine ⟨_, _, rfl, ?_, z, r⟩
    rcases h with h | ⟨o, h, n⟩
    · exact sqL_emp h H
    · exact .inl (.inr ⟨o, h⟩)
theorem Rp.toRef {n : Nat} (h : Rp K H ρ v (.ref n)) : ∃ a, v = .ref a ∧ ρ[n]? = some a := by
  cases h with
  | ref h => exact ⟨_, rfl, h⟩
theorem Rp.toInt {i : Int} (h : Rp K H ρ v (.int i)) : v = .int i := by cases h; rfl
theorem Rp.toStr {i : Str} (h : Rp K H ρ v (.str i)) : v = .str i := by cases h; rfl
theorem Rp.toBl {i : Bool} (h : Rp K H ρ v (.bl i)) : v = .bl i := by cases h; rfl
theorem Rp.toNon (h : Rp K H ρ v .non) : v = .non := by cases h; rfl
/-- a place of the store that holds a list -/
theorem atLst (s : Sr K H ρ μ) {n : Nat} {ds : List D} (h : Rp K H ρ v (.ref n)) (e : μ[n]? = some (.lst ds)) : ∃ a vs, v = .ref a ∧ ρ[n]? = some a ∧ H a = some (.lst vs) ∧ ds.length ≤ sizeLine ∧ RpL K H ρ vs ds := by
  obtain ⟨a, rfl, ha⟩ := h.toRef
  cases s.at' n a _ ha e with
  | lst h z r => exact ⟨a, _, rfl, ha, h, z, r⟩
theorem atDct (s : Sr K H ρ μ) {n : Nat} {ds : List (Key × D)} (h : Rp K H ρ v (.ref n)) (e : μ[n]? = some (.dct ds)) : ∃ a vs, v = .ref a ∧ ρ[n]? = some a ∧ H a = some (.dK vs) ∧ RpK K H ρ vs ds := by
  obtain ⟨a, rfl, ha⟩ := h.toRef
  cases s.at' n a _ ha e with
  | dct h r => exact ⟨a, _, rfl, ha, h, r⟩
/-- the items of a list or tuple, where they stand -/
theorem itemsD_at (s : Sr K H ρ μ) {ds : List D} (h : Rp K H ρ v d) (e : itemsD μ d = some ds) : ∃ a vs, v = .ref a ∧ (H a = some (.lst vs) ∨ (H a = some (.tup vs) ∧ (a ∉ ρ ∧ a ∉ K.hid))) ∧ ds.length ≤ sizeLine ∧ RpL K H ρ vs ds ∧ (∀ xs, d = .tup xs → H a = some (.tup vs)) ∧ ((∀ xs, d ≠ .tup xs) → H a = some (.lst vs)) := by
  unfold itemsD at e
  split at e
  · cases e
    obtain ⟨a, vs, rfl, h1, h2, h3, h4⟩ := h.toTup
    exact ⟨a, vs, rfl, .inr ⟨h1, h2⟩, h3, h4, fun _ _ => h1, fun z => absurd rfl (z _)⟩
  · cases e
    obtain ⟨a, vs, rfl, h1, h2, h3, h4⟩ := h.toLst
    exact ⟨a, vs, rfl, .inl h1, h3, h4, (fun _ z => by cases z), fun _ => h1⟩
  · split at e
    · cases e
      obtain ⟨a, vs, rfl, h0, h1, h3, h4⟩ := atLst s h (by assumption)
      exact ⟨a, vs, rfl, .inl h1, h3, h4, (fun _ z => by cases z), fun _ => h1⟩
    · cases e
  · cases e
theorem Rp.flat (h : Rp K H ρ v d) : flatV v = flatD d := by cases h <;> rfl
theorem Rp.feq (h : Rp K H ρ v d) (h' : Rp K H ρ u e) : eqV v u = flatEq d e := by cases h <;> cases h' <;> rfl
theorem RpL.all : ∀ {vs : List V} {ds : List D}, RpL K H ρ vs ds → vs.all flatV = ds.all flatD
  | _, _, .nil => rfl
  | _, _, .cons r t => by rw [List.all_cons, List.all_cons, r.flat, RpL.all t]
theorem RpL.inV (h : Rp K H ρ v d) : ∀ {vs : List V} {ds : List D}, RpL K H ρ vs ds → inV v vs = ds.any fun y => flatEq y d
  | _, _, .nil => rfl
  | _, _, .cons r t => by
    have := RpL.inV h t
    unfold L2.inV at this ⊢
    rw [List.any_cons, List.any_cons, r.feq h, this]
mutual
theorem pyD_dp (s : Sr K H ρ μ) : ∀ {d : D} {v : V} {p : PyData}, Rp K H ρ v d → pyD μ d = some p → Dp K.fr H v p
  | .non, _, _, h, e => by cases h; cases e; exact .non
  | .bl b, _, _, h, e => by cases h; cases e; exact .bl b
  | .int b, _, _, h, e => by cases h; cases e; exact .int b
  | .str b, _, _, h, e => by cases h; cases e; exact .str b
  | .tup xs, _, _, h, e => by
    obtain ⟨a, vs, rfl, h1, _, _, h4⟩ := h.toTup
    rw [pyD, Option.map_eq_some_iff] at e
    obtain ⟨ps, e1, rfl⟩ := e
    exact .tup (sqT h1) (pyDs_dp s h4 e1)
  | .lst xs, _, _, h, e => by
    obtain ⟨a, vs, rfl, h1, _, _, h4⟩ := h.toLst
    rw [pyD, Option.map_eq_some_iff] at e
    obtain ⟨ps, e1, rfl⟩ := e
    exact .lst (sqL h1) (pyDs_dp s h4 e1)
  | .frz _, _, _, _, e => by cases e
  | .ref _, _, _, _, e => by cases e
theorem pyDs_dp (s : Sr K H ρ μ) : ∀ {ds : List D} {vs : List V} {ps : List PyData}, RpL K H ρ vs ds → pyDs μ ds = some ps → DpAll K.fr H vs ps
  | [], _, _, h, e => by cases h; cases e; exact .nil
  | d :: r, _, _, h, e => by
    cases h with
    | cons h t =>
      rw [pyDs, Option.bind_eq_some_iff] at e
      obtain ⟨p, e1, e⟩ := e
      rw [Option.map_eq_some_iff] at e
      obtain ⟨ps, e2, rfl⟩ := e
      exact .cons (pyD_dp s h e1) (pyDs_dp s t e2)
end
theorem Rp.scal {b : Bool} (h : Rp K H ρ v d) (h' : Rp K H ρ u e) (q : scalD d e = some b) : scal v u = true ∧ decide (v = u) = b := by
  cases h <;> cases h' <;> simp_all [scalD, scal]
end

def rB (K : PySem.W.Frag) (o : Operator) : R2 := fun x y H Q => ∃ φ ρ μ d e z, Sr ⟨K, φ⟩ H ρ μ ∧ Rp ⟨K, φ⟩ H ρ x d ∧ Rp ⟨K, φ⟩ H ρ y e ∧ binD o d e = some z ∧ ∀ v H', Ext ρ H ρ H' → Sr ⟨K, φ⟩ H' ρ μ → Rp ⟨K, φ⟩ H' ρ v z → Q v H'
section
variable {X : Cx}
theorem keepB {K : Kp} {H : Hp} {ρ : List Addr} {μ : Mu} {Q : VK} {z : D} (s : Sr K H ρ μ) (q : ∀ v H', Ext ρ H ρ H' → Sr K H' ρ μ → Rp K H' ρ v z → Q v H') {v : V} (r : Rp K H ρ v z) : Q v H := q v H (Ext.refl _ _) s r
theorem newB {K : Kp} {H : Hp} {ρ : List Addr} {μ : Mu} {Q : VK} {z : D} (s : Sr K H ρ μ) (q : ∀ v H', Ext ρ H ρ H' → Sr K H' ρ μ → Rp K H' ρ v z → Q v H') {p : Addr} (hp : H p = none) {o : HO} (r : Rp K (upd H p o) ρ (.ref p) z) : Q (.ref p) (upd H p o) := q _ _ (Ext.new hp) (s.new hp) r
theorem Sr.nin0 {K : Kp} {H : Hp} {ρ : List Addr} {μ : Mu} (s : Sr K H ρ μ) {p : Addr} (hp : H p = none) : p ∉ ρ := fun h => by
  obtain ⟨u, e⟩ := s.there h
  rw [hp] at e; cases e
theorem Sr.nin {K : Kp} {H : Hp} {ρ : List Addr} {μ : Mu} (s : Sr K H ρ μ) {p : Addr} (hp : H p = none) : p ∉ ρ ∧ p ∉ K.hid := ⟨s.nin0 hp, fun h => by
  obtain ⟨_, u, e⟩ := s.off p h
  rw [hp] at e; cases e⟩
theorem binR (o : Operator) : OpR X (binaryOp o) (rB X.K o) := by
  intro pins s σ H x y v u Q I rx ry h
  obtain ⟨φ, ρ, μ, d, e, z, sr, rd, re, hb, q⟩ := h
  unfold binD at hb
  split at hb
  · cases hb; rw [rd.toInt] at rx; rw [re.toInt] at ry
    exact op_add pins s σ H _ _ v u Q I rx ry ⟨_, _, rfl, rfl, keepB sr q (.int _)⟩
  · split at hb
    · cases hb; rw [rd.toStr] at rx; rw [re.toStr] at ry
      exact op_add_str pins s σ H _ _ v u Q I rx ry ⟨_, _, rfl, rfl, by assumption, keepB sr q (.str _)⟩
    · cases hb
  · split at hb
    · cases hb
      obtain ⟨a, vs, rfl, h1, h2, h3, h4⟩ := rd.toTup
      obtain ⟨b, ws, rfl, k1, k2, k3, k4⟩ := re.toTup
      have e1 := h4.length
      have e2 := k4.length
      refine op_catA pins s σ H _ _ v u Q I rx ry ⟨a, b, vs, ws, rfl, rfl, sqT h1, sqT k1, by omega, fun z => ?_, fun _ z => ?_, fun _ _ p hp => ?_⟩
      · subst z; cases h4
        exact keepB sr q re
      · subst z; cases k4
        rw [List.append_nil] at q
        exact keepB sr q rd
      · refine newB sr q hp (.tup upd_same (sr.nin hp) (by rw [List.length_append]; assumption) ?_)
        exact (h4.append k4).mono (Ext.new hp)
    · cases hb
  · split at hb
    · cases hb
      obtain ⟨a, vs, rfl, h1, h2, h3, h4⟩ := rd.toLst
      obtain ⟨b, ws, rfl, k1, k2, k3, k4⟩ := re.toLst
      have e1 := h4.length
      have e2 := k4.length
      refine op_cat pins s σ H _ _ v u Q I rx ry ⟨a, b, vs, ws, rfl, rfl, h1, k1, by omega, fun p hp => ?_⟩
      refine newB sr q hp (.lst upd_same (sr.nin hp) (by rw [List.length_append]; assumption) ?_)
      exact (h4.append k4).mono (Ext.new hp)
    · cases hb
  · cases hb; rw [rd.toInt] at rx; rw [re.toInt] at ry
    exact op_sub pins s σ H _ _ v u Q I rx ry ⟨_, _, rfl, rfl, keepB sr q (.int _)⟩
  · split at hb
    · cases hb; rw [rd.toInt] at rx; rw [re.toInt] at ry
      exact op_mul pins s σ H _ _ v u Q I rx ry ⟨_, _, rfl, rfl, by assumption, keepB sr q (.int _)⟩
    · cases hb
  · split at hb
    · cases hb; rw [rd.toInt] at rx; rw [re.toInt] at ry
      exact op_fdivW pins s σ H _ _ v u Q I rx ry ⟨_, _, rfl, rfl, by assumption, keepB sr q (.int _)⟩
    · cases hb
  · split at hb
    · cases hb; rw [rd.toInt] at rx; rw [re.toInt] at ry
      exact op_mod pins s σ H _ _ v u Q I rx ry ⟨_, _, rfl, rfl, by assumption, keepB sr q (.int _)⟩
    · cases hb
  · split at hb
    · cases hb; rw [rd.toInt] at rx; rw [re.toInt] at ry
      exact op_pow pins s σ H _ _ v u Q I rx ry ⟨_, _, rfl, rfl, by assumption, keepB sr q (.int _)⟩
    · cases hb
  · cases hb

def rBM (K : PySem.W.Frag) (o : Operator) : R2 := fun x y H Q => ∃ φ ρ μ d e z, Sr ⟨K, φ⟩ H ρ μ ∧ Rp ⟨K, φ⟩ H ρ x d ∧ Rp ⟨K, φ⟩ H ρ y e ∧ binM μ o d e = some z ∧ ∀ v H', Ext ρ H ρ H' → Sr ⟨K, φ⟩ H' ρ μ → Rp ⟨K, φ⟩ H' ρ v z → Q v H'
theorem RpL.flat {K : Kp} {H : Hp} {ρ : List Addr} {vs : List V} {ds : List D} (h : RpL K H ρ vs ds) : ∀ n : Nat, RpL K H ρ (List.replicate n vs).flatten (List.replicate n ds).flatten
  | 0 => .nil
  | n + 1 => by
    rw [List.replicate_succ, List.replicate_succ, List.flatten_cons, List.flatten_cons]
    exact h.append (RpL.flat h n)
theorem binMR (o : Operator) : OpR X (binaryOp o) (rBM X.K o) := by
  intro pins s σ H x y v u Q I rx ry h
  obtain ⟨φ, ρ, μ, d, e, z, sr, rd, re, hb, q⟩ := h
  unfold binM at hb
  split at hb
  · split at hb
    · split at hb
      · cases hb
        obtain ⟨a, vs, rfl, _, h1, h3, h4⟩ := atLst sr rd (by assumption)
        obtain ⟨b, ws, rfl, k1, k2, k3, k4⟩ := re.toLst
        have e1 := h4.length
        have e2 := k4.length
        refine op_cat pins s σ H _ _ v u Q I rx ry ⟨a, b, vs, ws, rfl, rfl, h1, k1, by omega, fun p hp => ?_⟩
        refine newB sr q hp (.lst upd_same (sr.nin hp) (by rw [List.length_append]; assumption) ?_)
        exact (h4.append k4).mono (Ext.new hp)
      · cases hb
    · cases hb
  · split at hb
    · rename_i x0 xs0 k hk
      cases hb
      obtain ⟨a, vs, rfl, h1, h2, h3, h4⟩ := rd.toTup
      have e1 := h4.length
      rw [re.toInt] at ry
      have hne : vs ≠ [] := fun z => by rw [z] at e1; simp at e1
      by_cases k1 : k = 1
      · subst k1
        refine op_rep01 pins s σ H _ _ v u Q I rx ry ⟨a, vs, rfl, sqT h1, hne, .inl ⟨rfl, keepB sr q ?_⟩⟩
        simpa using rd
      · by_cases k0 : k = 0
        · subst k0
          exact op_rep01 pins s σ H _ _ v u Q I rx ry ⟨a, vs, rfl, sqT h1, hne, .inr ⟨rfl, fun p hp => newB sr q hp (.tup upd_same (sr.nin hp) (Nat.zero_le _) .nil)⟩⟩
        · refine op_repT pins s σ H _ _ v u Q I rx ry ⟨a, k, vs, rfl, rfl, sqT h1, hne, by omega, hk.2.1, by rw [e1]; exact hk.2.2, fun p hp => newB sr q hp (.tup upd_same (sr.nin hp) ?_ ((h4.flat k.toNat).mono (Ext.new hp)))⟩
          rw [List.length_flatten, List.map_replicate, List.sum_replicate_nat, sizeLine_eq]
          have a1 : k.toNat * (x0 :: xs0).length ≤ 1000 * 1000 := Nat.mul_le_mul (by omega) hk.2.2
          omega
    · cases hb
  · exact binR o pins s σ H x y v u Q I rx ry ⟨φ, ρ, μ, d, e, z, sr, rd, re, hb, q⟩
def rC (K : PySem.W.Frag) (o : CmpOp) : R2 := fun x y H Q => ∃ φ ρ μ d e b, Sr ⟨K, φ⟩ H ρ μ ∧ Rp ⟨K, φ⟩ H ρ x d ∧ Rp ⟨K, φ⟩ H ρ y e ∧ cmpD μ o d e = some b ∧ Q (.bl b) H
theorem eqR {φ : List Addr} {ρ : List Addr} {μ : Mu} {d e : D} {b : Bool} {H : Hp} {x y : V} (sr : Sr ⟨X.K, φ⟩ H ρ μ) (rd : Rp ⟨X.K, φ⟩ H ρ x d) (re : Rp ⟨X.K, φ⟩ H ρ y e) (h : eqD μ d e = some b) :
    (scal x y = true ∧ decide (x = y) = b) ∨ ∃ p q, Dp X.K H x p ∧ Dp X.K H y q ∧ SeqAt.shaped p = true ∧ SeqAt.shaped q = true ∧ PyData.eqv p q = b := by
  unfold eqD at h
  split at h
  · cases h
    exact .inl (rd.scal re (by assumption))
  · split at h
    · unfold deepEq at h
      split at h
      · split at h
        · rename_i hs
          cases h
          exact .inr ⟨_, _, pyD_dp sr rd (by assumption), pyD_dp sr re (by assumption), hs.1, hs.2, rfl⟩
        · cases h
      · cases h
    · cases h
theorem inR {φ : List Addr} {ρ : List Addr} {μ : Mu} {d e : D} {b : Bool} {H : Hp} {x y : V} (sr : Sr ⟨X.K, φ⟩ H ρ μ) (rd : Rp ⟨X.K, φ⟩ H ρ x d) (re : Rp ⟨X.K, φ⟩ H ρ y e) (h : inD μ d e = some b) :
    (∃ p xs, y = .ref p ∧ (SqL X.K H p xs ∨ SqT X.K H p xs) ∧ flatV x = true ∧ xs.all flatV = true ∧ inV x xs = b) ∨ ∃ a o, y = .ref a ∧ DGet H a x o ∧ o.isSome = b := by
  unfold inD at h
  split at h
  · split at h
    · rename_i xs hx hc
      cases h
      obtain ⟨a, vs, rfl, h1, h2, h3, _⟩ := itemsD_at sr re hx
      refine .inl ⟨a, vs, rfl, ?_, by rw [rd.flat]; exact hc.1, by rw [h3.all]; exact hc.2, h3.inV rd⟩
      rcases h1 with h1 | h1
      · exact .inl (sqL h1)
      · exact .inr (sqT h1.1)
    · cases h
  · split at h
    · rename_i n k hk _
      split at h
      · rename_i kvs hm
        cases h
        obtain ⟨a, vs, rfl, _, h1, h2⟩ := atDct sr re hm
        have ek : x = kV k := by
          unfold keyD at hk
          split at hk <;> first | (cases hk; first | exact rd.toInt | exact rd.toStr) | cases hk
        refine .inr ⟨a, valV vs k, rfl, ek ▸ DGet.k h1, ?_⟩
        rcases h2.val k with ⟨q1, q2⟩ | ⟨v, d, q1, q2, _⟩
        · rw [q1, q2] <;> rfl
        · rw [q1, q2] <;> rfl
      · cases h
    · cases h
theorem cmpR (hu : X.A.units + 64 < cLine) (o : CmpOp) : OpR X (compareOp o) (rC X.K o) := by
  intro pins s σ H x y v u Q I rx ry h
  obtain ⟨φ, ρ, μ, d, e, b, sr, rd, re, hb, q⟩ := h
  unfold cmpD at hb
  split at hb
  · rcases eqR (X := X) sr rd re hb with ⟨h1, h2⟩ | ⟨p, p', h1, h2, h3, h4, h5⟩
    · exact op_eq pins s σ H _ _ v u Q I rx ry ⟨h1, by rw [h2]; exact q⟩
    · exact op_eqD hu pins s σ H _ _ v u Q I rx ry ⟨p, p', h1, h2, h3, h4, by rw [h5]; exact q⟩
  · rw [Option.map_eq_some_iff] at hb
    obtain ⟨b', hb, rfl⟩ := hb
    rcases eqR (X := X) sr rd re hb with ⟨h1, h2⟩ | ⟨p, p', h1, h2, h3, h4, h5⟩
    · exact op_ne pins s σ H _ _ v u Q I rx ry ⟨h1, by rw [h2]; exact q⟩
    · exact op_neD hu pins s σ H _ _ v u Q I rx ry ⟨p, p', h1, h2, h3, h4, by rw [h5]; exact q⟩
  · cases hb; rw [rd.toInt] at rx; rw [re.toInt] at ry
    exact op_lt pins s σ H _ _ v u Q I rx ry ⟨_, _, rfl, rfl, q⟩
  · cases hb; rw [rd.toInt] at rx; rw [re.toInt] at ry
    exact op_le pins s σ H _ _ v u Q I rx ry ⟨_, _, rfl, rfl, q⟩
  · cases hb; rw [rd.toInt] at rx; rw [re.toInt] at ry
    exact op_gt pins s σ H _ _ v u Q I rx ry ⟨_, _, rfl, rfl, q⟩
  · cases hb; rw [rd.toInt] at rx; rw [re.toInt] at ry
    exact op_ge pins s σ H _ _ v u Q I rx ry ⟨_, _, rfl, rfl, q⟩
  · cases hb
    rw [re.toNon] at ry
    refine op_isN pins s σ H _ _ v u Q I rx ry ⟨rfl, ?_⟩
    cases rd <;> exact q
  · cases hb; rw [re.toNon] at ry
    refine op_notN pins s σ H _ _ v u Q I rx ry ⟨rfl, ?_⟩
    cases rd <;> exact q
  · rcases inR (X := X) sr rd re hb with ⟨p, xs, rfl, h1, h2, h3, h4⟩ | ⟨a, o, rfl, h1, h2⟩
    · exact op_in_seq pins s σ H _ _ v u Q I rx ry ⟨p, xs, rfl, h1, h2, h3, by rw [h4]; exact q⟩
    · cases ry
      exact d_in (by omega) I h1 rx fun s' I' => ⟨.bl o.isSome, H, I', rfl, by rw [h2]; exact q⟩
  · rw [Option.map_eq_some_iff] at hb
    obtain ⟨b', hb, rfl⟩ := hb
    rcases inR (X := X) sr rd re hb with ⟨p, xs, rfl, h1, h2, h3, h4⟩ | ⟨a, o, rfl, h1, h2⟩
    · exact op_notIn_seq pins s σ H _ _ v u Q I rx ry ⟨p, xs, rfl, h1, h2, h3, by rw [h4]; exact q⟩
    · cases ry
      exact d_notIn (by omega) I h1 rx fun s' I' => ⟨.bl (!o.isSome), H, I', rfl, by rw [h2]; exact q⟩
  · cases hb

theorem emp_len {α β : Type} {xs : List α} {ys : List β} (h : xs.length = ys.length) : (!ys.isEmpty) = !xs.isEmpty := by
  cases xs <;> cases ys <;> simp_all
theorem truR {φ : List Addr} {ρ : List Addr} {μ : Mu} {d : D} {b : Bool} {H : Hp} {x : V} (sr : Sr ⟨X.K, φ⟩ H ρ μ) (rd : Rp ⟨X.K, φ⟩ H ρ x d) (h : truD μ d = some b) : TruV X.K x H b := by
  have emp : ∀ {vs : List V} {ds : List D}, RpL ⟨X.K, φ⟩ H ρ vs ds → (!ds.isEmpty) = !vs.isEmpty := fun r => by cases r <;> rfl
  unfold truD at h
  split at h
  · cases h; rw [rd.toNon]; exact rfl
  · cases h; rw [rd.toBl]; exact rfl
  · cases h; rw [rd.toInt]; exact rfl
  · cases h
    obtain ⟨a, vs, rfl, h1, h2, h3, h4⟩ := rd.toTup
    exact .inr (.inl ⟨vs, sqT h1, emp h4⟩)
  · cases h
    obtain ⟨a, vs, rfl, h1, h2, h3, h4⟩ := rd.toLst
    exact .inl ⟨vs, sqL h1, emp h4⟩
  · split at h
    · cases h
      obtain ⟨a, vs, rfl, _, h1, h3, h4⟩ := atLst sr rd (by assumption)
      exact .inl ⟨vs, sqL h1, emp h4⟩
    · cases h
      obtain ⟨a, vs, rfl, _, h1, h2⟩ := atDct sr rd (by assumption)
      exact .inr (.inr ⟨vs, h1, emp_len h2.length⟩)
    · cases h
  · cases h

def rI (K : PySem.W.Frag) : R2 := fun x y H Q => ∃ φ ρ μ d e z, Sr ⟨K, φ⟩ H ρ μ ∧ Rp ⟨K, φ⟩ H ρ x d ∧ Rp ⟨K, φ⟩ H ρ y e ∧ idxD μ d e = some z ∧ ∀ v, Rp ⟨K, φ⟩ H ρ v z → Q v H
theorem idxR (hu : X.A.units + 64 < cLine) : IxR X (rI X.K) := by
  intro value slice pins s σ H x y v u Q I rx ry h hs
  obtain ⟨φ, ρ, μ, d, e, z, sr, rd, re, hb, q⟩ := h
  unfold idxD at hb
  split at hb
  · obtain ⟨a, vs, rfl, h1, h2, h3, h4⟩ := rd.toTup
    rw [re.toInt] at ry
    obtain ⟨w', e1, e2⟩ := h4.at hb
    exact ix_tup value slice pins s σ H _ _ v u Q I rx ry ⟨a, vs, _, w', rfl, rfl, sqT h1, e1, q _ e2⟩ hs
  · obtain ⟨a, vs, rfl, h1, h2, h3, h4⟩ := rd.toLst
    rw [re.toInt] at ry
    obtain ⟨w', e1, e2⟩ := h4.at hb
    exact ix_list value slice pins s σ H _ _ v u Q I rx ry ⟨a, vs, _, w', rfl, rfl, sqL h1, e1, q _ e2⟩ hs
  · rename_i n
    have dict : ∀ (kvs : List (Key × D)) (k : Key), μ[n]? = some (.dct kvs) → y = kV k → valD kvs k = some z → wpAny (model X.prog X.w) X.A (subscriptTail value slice v u) (EP X pins σ Q) X.xe s := fun kvs k hm ek hv => by
      obtain ⟨a, vs, rfl, _, h1, h2⟩ := atDct sr rd hm
      rcases h2.val k with ⟨q1, _⟩ | ⟨w', d', q1, q2, q3⟩
      · rw [hv] at q1; cases q1
      · rw [hv] at q1; cases q1
        cases rx
        have g : DGet H a y (some w') := by
          rw [ek, ← q2]
          exact DGet.k h1
        exact tail_any (dict_typeIs I g) PySem.F.slot_dict_getitem.lookup (d_getItem (by omega) I g ry fun w1 s1 I1 r1 => ⟨w', H, I1, r1, q _ q3⟩) hs
    split at hb
    · obtain ⟨a, vs, rfl, _, h1, h3, h4⟩ := atLst sr rd (by assumption)
      rw [re.toInt] at ry
      obtain ⟨w', e1, e2⟩ := h4.at hb
      exact ix_list value slice pins s σ H _ _ v u Q I rx ry ⟨a, vs, _, w', rfl, rfl, sqL h1, e1, q _ e2⟩ hs
    · exact dict _ (.inl _) (by assumption) re.toInt hb
    · exact dict _ (.inr _) (by assumption) re.toStr hb
    · cases hb
  · cases hb
def rSl (K : PySem.W.Frag) : V → Option Int → Option Int → Hp → VK → Prop := fun x lo hi H Q => ∃ φ ρ μ d z, Sr ⟨K, φ⟩ H ρ μ ∧ Rp ⟨K, φ⟩ H ρ x d ∧ slD μ lo hi d = some z ∧ ∀ v H', Ext ρ H ρ H' → Sr ⟨K, φ⟩ H' ρ μ → Rp ⟨K, φ⟩ H' ρ v z → Q v H'
theorem cutL_length {α : Type} (xs : List α) (lo hi : Option Int) : (cutL xs lo hi).length ≤ xs.length := by
  unfold cutL
  rw [List.length_take, List.length_drop]
  omega
theorem slR : SlR X (rSl X.K) := by
  intro pins s σ H x v vl vu lo hi sl Q I rx hsl pl pu h
  obtain ⟨φ, ρ, μ, d, z, sr, rd, hb, q⟩ := h
  have lst : ∀ (a : Addr) (vs : List V) (ds : List D), x = .ref a → H a = some (.lst vs) → ds.length ≤ sizeLine → RpL ⟨X.K, φ⟩ H ρ vs ds → z = .lst (cutL ds lo hi) →
      ∃ T id, typeLookup (.type T) "__getitem__" = pure (some (.builtin id)) ∧ s.TypeIs v T ∧ wpAny (model X.prog X.w) X.A (getItem v (.ref sl)) (EP X pins σ Q) X.xe s := fun a vs ds e h1 h3 h4 ez => by
    subst e ez
    refine sl_list pins s σ H _ v vl vu lo hi sl Q I rx hsl pl pu ⟨a, vs, rfl, sqL h1, fun p hp => ?_⟩
    exact newB sr q hp (.lst upd_same (sr.nin hp) (Nat.le_trans (cutL_length _ _ _) h3) ((h4.cut lo hi).mono (Ext.new hp)))
  unfold slD at hb
  split at hb
  · cases hb
    obtain ⟨a, vs, rfl, h1, h2, h3, h4⟩ := rd.toTup
    have e := h4.length
    refine sl_tupA pins s σ H _ v vl vu lo hi sl Q I rx hsl pl pu ⟨a, vs, rfl, sqT h1, fun w => ?_, fun _ p hp => ?_⟩
    · rw [e] at w
      have z1 : ∀ ds : List D, (HT.sIx ds.length 0 lo = 0 ∧ HT.sIx ds.length ds.length hi = ds.length) → cutL ds lo hi = ds := fun ds w => by
        unfold cutL
        rw [w.1, w.2]
        simp
      rw [z1 _ w] at q
      exact keepB sr q rd
    · exact newB sr q hp (.tup upd_same (sr.nin hp) (Nat.le_trans (cutL_length _ _ _) h3) ((h4.cut lo hi).mono (Ext.new hp)))
  · cases hb
    obtain ⟨a, vs, rfl, h1, h2, h3, h4⟩ := rd.toLst
    exact lst a vs _ rfl h1 h3 h4 rfl
  · split at hb
    · cases hb
      obtain ⟨a, vs, rfl, _, h1, h3, h4⟩ := atLst sr rd (by assumption)
      exact lst a vs _ rfl h1 h3 h4 rfl
    · cases hb
  · cases hb
end
end Pl

namespace Pl
open PySem PySem.Spec PyProof.Rows L2

def rBi (K : PySem.W.Frag) (b : Bi) : List V → Hp → VK → Prop := fun xs H Q => ∃ φ ρ μ ds d μ', Sr ⟨K, φ⟩ H ρ μ ∧ RpL ⟨K, φ⟩ H ρ xs ds ∧ biD μ b ds = some (d, μ') ∧
  ∀ v H' ρ', Ext ρ H ρ' H' → Sr ⟨K, φ⟩ H' ρ' μ' → Rp ⟨K, φ⟩ H' ρ' v d → Q v H'
section
variable {K : Kp} {H : Hp} {ρ : List Addr} {μ : Mu}
theorem RpL.one {xs : List V} {d : D} (h : RpL K H ρ xs [d]) : ∃ v, xs = [v] ∧ Rp K H ρ v d := by
  cases h with
  | cons h t => cases t; exact ⟨_, rfl, h⟩
theorem RpL.two {xs : List V} {d e : D} (h : RpL K H ρ xs [d, e]) : ∃ v u, xs = [v, u] ∧ Rp K H ρ v d ∧ Rp K H ρ u e := by
  cases h with
  | cons h t => cases t with
    | cons h' t => cases t; exact ⟨_, _, rfl, h, h'⟩
theorem ints_of : ∀ {xs : List D} {vs : List V} {ns : List Int}, RpL K H ρ vs xs → intsOf xs = some ns → vs = ns.map V.int
  | [], _, _, h, e => by cases h; cases e; rfl
  | .int i :: r, _, _, h, e => by
    cases h with
    | cons h t =>
      rw [intsOf, Option.map_eq_some_iff] at e
      obtain ⟨ms, e1, rfl⟩ := e
      rw [ints_of t e1, h.toInt]
      rfl
  | .non :: _, _, _, _, e => by cases e
  | .bl _ :: _, _, _, _, e => by cases e
  | .str _ :: _, _, _, _, e => by cases e
  | .tup _ :: _, _, _, _, e => by cases e
  | .lst _ :: _, _, _, _, e => by cases e
  | .frz _ :: _, _, _, _, e => by cases e
  | .ref _ :: _, _, _, _, e => by cases e
theorem maxI_le : ∀ (r : List Int) (m : Int), m ≤ maxI m r ∧ (∀ y ∈ r, y ≤ maxI m r) ∧ (maxI m r = m ∨ maxI m r ∈ r)
  | [], m => ⟨Int.le_refl _, by simp, .inl rfl⟩
  | x :: r, m => by
    unfold maxI
    obtain ⟨h1, h2, h3⟩ := maxI_le r (if m < x then x else m)
    by_cases h : m < x
    · rw [if_pos h] at h1 h2 h3 ⊢
      refine ⟨by omega, fun y hy => ?_, ?_⟩
      · rcases List.mem_cons.mp hy with e | hy
        · rw [e]; exact h1
        · exact h2 y hy
      · rcases h3 with e | e
        · right; rw [e]; exact List.mem_cons_self
        · right; exact List.mem_cons_of_mem _ e
    · rw [if_neg h] at h1 h2 h3 ⊢
      refine ⟨h1, fun y hy => ?_, ?_⟩
      · rcases List.mem_cons.mp hy with e | hy
        · rw [e]; omega
        · exact h2 y hy
      · rcases h3 with e | e
        · exact .inl e
        · right; exact List.mem_cons_of_mem _ e
end
section
variable {X : Cx} {φ : List Addr}
theorem fin_new {H : Hp} {ρ : List Addr} {μ : Mu} {d : D} {Q : VK} (sr : Sr ⟨X.K, φ⟩ H ρ μ) (q : ∀ v H' ρ', Ext ρ H ρ' H' → Sr ⟨X.K, φ⟩ H' ρ' μ → Rp ⟨X.K, φ⟩ H' ρ' v d → Q v H')
    {p : Addr} (hp : H p = none) {o : HO} (r : Rp ⟨X.K, φ⟩ (upd H p o) ρ (.ref p) d) : Q (.ref p) (upd H p o) := q _ _ ρ (Ext.new hp) (sr.new hp) r
theorem fin_same {H : Hp} {ρ : List Addr} {μ : Mu} {d : D} {Q : VK} (sr : Sr ⟨X.K, φ⟩ H ρ μ) (q : ∀ v H' ρ', Ext ρ H ρ' H' → Sr ⟨X.K, φ⟩ H' ρ' μ → Rp ⟨X.K, φ⟩ H' ρ' v d → Q v H')
    {v : V} (r : Rp ⟨X.K, φ⟩ H ρ v d) : Q v H := q v H ρ (Ext.refl _ _) sr r
theorem biR_len : CallR X (.builtin "len") (rBi X.K .len) := by
  intro pins s σ H xs us Q I r h
  obtain ⟨φ, ρ, μ, ds, d, μ', sr, rs, hb, q⟩ := h
  rcases ds with _ | ⟨a, _ | ⟨_, _⟩⟩ <;> try (simp [biD] at hb; done)
  obtain ⟨v, rfl, ra⟩ := rs.one
  simp only [biD] at hb
  split at hb
  · cases hb
    obtain ⟨p, vs, rfl, h1, _, h3, _⟩ := itemsD_at sr ra (by assumption)
    refine call_len_seq pins s σ H _ us Q I r ⟨p, vs, rfl, ?_, fin_same sr q (by rw [h3.length]; exact .int _)⟩
    exact h1.imp sqL fun z => sqT z.1
  · split at hb
    · cases hb
      obtain ⟨p, vs, rfl, h1, _, h3⟩ := ra.toFrz
      exact call_len_seq pins s σ H _ us Q I r ⟨p, vs, rfl, .inl h1, fin_same sr q (by rw [h3.length]; exact .int _)⟩
    · cases hb
theorem biR_int : CallR X (.type "int") (rBi X.K .int) := by
  intro pins s σ H xs us Q I r h
  obtain ⟨φ, ρ, μ, ds, d, μ', sr, rs, hb, q⟩ := h
  rcases ds with _ | ⟨a, _ | ⟨_, _⟩⟩ <;> try (simp [biD] at hb; done)
  obtain ⟨v, rfl, ra⟩ := rs.one
  cases a <;> simp only [biD] at hb <;> first | (cases hb; done) | skip
  · cases hb
    exact call_int1 pins s σ H _ us Q I r (.inr ⟨_, by rw [ra.toBl], fin_same sr q (.int _)⟩)
  · cases hb
    exact call_int1 pins s σ H _ us Q I r (.inl ⟨_, by rw [ra.toInt], fin_same sr q (.int _)⟩)
theorem biR_abs : CallR X (.builtin "abs") (rBi X.K .abs) := by
  intro pins s σ H xs us Q I r h
  obtain ⟨φ, ρ, μ, ds, d, μ', sr, rs, hb, q⟩ := h
  rcases ds with _ | ⟨a, _ | ⟨_, _⟩⟩ <;> try (simp [biD] at hb; done)
  obtain ⟨v, rfl, ra⟩ := rs.one
  cases a <;> simp only [biD] at hb <;> first | (cases hb; done) | skip
  cases hb
  exact call_abs pins s σ H _ us Q I r ⟨_, by rw [ra.toInt], fin_same sr q (.int _)⟩
theorem biR_sum (hc : X.calm = true) : CallR X (.builtin "sum") (rBi X.K .sum) := by
  intro pins s σ H xs us Q I r h
  obtain ⟨φ, ρ, μ, ds, d, μ', sr, rs, hb, q⟩ := h
  rcases ds with _ | ⟨a, _ | ⟨_, _⟩⟩ <;> try (simp [biD] at hb; done)
  obtain ⟨v, rfl, ra⟩ := rs.one
  cases a <;> simp only [biD] at hb <;> first | (cases hb; done) | skip
  rw [Option.map_eq_some_iff] at hb
  obtain ⟨ns, h1, h2⟩ := hb
  cases h2
  obtain ⟨p, vs, rfl, k1, k2, _, k3⟩ := ra.toLst
  rw [ints_of k3 h1] at k1
  exact cr_sum hc pins s σ H _ us Q I r ⟨p, ns, rfl, sqL k1, fin_same sr q (.int _)⟩
theorem biR_max (hc : X.calm = true) : CallR X (.builtin "max") (rBi X.K .max) := by
  intro pins s σ H xs us Q I r h
  obtain ⟨φ, ρ, μ, ds, d, μ', sr, rs, hb, q⟩ := h
  rcases ds with _ | ⟨a, _ | ⟨_, _⟩⟩ <;> try (simp [biD] at hb; done)
  obtain ⟨v, rfl, ra⟩ := rs.one
  cases a <;> simp only [biD] at hb <;> first | (cases hb; done) | skip
  split at hb
  · rename_i n ns h1
    cases hb
    obtain ⟨p, vs, rfl, k1, k2, _, k3⟩ := ra.toLst
    rw [ints_of k3 h1] at k1
    refine cr_max hc pins s σ H _ us Q I r ⟨p, n :: ns, rfl, sqL k1, by simp, fun m hm hle => ?_⟩
    obtain ⟨g1, g2, g3⟩ := maxI_le ns n
    have e : m = maxI n ns := by
      refine Int.le_antisymm ?_ ?_
      · rcases List.mem_cons.mp hm with e | e
        · rw [e]; exact g1
        · exact g2 _ e
      · rcases g3 with e | e
        · rw [e]; exact hle n List.mem_cons_self
        · exact hle _ (List.mem_cons_of_mem _ e)
    rw [e]
    exact fin_same sr q (.int _)
  · cases hb
theorem biR_tuple : CallR X (.type "tuple") (rBi X.K .tuple) := by
  intro pins s σ H xs us Q I r h
  obtain ⟨φ, ρ, μ, ds, d, μ', sr, rs, hb, q⟩ := h
  rcases ds with _ | ⟨a, _ | ⟨_, _⟩⟩ <;> try (simp [biD] at hb; done)
  obtain ⟨v, rfl, ra⟩ := rs.one
  simp only [biD] at hb
  rw [Option.map_eq_some_iff] at hb
  obtain ⟨es, h1, h2⟩ := hb
  cases h2
  obtain ⟨p, vs, rfl, k1, k2, k3, k4, k5⟩ := itemsD_at sr ra h1
  rcases k1 with k1 | k1
  · exact call_tuple_of pins s σ H _ us Q I r ⟨p, vs, rfl, .inl ⟨sqL k1, fun l hl => fin_new sr q hl (.tup upd_same (sr.nin hl) k2 (k3.mono (Ext.new hl)))⟩⟩
  · exact call_tuple_of pins s σ H _ us Q I r ⟨p, vs, rfl, .inr ⟨sqT k1.1, fin_same sr q (.tup k1.1 k1.2 k2 k3)⟩⟩
theorem biR_list : CallR X (.type "list") (rBi X.K .list) := by
  intro pins s σ H xs us Q I r h
  obtain ⟨φ, ρ, μ, ds, d, μ', sr, rs, hb, q⟩ := h
  rcases ds with _ | ⟨a, _ | ⟨_, _⟩⟩ <;> try (simp [biD] at hb; done)
  obtain ⟨v, rfl, ra⟩ := rs.one
  simp only [biD] at hb
  split at hb
  · cases hb
    obtain ⟨p, vs, rfl, k1, k2, k3, _⟩ := itemsD_at sr ra (by assumption)
    exact call_list_of pins s σ H _ us Q I r ⟨p, vs, rfl, k1.imp sqL fun z => sqT z.1, fun l hl => fin_new sr q hl (.lst upd_same (sr.nin hl) k2 (k3.mono (Ext.new hl)))⟩
  · split at hb
    · cases hb
      obtain ⟨p, vs, rfl, k1, k2, k3⟩ := ra.toFrz
      exact call_list_of pins s σ H _ us Q I r ⟨p, vs, rfl, .inl k1, fun l hl => fin_new sr q hl (.lst upd_same (sr.nin hl) k2 (k3.mono (Ext.new hl)))⟩
    · cases hb
theorem Rp.newR {H : Hp} {ρ : List Addr} {μ : Mu} (sr : Sr ⟨X.K, φ⟩ H ρ μ) {p : Addr} : ∀ {H' : Hp}, Rp ⟨X.K, φ⟩ H' (ρ ++ [p]) (.ref p) (.ref μ.length) := .ref (by
  rw [← sr.len, List.getElem?_append_right (Nat.le_refl _)]
  simp)
theorem biR_nlist : CallR X (.type "list") (rBi X.K .nlist) := by
  intro pins s σ H xs us Q I r h
  obtain ⟨φ, ρ, μ, ds, d, μ', sr, rs, hb, q⟩ := h
  rcases ds with _ | ⟨a, _ | ⟨_, _⟩⟩ <;> try (simp [biD] at hb; done)
  obtain ⟨v, rfl, ra⟩ := rs.one
  simp only [biD] at hb
  rw [Option.map_eq_some_iff] at hb
  obtain ⟨es, h1, h2⟩ := hb
  cases h2
  obtain ⟨p, vs, rfl, k1, k2, k3, _⟩ := itemsD_at sr ra h1
  refine call_list_of pins s σ H _ us Q I r ⟨p, vs, rfl, k1.imp sqL fun z => sqT z.1, fun l hl => ?_⟩
  exact q _ _ (ρ ++ [l]) (Ext.newR hl) (sr.newR hl (.lst upd_same k2 (k3.mono (Ext.newR hl)))) (Rp.newR sr)
theorem biR_dict : CallR X (.type "dict") (rBi X.K .dict) := by
  intro pins s σ H xs us Q I r h
  obtain ⟨φ, ρ, μ, ds, d, μ', sr, rs, hb, q⟩ := h
  rcases ds with _ | ⟨a, _ | ⟨_, _⟩⟩ <;> try (simp [biD] at hb; done)
  obtain ⟨v, rfl, ra⟩ := rs.one
  cases a <;> simp only [biD] at hb <;> first | (cases hb; done) | skip
  split at hb
  · cases hb
    obtain ⟨p, vs, rfl, k0, k1, k2⟩ := atDct sr ra (by assumption)
    refine call_dictD pins s σ H _ us Q I r ⟨p, vs, rfl, .inl k1, fun l hl => ?_⟩
    exact q _ _ (ρ ++ [l]) (Ext.newR hl) (sr.newR hl (.dct upd_same (k2.mono (Ext.newR hl)))) (Rp.newR sr)
  · cases hb
end
section
variable {K : Kp}
/-- the type of data -/
theorem isi_ok {H : Hp} {ρ : List Addr} {v : V} {d : D} {T : String} {b : Bool} (h : Rp K H ρ v d) (e : isiD T d = some b) (ht : ["tuple", "str", "int", "bool"].contains T = true) :
    ∃ t, TyX K.fr H v t ∧ PySem.W.kitOne K.fr t (.type T) = some b := by
  have hT : T = "tuple" ∨ T = "str" ∨ T = "int" ∨ T = "bool" := by simpa using ht
  cases h with
  | non => cases e; refine ⟨_, .base .non, ?_⟩; rcases hT with rfl | rfl | rfl | rfl <;> with_unfolding_all rfl
  | bl b => cases e; refine ⟨_, .base (.bl b), ?_⟩; rcases hT with rfl | rfl | rfl | rfl <;> with_unfolding_all rfl
  | int b => cases e; refine ⟨_, .base (.int b), ?_⟩; rcases hT with rfl | rfl | rfl | rfl <;> with_unfolding_all rfl
  | str b => cases e; refine ⟨_, .base (.str b), ?_⟩; rcases hT with rfl | rfl | rfl | rfl <;> with_unfolding_all rfl
  | tup h => cases e; refine ⟨_, .base (.tup h), ?_⟩; rcases hT with rfl | rfl | rfl | rfl <;> with_unfolding_all rfl
  | lst h => cases e; refine ⟨_, .base (.lst h), ?_⟩; rcases hT with rfl | rfl | rfl | rfl <;> with_unfolding_all rfl
  | frz => cases e
  | ref => cases e
end
end Pl

namespace Pl
open PySem PySem.Spec PyProof.Rows L2

/-- what a def is to do -/
def spF (K : PySem.W.Frag) (c : Orc) (f n : Nat) : List V → Hp → VK → Prop := fun vs H Q => ∃ φ ρ μ ds d μ', vs.length = n ∧ Sr ⟨K, φ⟩ H ρ μ ∧ RpL ⟨K, φ⟩ H ρ vs ds ∧ c f ds μ = some (d, μ') ∧
  ∀ v H' ρ', Ext ρ H ρ' H' → Sr ⟨K, φ⟩ H' ρ' μ' → Rp ⟨K, φ⟩ H' ρ' v d → Q v H'
def bltNames : List Str := ["len", "int", "sum", "max", "tuple", "list", "dict", "abs", "isinstance", "repr", "sorted", "zip", "enumerate", "range", "str", "bool"]
/-- where code of the text runs -/
structure Cok (S : Stt) (c : Orc) (sc ss : Scope) (X : Cx) : Prop where
  N : X.N = S.N
  nd : S.N.Nodup
  sce : X.env.scope = sc
  st : ∀ x, locB ss x = true → Loc sc x ∧ (X.fn x = true ∨ sc.names.lookup x = some .local)
  calm : X.calm = true
  hu : X.A.units + 200 < cLine
  gd : X.A.guards = some []
  bn : ∀ x ∈ bltNames, X.mg x = none
  gi : ∀ x n, S.gi.lookup x = some n → ∃ t, X.mg x = some (.int n t)
  fn : ∀ (f : Nat) (x : Str), S.fns[f]? = some x → ∃ (fa : Addr) (fd : FuncData) (ps : List Str) (k : Nat), X.mg x = some (.ref fa) ∧ PySem.W.keepIn X.K (.ref fa) = true ∧ Binds X.K fd ps [] ∧
    Room k X.A ∧ FnG X.prog X.w X.K X.mg X.base k fa fd ps (spF X.K c f ps.length) ∧ ∀ ds μ z, c f ds μ = some z → ds.length = ps.length
  gt : ∀ x ents, S.gt.lookup x = some ents → ∃ (d : Addr) (es : Array DictEntry) (n : Nat), X.mg x = some (.ref d) ∧ KDict X.K X.w d es n ∧ ∀ (z : Str) (r : Option Nat), lookE ents z = some r → match r with
    | none => PySem.W.nsIn X.K d z = some none
    | some f => ∃ y fa, S.fns[f]? = some y ∧ X.mg y = some (.ref fa) ∧ PySem.W.nsIn X.K d z = some (some (.ref fa))

def tEv (K : PySem.W.Frag) (c : Orc) (a : AE) : TE := fun σ H Q => ∃ φ env ρ μ d μ', EnR ⟨K, φ⟩ H ρ σ env ∧ Sr ⟨K, φ⟩ H ρ μ ∧ evE c a env μ = some (d, μ') ∧
  ∀ v H' ρ', Ext ρ H ρ' H' → Sr ⟨K, φ⟩ H' ρ' μ' → Rp ⟨K, φ⟩ H' ρ' v d → Q v H'
def tAs (K : PySem.W.Frag) (c : Orc) (es : AEs) : TA := fun σ H Q => ∃ φ env ρ μ ds μ', EnR ⟨K, φ⟩ H ρ σ env ∧ Sr ⟨K, φ⟩ H ρ μ ∧ evEs c es env μ = some (ds, μ') ∧
  ∀ vs H' ρ', Ext ρ H ρ' H' → Sr ⟨K, φ⟩ H' ρ' μ' → RpL ⟨K, φ⟩ H' ρ' vs ds → Q vs H'
def tBv (K : PySem.W.Frag) (c : Orc) (b : AB) : TT := fun σ H Q => ∃ φ env ρ μ t μ', EnR ⟨K, φ⟩ H ρ σ env ∧ Sr ⟨K, φ⟩ H ρ μ ∧ evB c b env μ = some (t, μ') ∧
  ∀ H' ρ', Ext ρ H ρ' H' → Sr ⟨K, φ⟩ H' ρ' μ' → Q t H'
def tBs (K : PySem.W.Frag) (c : Orc) (o : BoolOp) (bs : ABs) : TT := fun σ H Q => ∃ φ env ρ μ t μ', EnR ⟨K, φ⟩ H ρ σ env ∧ Sr ⟨K, φ⟩ H ρ μ ∧ evBs c o bs env μ = some (t, μ') ∧
  ∀ H' ρ', Ext ρ H ρ' H' → Sr ⟨K, φ⟩ H' ρ' μ' → Q t H'
def tVv (K : PySem.W.Frag) (c : Orc) (o : BoolOp) (es : AEs) : TE := fun σ H Q => ∃ φ env ρ μ d μ', EnR ⟨K, φ⟩ H ρ σ env ∧ Sr ⟨K, φ⟩ H ρ μ ∧ evV c o es env μ = some (d, μ') ∧
  ∀ v H' ρ', Ext ρ H ρ' H' → Sr ⟨K, φ⟩ H' ρ' μ' → Rp ⟨K, φ⟩ H' ρ' v d → Q v H'
def tOv (K : PySem.W.Frag) (c : Orc) (a : AO) : TO := fun σ H Q => ∃ φ env ρ μ o μ', EnR ⟨K, φ⟩ H ρ σ env ∧ Sr ⟨K, φ⟩ H ρ μ ∧ evO c a env μ = some (o, μ') ∧
  ∀ H' ρ', Ext ρ H ρ' H' → Sr ⟨K, φ⟩ H' ρ' μ' → Q o H'
theorem peW {X : Cx} {e : Expr} {t t' : TE} (h : L2.PE X e t) (w : ∀ σ H Q, t' σ H Q → t σ H Q) : L2.PE X e t' := ⟨fun pins s σ H Q I q => h.run pins s σ H Q I (w σ H Q q)⟩
theorem paW {X : Cx} {e : List Expr} {t t' : TA} (h : L2.PA X e t) (w : ∀ σ H Q, t' σ H Q → t σ H Q) : L2.PA X e t' := ⟨fun p pins s σ H Q I q => h.run p pins s σ H Q I (w σ H Q q)⟩
theorem ptW {X : Cx} {e : Expr} {t t' : TT} (h : L2.PT X e t) (w : ∀ σ H Q, t' σ H Q → t σ H Q) : L2.PT X e t' := ⟨fun pins s σ H Q I q => h.run pins s σ H Q I (w σ H Q q)⟩
theorem poW {X : Cx} {e : Option Expr} {t t' : TO} (h : L2.PO X e t) (w : ∀ σ H Q, t' σ H Q → t σ H Q) : L2.PO X e t' := ⟨fun pins s σ H Q I q => h.run pins s σ H Q I (w σ H Q q)⟩

/-- one part, then what follows -/
theorem seq1 {K : PySem.W.Frag} {φ : List Addr} {c : Orc} {a : AE} {σ : L2.St} {H : Hp} {Q : VK} {env : En} {ρ : List Addr} {μ : Mu} {x : D × Mu} (en : EnR ⟨K, φ⟩ H ρ σ env) (sr : Sr ⟨K, φ⟩ H ρ μ) (h : evE c a env μ = some x)
    (k : ∀ v H1 ρ1, Ext ρ H ρ1 H1 → Sr ⟨K, φ⟩ H1 ρ1 x.2 → Rp ⟨K, φ⟩ H1 ρ1 v x.1 → EnR ⟨K, φ⟩ H1 ρ1 σ env → Q v H1) : tEv K c a σ H Q :=
  ⟨φ, env, ρ, μ, x.1, x.2, en, sr, h, fun v H1 ρ1 e1 s1 r1 => k v H1 ρ1 e1 s1 r1 (en.mono e1)⟩
theorem seqA {K : PySem.W.Frag} {φ : List Addr} {c : Orc} {a : AEs} {σ : L2.St} {H : Hp} {Q : List V → Hp → Prop} {env : En} {ρ : List Addr} {μ : Mu} {x : List D × Mu} (en : EnR ⟨K, φ⟩ H ρ σ env) (sr : Sr ⟨K, φ⟩ H ρ μ) (h : evEs c a env μ = some x)
    (k : ∀ v H1 ρ1, Ext ρ H ρ1 H1 → Sr ⟨K, φ⟩ H1 ρ1 x.2 → RpL ⟨K, φ⟩ H1 ρ1 v x.1 → EnR ⟨K, φ⟩ H1 ρ1 σ env → Q v H1) : tAs K c a σ H Q :=
  ⟨φ, env, ρ, μ, x.1, x.2, en, sr, h, fun v H1 ρ1 e1 s1 r1 => k v H1 ρ1 e1 s1 r1 (en.mono e1)⟩
theorem seqB {K : PySem.W.Frag} {φ : List Addr} {c : Orc} {a : AB} {σ : L2.St} {H : Hp} {Q : Bool → Hp → Prop} {env : En} {ρ : List Addr} {μ : Mu} {x : Bool × Mu} (en : EnR ⟨K, φ⟩ H ρ σ env) (sr : Sr ⟨K, φ⟩ H ρ μ) (h : evB c a env μ = some x)
    (k : ∀ H1 ρ1, Ext ρ H ρ1 H1 → Sr ⟨K, φ⟩ H1 ρ1 x.2 → EnR ⟨K, φ⟩ H1 ρ1 σ env → Q x.1 H1) : tBv K c a σ H Q :=
  ⟨φ, env, ρ, μ, x.1, x.2, en, sr, h, fun H1 ρ1 e1 s1 => k H1 ρ1 e1 s1 (en.mono e1)⟩
theorem seqO {K : PySem.W.Frag} {φ : List Addr} {c : Orc} {a : AO} {σ : L2.St} {H : Hp} {Q : Option Int → Hp → Prop} {env : En} {ρ : List Addr} {μ : Mu} {x : Option Int × Mu} (en : EnR ⟨K, φ⟩ H ρ σ env) (sr : Sr ⟨K, φ⟩ H ρ μ) (h : evO c a env μ = some x)
    (k : ∀ H1 ρ1, Ext ρ H ρ1 H1 → Sr ⟨K, φ⟩ H1 ρ1 x.2 → EnR ⟨K, φ⟩ H1 ρ1 σ env → Q x.1 H1) : tOv K c a σ H Q :=
  ⟨φ, env, ρ, μ, x.1, x.2, en, sr, h, fun H1 ρ1 e1 s1 => k H1 ρ1 e1 s1 (en.mono e1)⟩

section
variable {S : Stt} {c : Orc} {sc ss : Scope} {X : Cx}
theorem Cok.hu64 (C : Cok S c sc ss X) : X.A.units + 64 < cLine := by have := C.hu; omega
theorem gl_of {x : Str} (C : Cok S c sc ss X) (h : glB sc x = true) : Gl X x := by
  have h' : sc.names.lookup x = some .globalImplicit := of_decide_eq_true h
  show X.env.scope.names.lookup x = some .globalImplicit
  rw [C.sce]; exact h'
theorem vis_of {x : Str} (C : Cok S c sc ss X) (h : visB sc x = true) : Vis X.env.scope x := by
  unfold visB at h
  unfold Vis
  rw [C.sce]
  split at h <;> simp_all
theorem blt_of {x : Str} {e : Expr} (C : Cok S c sc ss X) (h : isBlt sc e x = true) (hx : x ∈ bltNames) : ∃ p, e = .Name x p ∧ Gl X x ∧ X.mg x = none := by
  unfold isBlt at h
  rw [Bool.and_eq_true] at h
  obtain ⟨p, e⟩ := asName_eq (of_decide_eq_true h.1)
  exact ⟨p, e, gl_of C h.2, C.bn x hx⟩
/-- a def called by values -/
theorem Cok.call (C : Cok S c sc ss X) {f : Nat} {x : Str} (h : S.fns[f]? = some x) : ∃ fa : Addr, X.mg x = some (.ref fa) ∧ PySem.W.keepIn X.K (.ref fa) = true ∧
    ∀ (pins : List (Addr × Obj)) (s : Shared) (σ : L2.St) (H : Hp) (vs : List V) (us : List Value) (Q : VK) (φ ρ : List Addr) (μ : Mu) (ds : List D) (z : D × Mu), L2.Inv X pins σ H s → Vals vs us → Sr ⟨X.K, φ⟩ H ρ μ → RpL ⟨X.K, φ⟩ H ρ vs ds → c f ds μ = some z →
      (∀ v H' ρ', Ext ρ H ρ' H' → Sr ⟨X.K, φ⟩ H' ρ' z.2 → Rp ⟨X.K, φ⟩ H' ρ' v z.1 → Q v H') → wpAny (model X.prog X.w) X.A (call (.ref fa) us) (EP X pins σ Q) X.xe s := by
  obtain ⟨fa, fd, ps, k, h1, h2, h3, h4, h5, h6⟩ := C.fn f x h
  exact ⟨fa, h1, h2, fun pins s σ H vs us Q φ ρ μ ds z I r sr rs e q => h5.call C.gd h4 h3 I r ⟨φ, ρ, μ, ds, z.1, z.2, rs.length.trans (h6 _ _ _ e), sr, rs, e, q⟩⟩
end
end Pl

namespace Pl
open PySem PySem.Spec PySem.W PySem.Calls PyProof.V PyProof.Rows L2

def sqK (t : Bool) (K : PySem.W.Frag) (H : Hp) (a : Addr) (xs : List V) : Prop := match t with
  | true => SqT K H a xs
  | false => SqL K H a xs
def itK (t : Bool) (h : Heap) (it l : Addr) (i : Nat) : Prop := match t with
  | true => h.IsTupleIter it l i
  | false => h.IsListIter it l i
def seK (t : Bool) (h : Heap) (l : Addr) (items : Array Value) : Prop := match t with
  | true => h.IsTuple l items
  | false => h.IsList l items
theorem itK.at' {t : Bool} {h h' : Heap} {it l : Addr} {i : Nat} (x : itK t h it l i) (k : ∀ o, h.get? it = some o → h'.get? it = some o) : itK t h' it l i := by
  cases t
  · exact PySem.Heap.IsListIter.at x k
  · exact PySem.Heap.IsTupleIter.at x k
theorem itK.ob {t : Bool} {h : Heap} {it l : Addr} {i : Nat} (x : itK t h it l i) : ∃ o, h.get? it = some o ∧ ∀ v, o.data ≠ .cell v := by
  cases t
  · obtain ⟨o, e, _, d⟩ := x
    exact ⟨o, e, fun v q => by rw [d] at q; cases q⟩
  · obtain ⟨o, e, _, d⟩ := x
    exact ⟨o, e, fun v q => by rw [d] at q; cases q⟩
theorem drawK {prog : Program} {w : World} {A : Around} (t : Bool) (hh : A.handled = none) (it l : Addr) (hne : l ≠ it) (items : Array Value) :
    Draws prog w A it [it, l] items.size (fun i v => items[i]? = some v) (fun i h => itK t h it l i ∧ seK t h l items) := by
  cases t
  · exact Draws.list hh it l hne items
  · exact Draws.tuple hh it l hne items
theorem begK (t : Bool) (l : Addr) (items : Array Value) : ∃ o, Begins (.ref l) o (fun h => seK t h l items) ∧ ∀ h it, Heap.get? h it = some o → itK t h it l 0 := by
  cases t
  · exact ⟨_, begins_list l items, fun h it e => ⟨_, e, rfl, rfl⟩⟩
  · exact ⟨_, begins_tuple l items, fun h it e => ⟨_, e, rfl, rfl⟩⟩
section
variable {X : Cx} {pins : List (Addr × Obj)} {σ : L2.St} {H : Hp} {s : Shared}
theorem seqK {t : Bool} (I : L2.Inv X pins σ H s) {a : Addr} {xs : List V} (h : sqK t X.K H a xs) : ∃ its : List Value, Vals xs its ∧ seK t s.heap a its.toArray := by
  cases t
  · obtain ⟨its, rv, p, _⟩ := I.list h
    exact ⟨its, rv, p.isList⟩
  · obtain ⟨its, rv, p, _⟩ := I.tuple h
    exact ⟨its, rv, p⟩
theorem injK {t : Bool} (I : L2.Inv X pins σ H s) {a : Addr} {xs ys : List V} (h : sqK t X.K H a xs) (h' : sqK t X.K H a ys) : xs = ys := by
  cases t
  · exact I.list_inj h h'
  · exact I.tuple_inj h h'
end
theorem seK.there {t : Bool} {h : Heap} {l : Addr} {items : Array Value} (x : seK t h l items) : l < h.objs.size := by
  cases t
  · obtain ⟨o, e, _⟩ := x; exact Heap.lt_size e
  · obtain ⟨o, e, _⟩ := x; exact Heap.lt_size e
/-- the two as they stand at each turn, the items in new pairs -/
def ItZ (t u : Bool) (K : PySem.W.Frag) (a b : Addr) : It :=
  ⟨fun i H => ∃ xs ys x y, sqK t K H a xs ∧ sqK u K H b ys ∧ xs[i]? = some x ∧ ys[i]? = some y,
    fun i H v H' => ∃ T x y, v = .ref T ∧ H T = none ∧ H' = upd H T (.tup [x, y]) ∧ (∀ xs, sqK t K H a xs → xs[i]? = some x) ∧ ∀ ys, sqK u K H b ys → ys[i]? = some y,
    fun i H => ∃ xs ys, sqK t K H a xs ∧ sqK u K H b ys ∧ i ≤ xs.length ∧ i ≤ ys.length ∧ (i = xs.length ∨ i = ys.length)⟩
theorem sepK {z TI TO i1 i2 a b : Addr} (D : ZipApart z TI TO i1 i2 a b) : ZipSep2 z TI TO i1 i2 [i1, a] [i2, b] where
  TIz := D.TIz
  TOz := D.TOz
  TITO := D.TITO
  TIi1 := D.TIi1
  mem1 := by simp
  zf1 := by simp [D.i1z.symm, D.l1z.symm]
  Tf1 := by simp [D.TOi1, D.l1TO.symm]
  TIi2 := D.TIi2
  mem2 := by simp
  zf2 := by simp [D.i2z.symm, D.l2z.symm]
  Tf2 := by simp [D.TOi2, D.l2TO.symm]
  sep1_2 := by simp [D.i12, D.l2i1.symm]
  sep2_1 := by simp [D.i12.symm, D.l1i2.symm]
theorem turnZ {P : Program} {w : World} {K : PySem.W.Frag} {elts : List Expr} {kk : Nat} {tpos : Pos} {t u : Bool} {a b z TI TO i1 i2 : Addr} (D : ZipApart z TI TO i1 i2 a b) :
    Turn P w K (.Tuple elts kk tpos) (ItZ t u K a b) [z, TI, TO, i1, i2] z (fun i h => IsZip h z TI TO .none ∧ IsPair h TI (.ref i1) (.ref i2) ∧ (∃ x y, IsPair h TO x y) ∧ itK t h i1 a i ∧ itK u h i2 b i) where
  mem := by simp
  obj := fun i h st c hc => by
    obtain ⟨hz, hTI, ⟨x, y, hTO⟩, h1, h2⟩ := st
    have e' : c = z ∨ c = TI ∨ c = TO ∨ c = i1 ∨ c = i2 := by simpa using hc
    rcases e' with rfl | rfl | rfl | rfl | rfl
    · exact ⟨_, hz, fun v q => nomatch q⟩
    · exact ⟨_, hTI, fun v q => nomatch q⟩
    · exact ⟨_, hTO, fun v q => nomatch q⟩
    · exact h1.ob
    · exact h2.ob
  keep := fun i h h' st k => by
    obtain ⟨hz, hTI, ⟨x, y, hTO⟩, h1, h2⟩ := st
    exact ⟨k z (by simp) _ hz, k TI (by simp) _ hTI, ⟨x, y, k TO (by simp) _ hTO⟩, h1.at' fun o => k i1 (by simp) o, h2.at' fun o => k i2 (by simp) o⟩
  item := by
    intro X hP hw hK hc i pins s σ H E I hf st hg
    subst hP hw hK
    obtain ⟨hz, hTI, ⟨x0, y0, hTO⟩, h1, h2⟩ := st
    obtain ⟨xs, ys, x, y, sx, sy, hx, hy⟩ := hg
    obtain ⟨its, rv, p⟩ := seqK I sx
    obtain ⟨jts, rv2, p2⟩ := seqK I sy
    obtain ⟨v1, hv1, r1⟩ := rv.get hx
    obtain ⟨v2, hv2, r2⟩ := rv2.get hy
    have hh : X.A.in1.handled = none := I.ok.hd hc
    have lz : z < s.heap.objs.size := Heap.lt_size hz
    have b1 : i < its.toArray.size := by simpa using (List.getElem?_eq_some_iff.mp hv1).1
    have b2 : i < jts.toArray.size := by simpa using (List.getElem?_eq_some_iff.mp hv2).1
    refine wpAny_pyNext_zipD2_item (sepK D) (drawK t hh i1 a D.l1i1 its.toArray) (drawK u hh i2 b D.l2i2 jts.toArray) hz hTI hTO ⟨h1, p⟩ ⟨h2, p2⟩ b1 b2 fun w1 w2 h' tk q1 q2 z' TO' n1 n2 hT sz keep => ?_
    have q1' : some v1 = some w1 := by rw [← hv1]; simpa using q1
    have q2' : some v2 = some w2 := by rw [← hv2]; simpa using q2
    cases q1'
    cases q2'
    refine ⟨_, rfl, wpAny_letOwnedTupleGo_zip (s := { s with heap := h', toks := tk }) z' fun h2' z2 sb => ?_⟩
    have hT2 : h2'.get? s.heap.objs.size = some { cls := .type "tuple", data := .seq #[v1, v2] } := (sb.2 _ (Nat.ne_of_gt lz)).trans hT
    have new : ObjOk X.prog X.w (upd H s.heap.objs.size (.tup [x, y])) h2' s.heap.objs.size (.tup [x, y]) :=
      ⟨by show 2 ≤ sizeLine; decide, [v1, v2], .cons r1 (.cons r2 .nil), ⟨_, hT2, rfl, _, rfl⟩⟩
    have I1 : L2.Inv X pins σ (upd H s.heap.objs.size (.tup [x, y])) { s with heap := h2', toks := tk } :=
      I.turnedNew (t' := tk) (ch := [z, TI, TO, i1, i2]) (fun c o hb q => by
        simp only [List.mem_cons, List.not_mem_nil, or_false, not_or] at hb
        exact (sb.2 c hb.1).trans (keep c o hb.1 hb.2.2.1 hb.2.2.2.1 hb.2.2.2.2 q)) hf (Nat.le_refl _) new
    refine ⟨.ref s.heap.objs.size, _, I1, rfl, ⟨_, x, y, rfl, I.hok.fresh (Nat.le_refl _), rfl, fun l hl => by rw [injK I hl sx]; exact hx, fun l hl => by rw [injK I hl sy]; exact hy⟩, ⟨z2, ?_, ⟨v1, v2, ?_⟩, ?_, ?_⟩, fun c hcm => ?_⟩
    · exact (sb.2 _ D.TIz).trans (keep _ _ D.TIz D.TITO D.TIi1 D.TIi2 hTI)
    · exact (sb.2 _ D.TOz).trans TO'
    · exact n1.1.at' fun o q => (sb.2 _ D.i1z).trans q
    · exact n2.1.at' fun o q => (sb.2 _ D.i2z).trans q
    · have lt : c < s.heap.objs.size := by
        have e' : c = z ∨ c = TI ∨ c = TO ∨ c = i1 ∨ c = i2 := by simpa using hcm
        rcases e' with rfl | rfl | rfl | rfl | rfl
        · exact lz
        · exact Heap.lt_size hTI
        · exact Heap.lt_size hTO
        · obtain ⟨_, e1, _⟩ := h1.ob; exact Heap.lt_size e1
        · obtain ⟨_, e2, _⟩ := h2.ob; exact Heap.lt_size e2
      rw [upd_ne (Nat.ne_of_lt lt)]
      exact (hf c hcm).1
  done := by
    intro X hP hw hK hc i pins s σ H E I hf st hg
    subst hP hw hK
    obtain ⟨hz, hTI, ⟨x0, y0, hTO⟩, h1, h2⟩ := st
    obtain ⟨xs, ys, sx, sy, e1, e2, e3⟩ := hg
    obtain ⟨its, rv, p⟩ := seqK I sx
    obtain ⟨jts, rv2, p2⟩ := seqK I sy
    have l1 := rv.length
    have l2 := rv2.length
    have hh : X.A.in1.handled = none := I.ok.hd hc
    refine wpAny_pyNext_zipD2_end (i := i) (sepK D) (drawK t hh i1 a D.l1i1 its.toArray) (drawK u hh i2 b D.l2i2 jts.toArray) hz hTI hTO ⟨h1, p⟩ ⟨h2, p2⟩ (by simp; omega) (by simp; omega) (by simp; omega) fun h' tk keep => ⟨rfl, ?_⟩
    exact I.turnedL (t' := tk) (ch := [z, TI, TO, i1, i2]) (fun c o hb q => by
      simp only [List.mem_cons, List.not_mem_nil, or_false, not_or] at hb
      exact keep c o hb.1 hb.2.2.1 hb.2.2.2.1 hb.2.2.2.2 q) hf
  self := fun A i s Q E st h => wpAny_pyIter_zip st.1 h
def iZ (K : PySem.W.Frag) (ta : TA) : TI := fun σ H R => ta σ H fun vs H1 => ∃ t u a b xs ys, vs = [.ref a, .ref b] ∧ sqK t K H1 a xs ∧ sqK u K H1 b ys ∧ R (ItZ t u K a b) H1
theorem pi_Z {X : Cx} {e e2 : Expr} {ta : TA} {p pos tpos : Pos} {elts : List Expr} {kk : Nat} (hg : Gl X "zip") (hm : X.mg "zip" = none) (ha : L2.PA X [e, e2] ta)
    (hs : starEach [e, e2] X.env = (false, eval e X.env) :: starEach [e2] X.env) (hpl : (backTo pos (starEach [e2] X.env)).any (·.1) = false) :
    L2.PI X (.Tuple elts kk tpos) (.Call (.Name "zip" p) [e, e2] [] pos) (iZ X.K ta) := by
  refine ⟨fun pins s σ H R I h => Call_ (ld_blt I hg hm PyProof.Rows.boot_zip (PyProof.Rows.callWith_type1 (thn (ha.run pos pins s σ H _ I h) fun us s1 q => ?_) hs hpl))⟩
  obtain ⟨vs, H1, I1, r1, t, u, a, b, xs, ys, rfl, sx, sy, q1⟩ := q
  obtain ⟨u1, u2, rfl, k1, k2⟩ := vals2 r1
  cases k1
  cases k2
  obtain ⟨its, rv, p1⟩ := seqK I1 sx
  obtain ⟨jts, rv2, p2⟩ := seqK I1 sy
  obtain ⟨o1, B1, f1⟩ := begK t a its.toArray
  obtain ⟨o2, B2, f2⟩ := begK u b jts.toArray
  refine zip_begins2 B1 B2 p1 p2 fun h' hz hTI hTO h1 h2 sz keep => wpAny_pyIter_zip hz ?_
  have I2 : L2.Inv X pins σ H1 { s1 with heap := h' } := I1.kept (t' := s1.toks) keep
  refine ⟨s1.heap.objs.size + 4, [s1.heap.objs.size + 4, s1.heap.objs.size + 2, s1.heap.objs.size + 3, s1.heap.objs.size, s1.heap.objs.size + 1], _, _, H1, rfl, I2, turnZ (PySem.W.ktu_apart s1.heap.objs.size a b p1.there p2.there), ⟨hz, hTI, ⟨_, _, hTO⟩, f1 _ _ h1, f2 _ _ h2⟩, fun c hc => ?_, q1⟩
  have low : s1.heap.objs.size ≤ c := by
    simp only [List.mem_cons, List.not_mem_nil, or_false] at hc
    rcases hc with rfl | rfl | rfl | rfl | rfl <;> first | exact Nat.le_add_right _ _ | exact Nat.le_refl _
  exact I1.fpOk low (I1.hok.fresh low)
theorem walkZ {K : PySem.W.Frag} {t u : Bool} {a b : Addr} {xs ys : List V} : L2.Walk (ItZ t u K a b) (min xs.length ys.length) (fun H => sqK t K H a xs ∧ sqK u K H b ys) (YPair (fun i => xs[i]?) (fun i => ys[i]?)) where
  goes := fun i H hi q => by
    have l1 : i < xs.length := by omega
    have l2 : i < ys.length := by omega
    exact ⟨xs, ys, xs[i], ys[i], q.1, q.2, by simp [l1], by simp [l2]⟩
  stops := fun H q => ⟨xs, ys, q.1, q.2, by omega, by omega, by omega⟩
  yields := fun i H v H' hi q y => by
    obtain ⟨T, x, z, h1, h2, h3, h4, h5⟩ := y
    exact ⟨T, x, z, h1, h2, h3, h4 xs q.1, h5 ys q.2⟩
/-- a list's or a tuple's items, where they stand and stay -/
theorem datK {K : Kp} {H : Hp} {ρ : List Addr} {v : V} {d : D} {ds : List D} (h : (d = .lst ds ∨ d = .tup ds)) (r : Rp K H ρ v d) : ∃ t a vs, v = .ref a ∧ ds.length ≤ sizeLine ∧ RpL K H ρ vs ds ∧ ∀ H2 ρ2, ExtH K.hid ρ H ρ2 H2 → sqK t K.fr H2 a vs := by
  rcases h with rfl | rfl
  · obtain ⟨a, vs, rfl, h1, h2, h3, h4⟩ := r.toLst
    exact ⟨false, a, vs, rfl, h3, h4, fun H2 ρ2 x => sqL (x.keep a _ h1 h2.1 h2.2).1⟩
  · obtain ⟨a, vs, rfl, h1, h2, h3, h4⟩ := r.toTup
    exact ⟨true, a, vs, rfl, h3, h4, fun H2 ρ2 x => sqT (x.keep a _ h1 h2.1 h2.2).1⟩
theorem zipD_is {x y : D} {z : List D} (h : zipD x y = some z) : ∃ xs ys, (x = .lst xs ∨ x = .tup xs) ∧ (y = .lst ys ∨ y = .tup ys) ∧ z = (xs.zip ys).map fun p => .tup [p.1, p.2] := by
  unfold zipD at h
  split at h <;> first
    | (cases h; exact ⟨_, _, .inl rfl, .inl rfl, rfl⟩)
    | (cases h; exact ⟨_, _, .inr rfl, .inr rfl, rfl⟩)
    | (cases h; exact ⟨_, _, .inr rfl, .inl rfl, rfl⟩)
    | cases h
end Pl

namespace Pl
open PySem PySem.Spec PySem.W PySem.Calls PyProof.V PyProof.Rows L2
theorem meets_enum1 {v : Value} {o : Obj} {J : Heap → Prop} (B : Begins v o J) :
    Meets (Builtin.«enumerate.__new__» ⟨[.type "enumerate", v], []⟩) (fun _ R s => J s.heap ∧
      R (.ok (.ret (.ref (s.heap.push o).objs.size))) { s with heap := (s.heap.push o).push { cls := .type "enumerate", data := .fields #[.none, .bool false, .ref s.heap.objs.size, rawInt 0, .none, .none] } }) :=
  .of_wp fun prog w A R s h => by
    obtain ⟨hp, g, d, tk, os⟩ := s
    obtain ⟨h1, h⟩ := h
    have hsub := sub_enumerate
    have q1 : ∀ {A' : Around} {E : Value → Shared → Prop} {Q : Value → Shared → Prop}, Q (.ref hp.objs.size) ⟨hp.push o, g, d, tk, os⟩ → wpAny (model prog w) A' (pyIter v) Q E ⟨hp, g, d, tk, os⟩ :=
      fun q => B.iter prog w _ _ ⟨hp, g, d, tk, os⟩ _ h1 q
    wp_walk using q1
    refine wpAny_stack_any fun st => wpAny_pure ?_
    split
    · rename_i c _ _ _ _ _
      cases (c == Value.type "enumerate")
      · wp_walk using q1
        exact ⟨_, rfl, h⟩
      · wp_walk using q1
        exact ⟨_, rfl, h⟩
    · wp_walk using q1
      exact ⟨_, rfl, h⟩
theorem call_enum1 {prog : Program} {w : World} {A : Around} {E : Value → Shared → Prop} {s : Shared} {v : Value} {o : Obj} {J : Heap → Prop} {Q : Value → Shared → Prop} (B : Begins v o J) (h1 : J s.heap)
    (h : ∀ h', IsEnum h' (s.heap.objs.size + 1) s.heap.objs.size 0 .none → h'.get? s.heap.objs.size = some o → h'.objs.size = s.heap.objs.size + 2 →
      (∀ b o, s.heap.get? b = some o → h'.get? b = some o) → Q (.ref (s.heap.objs.size + 1)) { s with heap := h' }) :
    wpAny (model prog w) A (call (.type "enumerate") [v]) Q E s := by
  refine callType_new F.called_enumerate (by decide) (F.typeCall_enumerate_1 _) (F.newCall_enumerate_1 _) (fun obj => F.args_object_init_2 obj _) F.entry_enumerate_new
    (meets_enum1 B) ⟨h1, ?_⟩
  have hz : (s.heap.push o).objs.size = s.heap.objs.size + 1 := Heap.size_push ..
  show _ ∧ _
  rw [hz]
  have he : IsEnum ((s.heap.push o).push { cls := .type "enumerate", data := .fields #[.none, .bool false, .ref s.heap.objs.size, rawInt 0, .none, .none] }) (s.heap.objs.size + 1) s.heap.objs.size 0 .none := by
    have := Heap.get?_push_size (s.heap.push o) (o := { cls := .type "enumerate", data := .fields #[.none, .bool false, .ref s.heap.objs.size, rawInt 0, .none, .none] }) rfl
    rw [hz] at this; exact this
  refine ⟨⟨_, he, rfl⟩, h _ he (Heap.get?_push_of_some _ (Heap.get?_push_size _ B.free)) (by rw [Heap.size_push, hz]) fun b o x => Heap.get?_push_of_some _ (Heap.get?_push_of_some _ x)⟩
/-- the items as they stand at each turn, each in a new pair -/
def ItE (t : Bool) (K : PySem.W.Frag) (a : Addr) : It :=
  ⟨fun i H => ∃ xs x, sqK t K H a xs ∧ xs[i]? = some x,
    fun i H v H' => ∃ T x, v = .ref T ∧ H T = none ∧ H' = upd H T (.tup [.int (i : Nat), x]) ∧ ∀ xs, sqK t K H a xs → xs[i]? = some x,
    fun i H => ∃ xs, sqK t K H a xs ∧ i = xs.length⟩
theorem turnE {P : Program} {w : World} {K : PySem.W.Frag} {elts : List Expr} {kk : Nat} {tpos : Pos} {t : Bool} (a e it : Addr) (h1 : e ≠ it) (h2 : e ≠ a) (h3 : a ≠ it) :
    Turn P w K (.Tuple elts kk tpos) (ItE t K a) [e, it] e (fun i h => (∃ old, IsEnum h e it ((i : Nat) : Int) old) ∧ itK t h it a i) where
  mem := by simp
  obj := fun i h st c hc => by
    obtain ⟨⟨old, he⟩, hi⟩ := st
    have e' : c = e ∨ c = it := by simpa using hc
    rcases e' with rfl | rfl
    · exact ⟨_, he, fun v q => nomatch q⟩
    · exact hi.ob
  keep := fun i h h' st k => by
    obtain ⟨⟨old, he⟩, hi⟩ := st
    exact ⟨⟨old, k e (by simp) _ he⟩, hi.at' fun o => k it (by simp) o⟩
  item := by
    intro X hP hw hK hc i pins s σ H E I hf st hg
    subst hP hw hK
    obtain ⟨⟨old, he⟩, hit⟩ := st
    obtain ⟨xs, x, hq, hx⟩ := hg
    obtain ⟨its, rv, p⟩ := seqK I hq
    obtain ⟨u, hu, ru⟩ := rv.get hx
    have hel : e < s.heap.objs.size := Heap.lt_size he
    have hh : X.A.in1.handled = none := I.ok.hd hc
    have b1 : i < its.toArray.size := by simpa using (List.getElem?_eq_some_iff.mp hu).1
    refine wpAny_pyNext_enum_itemD (drawK t hh it a h3 its.toArray) he ⟨hit, p⟩ b1 h1 (by simp [h1, h2]) fun y h' tk hy ho hst hT hsz hk => ?_
    have hy' : some u = some y := by rw [← hu]; simpa using hy
    cases hy'
    refine ⟨_, rfl, wpAny_letOwnedTupleGo_enum (s := { s with heap := h', toks := tk + 1 }) ho fun h'' he' sb => ?_⟩
    have hT2 : h''.get? s.heap.objs.size = some { cls := .type "tuple", data := .seq #[.int i tk, u] } := (sb.2 _ (Nat.ne_of_gt hel)).trans hT
    have new : ObjOk X.prog X.w (upd H s.heap.objs.size (.tup [.int (i : Nat), x])) h'' s.heap.objs.size (.tup [.int (i : Nat), x]) :=
      ⟨by show 2 ≤ sizeLine; decide, [.int i tk, u], .cons ⟨_, rfl⟩ (.cons ru .nil), ⟨_, hT2, rfl, _, rfl⟩⟩
    have I1 : L2.Inv X pins σ (upd H s.heap.objs.size (.tup [.int (i : Nat), x])) { s with heap := h'', toks := tk + 1 } :=
      I.turnedNew (t' := tk + 1) (ch := [e, it]) (fun b ob hb q => (sb.2 b (fun z => hb (by simp [z]))).trans (hk b ob (fun z => hb (by simp [z])) (fun z => hb (by simp [z])) q)) hf (Nat.le_refl _) new
    refine ⟨.ref s.heap.objs.size, _, I1, rfl, ⟨_, x, rfl, I.hok.fresh (Nat.le_refl _), rfl, fun l hl => by rw [injK I hl hq]; exact hx⟩, ⟨⟨u, ?_⟩, hst.1.at' fun o q => (sb.2 it (Ne.symm h1)).trans q⟩, fun b hb => ?_⟩
    · have e1 : ((i + 1 : Nat) : Int) = (i : Int) + 1 := by omega
      rw [e1]; exact he'
    · have hb' : b < s.heap.objs.size := by
        have e' : b = e ∨ b = it := by simpa using hb
        rcases e' with rfl | rfl
        · exact hel
        · obtain ⟨_, q, _⟩ := hit.ob; exact Heap.lt_size q
      rw [upd_ne (Nat.ne_of_lt hb')]
      exact (hf b hb).1
  done := by
    intro X hP hw hK hc i pins s σ H E I hf st hg
    subst hP hw hK
    obtain ⟨⟨old, he⟩, hit⟩ := st
    obtain ⟨xs, hq, hx⟩ := hg
    obtain ⟨its, rv, p⟩ := seqK I hq
    obtain ⟨f0, f1, f2, f3, f4, f5⟩ := hf it (by simp)
    have hl := rv.length
    have hh : X.A.in1.handled = none := I.ok.hd hc
    have hn : i = its.toArray.size := by simp; omega
    subst hn
    exact wpAny_pyNext_enum_endD (drawK t hh it a h3 its.toArray) he ⟨hit, p⟩ fun h' eb => ⟨rfl, I.turned (t' := s.toks) (fun b o hb q => eb b o hb q) f0 f1 f3 f4 f5⟩
  self := fun A i s Q E st h => let ⟨⟨_, he⟩, _⟩ := st; wpAny_pyIter_enum he h
def iE (K : PySem.W.Frag) (ta : TA) : TI := fun σ H R => ta σ H fun vs H1 => ∃ t a xs, vs = [.ref a] ∧ sqK t K H1 a xs ∧ R (ItE t K a) H1
theorem pi_E {X : Cx} {e : Expr} {ta : TA} {p pos tpos : Pos} {elts : List Expr} {kk : Nat} (hg : Gl X "enumerate") (hm : X.mg "enumerate" = none) (ha : L2.PA X [e] ta) (hs : starEach [e] X.env = [(false, eval e X.env)]) :
    L2.PI X (.Tuple elts kk tpos) (.Call (.Name "enumerate" p) [e] [] pos) (iE X.K ta) := by
  refine ⟨fun pins s σ H R I h => ?_⟩
  refine Call_ (ld_blt I hg hm boot_enumerate (PyProof.Rows.callWith_type1 (thn (ha.run pos pins s σ H _ I h) fun us s1 ⟨vs, H1, I1, r1, q1⟩ => ?_) hs rfl))
  obtain ⟨t, a, xs, ex, hq, q⟩ := q1
  subst ex
  cases r1 with
  | cons r rr =>
    cases rr
    cases r
    obtain ⟨its, rv, p'⟩ := seqK I1 hq
    obtain ⟨o1, B1, f1⟩ := begK t a its.toArray
    have low := p'.there
    refine call_enum1 B1 p' fun h' he hit hsz hk => wpAny_pyIter_enum he ?_
    have I2 : L2.Inv X pins σ H1 { s1 with heap := h' } := I1.kept (t' := s1.toks) hk
    refine ⟨s1.heap.objs.size + 1, [s1.heap.objs.size + 1, s1.heap.objs.size], _, _, H1, rfl, I2, turnE a (s1.heap.objs.size + 1) s1.heap.objs.size (Nat.succ_ne_self _) (Nat.ne_of_gt (Nat.lt_succ_of_lt low)) (Nat.ne_of_lt low), ⟨⟨.none, he⟩, f1 _ _ hit⟩, fun b hb => ?_, q⟩
    have e' : b = s1.heap.objs.size + 1 ∨ b = s1.heap.objs.size := by simpa using hb
    have hle : s1.heap.objs.size ≤ b := by
      rcases e' with z | z
      · rw [z]; exact Nat.le_add_right _ _
      · rw [z]; exact Nat.le_refl _
    exact I1.fpOk hle (I1.hok.fresh hle)
theorem walkE {K : PySem.W.Frag} {t : Bool} {a : Addr} {xs : List V} : L2.Walk (ItE t K a) xs.length (fun H => sqK t K H a xs) (YPair (fun i => some (.int (i : Nat))) (fun i => xs[i]?)) where
  goes := fun i H hi q => ⟨xs, xs[i], q, by simp [hi]⟩
  stops := fun H q => ⟨xs, q, rfl⟩
  yields := fun i H v H' hi q y => by
    obtain ⟨T, x, h1, h2, h3, h4⟩ := y
    exact ⟨T, .int (i : Nat), x, h1, h2, h3, rfl, h4 xs q⟩
end Pl

namespace Pl
open PySem PySem.Spec PyProof.Rows L2

theorem backTo_any {es : List (Bool × Sem Value)} {p : Pos} : (backTo p es).any (·.1) = es.any (·.1) := by
  unfold backTo
  rw [List.any_map]
  rfl
theorem backTo_all {es : List (Bool × Sem Value)} {p : Pos} (h : es.any (·.1) = false) : (backTo p es).all (fun x => !x.1) = true := by
  unfold backTo
  rw [List.all_map]
  rw [List.any_eq_false] at h
  rw [List.all_eq_true]
  intro x hx
  have := h x hx
  simpa using this
section
variable {S : Stt} {c : Orc} {sc ss : Scope} {X : Cx} {φ : List Addr}
theorem kEs_star : ∀ {es : AEs} {l : List Expr} {env : Env}, kEs S sc es l = true → (starEach l env).any (·.1) = false
  | .nil, [], _, _ => rfl
  | .cons a es, x :: l, env, h => by
    rw [kEs, Bool.and_eq_true, Bool.and_eq_true] at h
    have h1 := kEs_star (es := es) (l := l) (env := env) h.2
    rw [starEach_cons h.1.1, List.any_cons, h1]
    rfl
  | .nil, _ :: _, _, h => by cases h
  | .cons _ _, [], _, h => by cases h
theorem kEs_len : ∀ {es : AEs} {l : List Expr}, kEs S sc es l = true → l.length = es.len
  | .nil, [], _ => rfl
  | .cons a es, x :: l, h => by
    rw [kEs, Bool.and_eq_true, Bool.and_eq_true] at h
    rw [List.length_cons, AEs.len, kEs_len h.2]
  | .nil, _ :: _, h => by cases h
  | .cons _ _, [], h => by cases h
theorem evEs_len : ∀ {es : AEs} {env : En} {μ : Mu} {x : List D × Mu}, evEs c es env μ = some x → x.1.length = es.len
  | .nil, _, _, _, h => by cases h; rfl
  | .cons a es, env, μ, x, h => by
    rw [evEs, Option.bind_eq_some_iff] at h
    obtain ⟨y, _, h⟩ := h
    rw [Option.map_eq_some_iff] at h
    obtain ⟨z, h1, rfl⟩ := h
    rw [List.length_cons, evEs_len h1, AEs.len]
/-- a built-in function by its name -/
theorem callB {x id : String} {e : Expr} {es : List Expr} {p pos : Pos} {r : List V → Hp → VK → Prop} {t : TA} (hc : CallR X (.builtin id) r) (hg : Gl X (Str.ofString x)) (hm : X.mg (Str.ofString x) = none) (hv : bootBuiltins (Str.ofString x) = some (.builtin id)) (ha : L2.PA X (e :: es) t)
    (he : starEach (e :: es) X.env = (false, eval e X.env) :: starEach es X.env) (hs : (starEach es X.env).any (·.1) = false) (hn : Str.ofString x ≠ "__name__") (hd : (Str.ofString x == ("__debug__" : Str)) = false) :
    L2.PE X (.Call (.Name (Str.ofString x) p) (e :: es) [] pos) (tCB r t) := pe_callB hc hg hm hv ha hn hd he (backTo_any.trans hs)
theorem callT {x T : String} {e : Expr} {es : List Expr} {p pos : Pos} {r : List V → Hp → VK → Prop} {t : TA} (hc : CallR X (.type T) r) (hg : Gl X (Str.ofString x)) (hm : X.mg (Str.ofString x) = none) (hv : bootBuiltins (Str.ofString x) = some (.type T)) (ha : L2.PA X (e :: es) t)
    (he : starEach (e :: es) X.env = (false, eval e X.env) :: starEach es X.env) (hs : (starEach es X.env).any (·.1) = false) (hn : Str.ofString x ≠ "__name__") (hd : (Str.ofString x == ("__debug__" : Str)) = false) :
    L2.PE X (.Call (.Name (Str.ofString x) p) (e :: es) [] pos) (tCB r t) := pe_callTy hc hg hm hv ha hn hd he (backTo_any.trans hs)
/-- the reading of such a call -/
theorem biW {b : Bi} {es : AEs} {σ : L2.St} {H : Hp} {Q : VK} (h : tEv X.K c (.bi b es) σ H Q) : tCB (rBi X.K b) (tAs X.K c es) σ H Q := by
  obtain ⟨φ, env, ρ, μ, d, μ', en, sr, ev, q⟩ := h
  rw [evE, Option.bind_eq_some_iff] at ev
  obtain ⟨y, e1, e2⟩ := ev
  refine seqA en sr e1 fun vs H1 ρ1 x1 s1 r1 _ => ?_
  exact ⟨φ, ρ1, y.2, y.1, d, μ', s1, r1, e2, fun v H' ρ' x2 s2 r2 => q v H' ρ' (x1.trans x2) s2 r2⟩
/-- what a display of a dict makes -/
def trsOf (K : PySem.W.Frag) (c : Orc) : List Str → AEs → List (TE × TE)
  | x :: ks, .cons a es => (tC (.str x), tEv K c a) :: trsOf K c ks es
  | _, _ => []
theorem trs_read : ∀ {ks : List Str} {es : AEs} {σ : L2.St} {H : Hp} {Q : List (V × V) → Hp → Prop} {env : En} {ρ : List Addr} {μ : Mu} {x : List D × Mu}, ks.length = es.len → EnR ⟨X.K, φ⟩ H ρ σ env → Sr ⟨X.K, φ⟩ H ρ μ → evEs c es env μ = some x →
    (∀ vs H1 ρ1, Ext ρ H ρ1 H1 → Sr ⟨X.K, φ⟩ H1 ρ1 x.2 → RpL ⟨X.K, φ⟩ H1 ρ1 vs x.1 → Q ((ks.map V.str).zip vs) H1) → tPairs (trsOf X.K c ks es) σ H Q
  | [], .nil, _, H, _, _, ρ, _, _, _, en, sr, e, k => by
    cases e
    exact k [] H ρ (Ext.refl _ _) sr .nil
  | y :: ks, .cons a es, σ, H, Q, env, ρ, μ, x, hl, en, sr, e, k => by
    simp only [evEs, Option.bind_eq_some_iff, Option.map_eq_some_iff] at e
    obtain ⟨x1, e1, x2, e2, e3⟩ := e
    cases e3
    show tC (.str y) σ H fun u H1 => tEv X.K c a σ H1 fun w' H2 => tPairs (trsOf X.K c ks es) σ H2 fun ps H3 => Q ((u, w') :: ps) H3
    refine seq1 en sr e1 fun v H1 ρ1 g1 s1 r1 en1 => ?_
    refine trs_read (by simpa [AEs.len] using hl) en1 s1 e2 fun vs H2 ρ2 g2 s2 r2 => ?_
    exact k (v :: vs) H2 ρ2 (g1.trans g2) s2 (.cons (r1.mono g2) r2)
  | [], .cons _ _, _, _, _, _, _, _, _, h, _, _, _, _ => by cases h
  | _ :: _, .nil, _, _, _, _, _, _, _, h, _, _, _, _ => by cases h
theorem mergeK_nd : ∀ (more kvs : List (Key × V)), ((kvs ++ more).map (·.1)).Nodup → mergeK kvs more = kvs ++ more
  | [], kvs, _ => by simp [mergeK]
  | p :: r, kvs, h => by
    have hn : valV kvs p.1 = none := by
      cases e : valV kvs p.1 with
      | none => rfl
      | some v =>
        exfalso
        unfold valV at e
        rw [Option.map_eq_some_iff] at e
        obtain ⟨q, hq, _⟩ := e
        have h1 := List.mem_of_find?_eq_some hq
        have h2 := List.find?_some hq
        rw [List.map_append, List.nodup_append] at h
        exact h.2.2 q.1 (List.mem_map_of_mem h1) p.1 (by simp) (of_decide_eq_true h2)
    show mergeK (putK kvs p.1 p.2) r = kvs ++ p :: r
    rw [putK_new _ hn, mergeK_nd r _ (by simpa using h)]
    simp
theorem nodup_inr {ks : List Str} (h : ks.Nodup) : (ks.map Sum.inr : List Key).Nodup := List.Pairwise.map _ (fun a b hn z => hn (by cases z; rfl)) h
mutual
theorem Rp.adopt {H : Hp} {ρ : List Addr} {p : Addr} {k : List (Key × V)} {o : HO} (hp : H p = some (.dK k)) : ∀ {v : V} {d : D}, Rp ⟨X.K, φ⟩ H ρ v d → Rp ⟨X.K, φ⟩ (upd H p o) (ρ ++ [p]) v d
  | _, _, .non => .non
  | _, _, .bl b => .bl b
  | _, _, .int i => .int i
  | _, _, .str x => .str x
  | _, _, .tup h n z r => by
    have ne := ne_of h hp (by intro z; cases z)
    exact .tup (by rw [upd_ne ne]; exact h) (by simp [n.1, n.2, ne]) z (RpL.adopt hp r)
  | _, _, .lst h n z r => by
    have ne := ne_of h hp (by intro z; cases z)
    exact .lst (by rw [upd_ne ne]; exact h) (by simp [n, ne]) z (RpL.adopt hp r)
  | _, _, .frz h z r => .frz (h.imp id fun ⟨o, h, n⟩ => by
    have ne := ne_of h hp (by intro z; cases z)
    exact ⟨o, by rw [upd_ne ne]; exact h, by simp [n, ne]⟩) z (RpL.adopt hp r)
  | _, _, .ref h => .ref (by
    rw [List.getElem?_append_left (List.getElem?_eq_some_iff.mp h).1]
    exact h)
theorem RpL.adopt {H : Hp} {ρ : List Addr} {p : Addr} {k : List (Key × V)} {o : HO} (hp : H p = some (.dK k)) : ∀ {vs : List V} {ds : List D}, RpL ⟨X.K, φ⟩ H ρ vs ds → RpL ⟨X.K, φ⟩ (upd H p o) (ρ ++ [p]) vs ds
  | _, _, .nil => .nil
  | _, _, .cons h t => .cons (Rp.adopt hp h) (RpL.adopt hp t)
end
theorem RpK.adopt {H : Hp} {ρ : List Addr} {p : Addr} {k : List (Key × V)} {o : HO} (hp : H p = some (.dK k)) : ∀ {vs : List (Key × V)} {ds : List (Key × D)}, RpK ⟨X.K, φ⟩ H ρ vs ds → RpK ⟨X.K, φ⟩ (upd H p o) (ρ ++ [p]) vs ds
  | [], [], _ => trivial
  | (_, _) :: _, (_, _) :: _, ⟨h1, h2, h3⟩ => ⟨h1, Rp.adopt hp h2, RpK.adopt hp h3⟩
  | [], _ :: _, h => h.elim
  | _ :: _, [], h => h.elim
theorem Sr.adopt {H : Hp} {ρ : List Addr} {μ : Mu} {p : Addr} {k : List (Key × V)} {o : HO} {ob : Ob} (s : Sr ⟨X.K, φ⟩ H ρ μ) (hp : H p = some (.dK k)) (np : p ∉ ρ) (nh : p ∉ φ) (r : RpO ⟨X.K, φ⟩ (upd H p o) (ρ ++ [p]) p ob) : Sr ⟨X.K, φ⟩ (upd H p o) (ρ ++ [p]) (μ ++ [ob]) := by
  refine ⟨?_, by simp [s.len], fun n a ob' h1 h2 => ?_, fun a ha => ?_⟩
  · rw [List.nodup_append]
    exact ⟨s.nd, by simp, fun a ha b hb e => np (by simp at hb; rw [← hb, ← e]; exact ha)⟩
  · by_cases hn : n < ρ.length
    · rw [List.getElem?_append_left hn] at h1
      rw [List.getElem?_append_left (by rw [← s.len]; exact hn)] at h2
      have ne : a ≠ p := fun e => np (e ▸ List.mem_of_getElem? h1)
      cases s.at' n a ob' h1 h2 with
      | lst h z r => exact .lst (by rw [upd_ne ne]; exact h) z (RpL.adopt hp r)
      | dct h r => exact .dct (by rw [upd_ne ne]; exact h) (RpK.adopt hp r)
    · rw [List.getElem?_append_right (by omega)] at h1
      rw [List.getElem?_append_right (by rw [← s.len]; omega)] at h2
      rw [← s.len] at h2
      have e0 : n - ρ.length = 0 := by
        by_cases z : n - ρ.length = 0
        · exact z
        · rw [List.getElem?_eq_none (by simp; omega)] at h1; cases h1
      rw [e0] at h1 h2
      simp at h1 h2
      subst h1 h2
      exact r
  · obtain ⟨h1, u, hu⟩ := s.off a ha
    have ne : a ≠ p := fun e => nh (e ▸ ha)
    exact ⟨by simp [h1, ne], u, by rw [upd_ne ne]; exact hu⟩
theorem rpK_zip {H : Hp} {ρ : List Addr} : ∀ {ks : List Str} {vs : List V} {ds : List D}, RpL ⟨X.K, φ⟩ H ρ vs ds → RpK ⟨X.K, φ⟩ H ρ ((ks.map Sum.inr).zip vs) ((ks.map Sum.inr).zip ds)
  | [], _, _, _ => trivial
  | _ :: _, _, _, .nil => trivial
  | _ :: _, _, _, .cons h t => ⟨rfl, h, rpK_zip t⟩
theorem biR (b : Bi) (hc : X.calm = true) : ∃ x, biName b = some (Str.ofString x) ∧ Str.ofString x ∈ bltNames ∧ Str.ofString x ≠ "__name__" ∧ (Str.ofString x == ("__debug__" : Str)) = false ∧
    ((∃ id, bootBuiltins (Str.ofString x) = some (.builtin id) ∧ CallR X (.builtin id) (rBi X.K b)) ∨ ∃ T, bootBuiltins (Str.ofString x) = some (.type T) ∧ CallR X (.type T) (rBi X.K b)) := by
  cases b with
  | len => exact ⟨"len", rfl, by decide, by decide, by decide, .inl ⟨_, PySem.boot_len, biR_len⟩⟩
  | int => exact ⟨"int", rfl, by decide, by decide, by decide, .inr ⟨_, PyProof.Rows.boot_int, biR_int⟩⟩
  | sum => exact ⟨"sum", rfl, by decide, by decide, by decide, .inl ⟨_, PyProof.Rows.boot_sum, biR_sum hc⟩⟩
  | max => exact ⟨"max", rfl, by decide, by decide, by decide, .inl ⟨_, PyProof.Rows.boot_max, biR_max hc⟩⟩
  | tuple => exact ⟨"tuple", rfl, by decide, by decide, by decide, .inr ⟨_, PyProof.Rows.boot_tuple, biR_tuple⟩⟩
  | list => exact ⟨"list", rfl, by decide, by decide, by decide, .inr ⟨_, PyProof.Rows.boot_list, biR_list⟩⟩
  | nlist => exact ⟨"list", rfl, by decide, by decide, by decide, .inr ⟨_, PyProof.Rows.boot_list, biR_nlist⟩⟩
  | dict => exact ⟨"dict", rfl, by decide, by decide, by decide, .inr ⟨_, PyProof.Rows.boot_dict, biR_dict⟩⟩
  | abs => exact ⟨"abs", rfl, by decide, by decide, by decide, .inl ⟨_, PyProof.Rows.boot_abs, biR_abs⟩⟩
theorem isLst_at {H : Hp} {ρ : List Addr} {μ : Mu} {d : D} {v : V} (sr : Sr ⟨X.K, φ⟩ H ρ μ) (r : Rp ⟨X.K, φ⟩ H ρ v d) (h : isLstD μ d = true) : tyV X.K "list" v H := by
  unfold isLstD at h
  split at h
  · split at h
    · obtain ⟨a, vs, rfl, _, h1, _⟩ := atLst sr r (by assumption)
      exact .inl ⟨rfl, vs, sqL h1⟩
    · cases h
  · cases h
theorem isDct_at {H : Hp} {ρ : List Addr} {μ : Mu} {d : D} {v : V} (sr : Sr ⟨X.K, φ⟩ H ρ μ) (r : Rp ⟨X.K, φ⟩ H ρ v d) (h : isDctD μ d = true) : ∃ a, v = .ref a ∧ IsD H a := by
  unfold isDctD at h
  split at h
  · split at h
    · obtain ⟨a, vs, rfl, _, h1, _⟩ := atDct sr r (by assumption)
      exact ⟨a, rfl, .inl ⟨vs, .inl h1⟩⟩
    · cases h
  · cases h

theorem wipe_set : ∀ {own : List Nat} {σ : L2.St} {i : Nat} {x : Option V}, i ∈ own → L2.wipe (σ.set i x) own = L2.wipe σ own
  | [], _, _, _, h => by cases h
  | j :: r, σ, i, x, h => by
    unfold L2.wipe
    by_cases e : j = i
    · subst e
      have z : ∀ (own : List Nat) (σ : L2.St), (L2.wipe (σ.set j x) own).set j none = (L2.wipe σ own).set j none := by
        intro own
        induction own with
        | nil => intro σ; simp [L2.wipe, List.set_set]
        | cons q own ih =>
          intro σ
          unfold L2.wipe
          by_cases e : q = j
          · subst e
            rw [List.set_set, List.set_set]
            exact ih σ
          · rw [List.set_comm _ _ e, List.set_comm _ _ e, ih σ]
      exact z r σ
    · have h' : i ∈ r := by
        rcases List.mem_cons.mp h with z | z
        · exact absurd z.symm e
        · exact z
      rw [wipe_set h']
def gT (K : PySem.W.Frag) (t : AT) : TG := fun v σ H Q => ∃ φ env ρ μ d env', EnR ⟨K, φ⟩ H ρ σ env ∧ Sr ⟨K, φ⟩ H ρ μ ∧ Rp ⟨K, φ⟩ H ρ v d ∧ asgT t d env = some env' ∧
  ∀ σ', EnR ⟨K, φ⟩ H ρ σ' env' → (∀ own, AT.within own t = true → L2.wipe σ' own = L2.wipe σ own) → Q σ' H
def gTs (K : PySem.W.Frag) (t : ATs) : TGs := fun vs σ H Q => ∃ φ env ρ μ ds env', EnR ⟨K, φ⟩ H ρ σ env ∧ Sr ⟨K, φ⟩ H ρ μ ∧ RpL ⟨K, φ⟩ H ρ vs ds ∧ asgTs t ds env = some env' ∧
  ∀ σ', EnR ⟨K, φ⟩ H ρ σ' env' → (∀ own, AT.within.ATs.within own t = true → L2.wipe σ' own = L2.wipe σ own) → Q σ' H
theorem pgW {X : Cx} {e : Expr} {t t' : TG} (h : L2.PG X e t) (w : ∀ v σ H Q, t' v σ H Q → t v σ H Q) : L2.PG X e t' := ⟨fun pins s σ H v u Q I r q => h.run pins s σ H v u Q I r (w v σ H Q q)⟩
theorem pgsW {X : Cx} {e : List Expr} {t t' : TGs} (h : L2.PGs X e t) (w : ∀ v σ H Q, t' v σ H Q → t v σ H Q) : L2.PGs X e t' := ⟨fun pins s σ H v u Q I r q => h.run pins s σ H v u Q I r (w v σ H Q q)⟩
theorem assignEach_cons {e : Expr} {es : List Expr} {env : Env} (h : nStar e = true) : assignEach (e :: es) env = (false, assign e env) :: assignEach es env := by
  cases e <;> first | rfl | (simp [nStar] at h)
theorem kTs_plain : ∀ {ts : ATs} {es : List Expr} {env : Env}, kTs S ss ts es = true → (assignEach es env).length = ts.len ∧ (assignEach es env).findIdx? (·.1) = none
  | .nil, [], _, _ => ⟨rfl, rfl⟩
  | .cons t ts, e :: es, env, h => by
    rw [kTs, Bool.and_eq_true, Bool.and_eq_true] at h
    obtain ⟨h1, h2⟩ := kTs_plain (ts := ts) (es := es) (env := env) h.2
    rw [assignEach_cons h.1.1]
    refine ⟨by rw [List.length_cons, h1, ATs.len], ?_⟩
    rw [List.findIdx?_cons, h2]
    rfl
  | .nil, _ :: _, _, h => by cases h
  | .cons _ _, [], _, h => by cases h
theorem asgTs_len : ∀ {ts : ATs} {ds : List D} {env env' : En}, asgTs ts ds env = some env' → ds.length = ts.len
  | .nil, [], _, _, _ => rfl
  | .nil, _ :: _, _, _, h => by cases h
  | .cons _ _, [], _, _, h => by cases h
  | .cons t ts, d :: ds, env, env', h => by
    rw [asgTs, Option.bind_eq_some_iff] at h
    obtain ⟨e, _, h⟩ := h
    rw [List.length_cons, asgTs_len h, ATs.len]
mutual
theorem sT (C : Cok S c sc ss X) : ∀ (t : AT) {e : Expr}, kT S ss t e = true → L2.PG X e (gT X.K t)
  | .nm i, e, h => by
    rw [kT] at h
    split at h
    · rename_i x hx
      obtain ⟨p, rfl⟩ := asName_eq hx
      rw [Bool.and_eq_true, decide_eq_true_eq] at h
      obtain ⟨l1, l2⟩ := C.st x h.2
      refine pgW (pg_name (i := i) (by rw [C.N]; exact C.nd) (by rw [C.N]; exact h.1) (by rw [C.sce]; exact l1) (by rw [C.sce]; exact l2)) fun v σ H Q q => ?_
      obtain ⟨φ, env, ρ, μ, d, env', en, sr, r, ev, q⟩ := q
      cases ev
      refine q _ (en.set i r) fun own hw => wipe_set ?_
      simpa [AT.within] using hw
    · cases h
  | .tp ts, e, h => by
    rw [kT] at h
    split at h
    · rename_i es hx
      obtain ⟨k, p, rfl⟩ := asTuple_eq hx
      obtain ⟨n1, n2⟩ := kTs_plain (env := X.env) h
      refine pgW (pg_tup (n := ts.len) C.calm (sTs C ts h) n1 n2) fun v σ H Q q => ?_
      obtain ⟨φ, env, ρ, μ, d, env', en, sr, r, ev, q⟩ := q
      cases d with
      | tup xs =>
        rw [asgT] at ev
        obtain ⟨a, vs, rfl, h1, h2, h3, h4⟩ := r.toTup
        exact ⟨a, vs, rfl, sqT h1, by rw [h4.length, asgTs_len ev], φ, env, ρ, μ, xs, env', en, sr, h4, ev, q⟩
      | _ => cases ev
    · cases h
theorem sTs (C : Cok S c sc ss X) : ∀ (t : ATs) {es : List Expr}, kTs S ss t es = true → L2.PGs X es (gTs X.K t)
  | .nil, es, h => by
    cases es with
    | cons => cases h
    | nil =>
      refine pgsW pgs_nil fun v σ H Q q => ?_
      obtain ⟨φ, env, ρ, μ, ds, env', en, sr, r, ev, q⟩ := q
      cases ds with
      | cons => cases ev
      | nil =>
        cases ev
        cases r
        exact ⟨rfl, q σ en fun _ _ => rfl⟩
  | .cons t ts, es, h => by
    cases es with
    | nil => cases h
    | cons e es =>
      rw [kTs, Bool.and_eq_true, Bool.and_eq_true] at h
      refine pgsW (pgs_cons (sT C t h.1.2) (sTs C ts h.2) (by rw [assignEach_cons h.1.1]; rfl)) fun v σ H Q q => ?_
      obtain ⟨φ, env, ρ, μ, ds, env', en, sr, r, ev, q⟩ := q
      cases r with
      | nil => cases ev
      | cons r rr =>
        rw [asgTs, Option.bind_eq_some_iff] at ev
        obtain ⟨e1, ev1, ev2⟩ := ev
        refine ⟨_, _, rfl, φ, env, ρ, μ, _, e1, en, sr, r, ev1, fun σ1 en1 w1 => ?_⟩
        refine ⟨φ, e1, ρ, μ, _, env', en1, sr, rr, ev2, fun σ2 en2 w2 => q σ2 en2 fun own hw => ?_⟩
        rw [AT.within.ATs.within, Bool.and_eq_true] at hw
        rw [w2 own hw.2, w1 own hw.1]
end
def tSr (K : PySem.W.Frag) (c : Orc) (a : ASr) : TI := fun σ H R => ∃ φ env ρ μ items g μ', EnR ⟨K, φ⟩ H ρ σ env ∧ Sr ⟨K, φ⟩ H ρ μ ∧ evSrc c a env μ = some (items, g, μ') ∧
  ∀ (J : It) (G : Hp → Prop) (Y : Nat → Hp → V → Hp → Prop) (ρ' : List Addr) (H' : Hp), Ext ρ H ρ' H' → Sr ⟨K, φ⟩ H' ρ' μ' → items.length ≤ sizeLine → L2.Walk J items.length G Y →
    (∀ φ2 H2 ρ2 μ2, ExtH φ ρ' H' ρ2 H2 → Sr ⟨K, φ2⟩ H2 ρ2 μ2 → okG g μ2 = true → G H2) →
    (∀ φ2 i H1 ρ1 μ1 x H2, i < items.length → ExtH φ ρ' H' ρ1 H1 → Sr ⟨K, φ2⟩ H1 ρ1 μ1 → (∀ v d, Rp ⟨K, φ⟩ H' ρ' v d → Rp ⟨K, φ2⟩ H1 ρ1 v d) → okG g μ1 = true → Y i H1 x H2 →
      ∃ d, items[i]? = some d ∧ Ext ρ1 H1 ρ1 H2 ∧ Sr ⟨K, φ2⟩ H2 ρ1 μ1 ∧ Rp ⟨K, φ2⟩ H2 ρ1 x d) → R J H'
theorem piW {X : Cx} {tg e : Expr} {t t' : TI} (h : L2.PI X tg e t) (w : ∀ σ H Q, t' σ H Q → t σ H Q) : L2.PI X tg e t' := ⟨fun pins s σ H Q I q => h.run pins s σ H Q I (w σ H Q q)⟩
/-- over a list or a tuple, as it turns out -/
def iSeq (K : PySem.W.Frag) (tl : TE) : TI := fun σ H R => tl σ H fun x H1 => ∃ a, x = .ref a ∧ ((∃ xs, SqL K H1 a xs) ∧ R (Itl K a) H1 ∨ (∃ xs, SqT K H1 a xs) ∧ R (Itt K a) H1)
theorem pi_seq {tg l : Expr} {tl : TE} (hl : L2.PE X l tl) : L2.PI X tg l (iSeq X.K tl) := by
  refine ⟨fun pins s σ H R I h => thn (hl.run pins s σ H _ I h) fun v s1 hq => ?_⟩
  obtain ⟨x, H1, I1, r1, a, rfl, q⟩ := hq
  cases r1
  have fp : ∀ b ∈ [s1.heap.objs.size], FpOk X pins H1 b := fun b hb => by
    rw [List.mem_singleton] at hb
    rw [hb]
    exact I1.fpOk (Nat.le_refl _) (I1.hok.fresh (Nat.le_refl _))
  have kept : ∀ o : Obj, L2.Inv X pins σ H1 { s1 with heap := s1.heap.push o } := fun o => I1.kept (t' := s1.toks) fun b u e => Heap.get?_push_of_some _ e
  rcases q with ⟨⟨xs, hx⟩, q⟩ | ⟨⟨xs, hx⟩, q⟩
  · obtain ⟨its, rv, p, hz⟩ := I1.list hx
    exact wpAny_pyIter_list p.isList ⟨_, _, _, _, H1, rfl, kept _, turn_list a _, ⟨_, Heap.get?_push_size _ rfl, rfl, rfl⟩, fp, q⟩
  · obtain ⟨its, rv, p, hz⟩ := I1.tuple hx
    exact wpAny_pyIter_tuple (show s1.heap.IsTuple a its.toArray from p) ⟨_, _, _, _, H1, rfl, kept _, turn_tuple a _, ⟨_, Heap.get?_push_size _ rfl, rfl, rfl⟩, fp, q⟩
theorem seqL_get {F : PySem.W.Frag} {φ : List Addr} {H : Hp} {ρ : List Addr} {vs : List V} {ds : List D} (h : RpL ⟨F, φ⟩ H ρ vs ds) {i : Nat} {x : V} (e : vs[i]? = some x) : ∃ d, ds[i]? = some d ∧ Rp ⟨F, φ⟩ H ρ x d := h.of_get e
theorem RpL.conv {k k' : Kp} {H H' : Hp} {ρ ρ' : List Addr} (f : ∀ v d, Rp k H ρ v d → Rp k' H' ρ' v d) : ∀ {vs : List V} {ds : List D}, RpL k H ρ vs ds → RpL k' H' ρ' vs ds
  | _, _, .nil => .nil
  | _, _, .cons h t => .cons (f _ _ h) (RpL.conv f t)
theorem okG_at {n : Nat} {xs : List D} {μ : Mu} (h : okG (some (n, xs)) μ = true) : μ[n]? = some (.lst xs) := by
  unfold okG at h
  cases hm : μ[n]? with
  | none => simp [hm] at h
  | some o =>
    cases o with
    | lst ys => simp only [hm] at h; rw [beqDs_eq h]
    | dct ys => simp [hm] at h

theorem Cok.blk (C : Cok S c sc ss X) {s : Shared} {H : Hp} {bs : Scope} {cl : List (Str × Addr)} {A : Addr} {fp : List Addr} :
    Cok S c (relS bs sc) bs (X.blk s H bs (compEnvC bs cl A X.env) fp) where
  N := C.N
  nd := C.nd
  sce := by
    show relS bs X.env.scope = relS bs sc
    rw [C.sce]
  st := fun x h => by
    unfold locB at h
    split at h
    · rename_i k
      have e := lookup_relS_keep (sc := sc) (k := .local) (by decide) k
      exact ⟨.inl e, .inr e⟩
    · rename_i k
      have e := lookup_relS_keep (sc := sc) (k := .cell) (by decide) k
      refine ⟨.inr e, .inl ?_⟩
      show (bs.names.lookup x == some .cell) = true
      rw [k]
      rfl
    · cases h
  calm := C.calm
  hu := C.hu
  gd := C.gd
  bn := C.bn
  gi := C.gi
  fn := C.fn
  gt := C.gt
theorem ptsW {X : Cx} {e : List Expr} {t t' : TT} (h : L2.PTs X e t) (w : ∀ σ H Q, t' σ H Q → t σ H Q) : L2.PTs X e t' := ⟨fun pins s σ H Q I q => h.run pins s σ H Q I (w σ H Q q)⟩
mutual
theorem Rp.hide {φ : List Addr} {F : PySem.W.Frag} {H : Hp} {ρ : List Addr} {p : Addr} {o : HO} (hp : H p = none) : ∀ {v : V} {d : D}, Rp ⟨F, φ⟩ H ρ v d → Rp ⟨F, p :: φ⟩ (upd H p o) ρ v d
  | _, _, .non => .non
  | _, _, .bl b => .bl b
  | _, _, .int i => .int i
  | _, _, .str x => .str x
  | _, _, .tup h n z r => by
    have ne := ne_of_none h hp
    exact .tup (by rw [upd_ne ne]; exact h) ⟨n.1, by
      intro q
      rcases List.mem_cons.mp q with e | e
      · exact ne e
      · exact n.2 e⟩ z (RpL.hide hp r)
  | _, _, .lst h n z r => by
    have ne := ne_of_none h hp
    exact .lst (by rw [upd_ne ne]; exact h) ⟨n.1, by
      intro q
      rcases List.mem_cons.mp q with e | e
      · exact ne e
      · exact n.2 e⟩ z (RpL.hide hp r)
  | _, _, .frz h z r => .frz (h.imp id fun ⟨o, h, n, m⟩ => by
    have ne := ne_of_none h hp
    exact ⟨o, by rw [upd_ne ne]; exact h, n, by
      intro q
      rcases List.mem_cons.mp q with e | e
      · exact ne e
      · exact m e⟩) z (RpL.hide hp r)
  | _, _, .ref h => .ref h
theorem RpL.hide {φ : List Addr} {F : PySem.W.Frag} {H : Hp} {ρ : List Addr} {p : Addr} {o : HO} (hp : H p = none) : ∀ {vs : List V} {ds : List D}, RpL ⟨F, φ⟩ H ρ vs ds → RpL ⟨F, p :: φ⟩ (upd H p o) ρ vs ds
  | _, _, .nil => .nil
  | _, _, .cons h t => .cons (Rp.hide hp h) (RpL.hide hp t)
end
/-- the new list grows: what leans on nothing of it stays -/
theorem RpK.conv {k k' : Kp} {H H' : Hp} {ρ ρ' : List Addr} (f : ∀ v d, Rp k H ρ v d → Rp k' H' ρ' v d) : ∀ {vs : List (Key × V)} {ds : List (Key × D)}, RpK k H ρ vs ds → RpK k' H' ρ' vs ds
  | [], [], _ => trivial
  | (_, _) :: _, (_, _) :: _, ⟨h1, h2, h3⟩ => ⟨h1, f _ _ h2, RpK.conv f h3⟩
  | [], _ :: _, h => h.elim
  | _ :: _, [], h => h.elim
theorem Sr.hide {φ : List Addr} {F : PySem.W.Frag} {H : Hp} {ρ : List Addr} {μ : Mu} {p : Addr} {o : HO} (s : Sr ⟨F, φ⟩ H ρ μ) (hp : H p = none) : Sr ⟨F, p :: φ⟩ (upd H p o) ρ μ := by
  refine ⟨s.nd, s.len, fun n a ob h1 h2 => ?_, fun a ha => ?_⟩
  · have r := s.at' n a ob h1 h2
    obtain ⟨u, hu⟩ := r.is
    have ne := ne_of_none hu hp
    cases r with
    | lst h z r => exact .lst (by rw [upd_ne ne]; exact h) z (RpL.hide hp r)
    | dct h r => exact .dct (by rw [upd_ne ne]; exact h) (RpK.conv (fun _ _ => Rp.hide hp) r)
  · rcases List.mem_cons.mp ha with e | ha
    · rw [e]
      exact ⟨s.nin0 hp, _, upd_same⟩
    · obtain ⟨h1, u, hu⟩ := s.off a ha
      exact ⟨h1, u, by rw [upd_ne (ne_of_none hu hp)]; exact hu⟩
mutual
theorem Rp.grow {φ : List Addr} {F : PySem.W.Frag} {H : Hp} {ρ : List Addr} {p : Addr} {o : HO} (hp : p ∈ φ) : ∀ {v : V} {d : D}, Rp ⟨F, φ⟩ H ρ v d → Rp ⟨F, φ⟩ (upd H p o) ρ v d
  | _, _, .non => .non
  | _, _, .bl b => .bl b
  | _, _, .int i => .int i
  | _, _, .str x => .str x
  | _, _, .tup h n z r => .tup (by rw [upd_ne (fun e => n.2 (by rw [e]; exact hp))]; exact h) n z (RpL.grow hp r)
  | _, _, .lst h n z r => .lst (by rw [upd_ne (fun e => n.2 (by rw [e]; exact hp))]; exact h) n z (RpL.grow hp r)
  | _, _, .frz h z r => .frz (h.imp id fun ⟨o, h, n, m⟩ => ⟨o, by rw [upd_ne (fun e => m (by rw [e]; exact hp))]; exact h, n, m⟩) z (RpL.grow hp r)
  | _, _, .ref h => .ref h
theorem RpL.grow {φ : List Addr} {F : PySem.W.Frag} {H : Hp} {ρ : List Addr} {p : Addr} {o : HO} (hp : p ∈ φ) : ∀ {vs : List V} {ds : List D}, RpL ⟨F, φ⟩ H ρ vs ds → RpL ⟨F, φ⟩ (upd H p o) ρ vs ds
  | _, _, .nil => .nil
  | _, _, .cons h t => .cons (Rp.grow hp h) (RpL.grow hp t)
end
theorem Sr.grow {φ : List Addr} {F : PySem.W.Frag} {H : Hp} {ρ : List Addr} {μ : Mu} {p : Addr} {o : HO} (s : Sr ⟨F, φ⟩ H ρ μ) (hp : p ∈ φ) : Sr ⟨F, φ⟩ (upd H p o) ρ μ := by
  obtain ⟨np, _⟩ := s.off p hp
  refine ⟨s.nd, s.len, fun n a ob h1 h2 => ?_, fun a ha => ?_⟩
  · have ne : a ≠ p := fun e => np (by rw [← e]; exact List.mem_of_getElem? h1)
    cases s.at' n a ob h1 h2 with
    | lst h z r => exact .lst (by rw [upd_ne ne]; exact h) z (RpL.grow hp r)
    | dct h r => exact .dct (by rw [upd_ne ne]; exact h) (RpK.conv (fun _ _ => Rp.grow hp) r)
  · obtain ⟨h1, u, hu⟩ := s.off a ha
    refine ⟨h1, ?_⟩
    by_cases e : a = p
    · rw [e]; exact ⟨_, upd_same⟩
    · exact ⟨u, by rw [upd_ne e]; exact hu⟩
mutual
theorem Rp.less {φ φ' : List Addr} {F : PySem.W.Frag} {H : Hp} {ρ : List Addr} (hp : ∀ a ∈ φ', a ∈ φ) : ∀ {v : V} {d : D}, Rp ⟨F, φ⟩ H ρ v d → Rp ⟨F, φ'⟩ H ρ v d
  | _, _, .non => .non
  | _, _, .bl b => .bl b
  | _, _, .int i => .int i
  | _, _, .str x => .str x
  | _, _, .tup h n z r => .tup h ⟨n.1, fun q => n.2 (hp _ q)⟩ z (RpL.less hp r)
  | _, _, .lst h n z r => .lst h ⟨n.1, fun q => n.2 (hp _ q)⟩ z (RpL.less hp r)
  | _, _, .frz h z r => .frz (h.imp id fun ⟨o, h, n, m⟩ => ⟨o, h, n, fun q => m (hp _ q)⟩) z (RpL.less hp r)
  | _, _, .ref h => .ref h
theorem RpL.less {φ φ' : List Addr} {F : PySem.W.Frag} {H : Hp} {ρ : List Addr} (hp : ∀ a ∈ φ', a ∈ φ) : ∀ {vs : List V} {ds : List D}, RpL ⟨F, φ⟩ H ρ vs ds → RpL ⟨F, φ'⟩ H ρ vs ds
  | _, _, .nil => .nil
  | _, _, .cons h t => .cons (Rp.less hp h) (RpL.less hp t)
end
theorem Sr.less {φ φ' : List Addr} {F : PySem.W.Frag} {H : Hp} {ρ : List Addr} {μ : Mu} (s : Sr ⟨F, φ⟩ H ρ μ) (hp : ∀ a ∈ φ', a ∈ φ) : Sr ⟨F, φ'⟩ H ρ μ :=
  ⟨s.nd, s.len, fun n a ob h1 h2 => by
    cases s.at' n a ob h1 h2 with
    | lst h z r => exact .lst h z (RpL.less hp r)
    | dct h r => exact .dct h (RpK.conv (fun _ _ => Rp.less hp) r), fun a ha => s.off a (hp a ha)⟩
theorem EnR.conv {k k' : Kp} {H H' : Hp} {ρ ρ' : List Addr} (f : ∀ v d, Rp k H ρ v d → Rp k' H' ρ' v d) {σ : L2.St} {env : En} (h : EnR k H ρ σ env) : EnR k' H' ρ' σ env :=
  ⟨h.len, fun i d x => let ⟨v, h1, h2⟩ := h.at' i d x; ⟨v, h1, f _ _ h2⟩⟩
/-- one turn of a comprehension -/
def lcStep (c : Orc) (own : List Nat) (elt : AE) (t : AT) (ifs : ABs) (g : Grd) (env : En) : D → Mu → Option (Option D × Mu) := fun d μ1 =>
  if okG g μ1 = true then (asgT t d (wipeD env own)).bind fun e => (evBs c .And ifs e μ1).bind fun q =>
    if q.1 = true then (evE c elt e q.2).map fun y => (some y.1, y.2) else some (none, q.2) else none
theorem evLc {own : List Nat} {elt : AE} {t : AT} {src : ASr} {ifs : ABs} {env : En} {μ μ' : Mu} {d : D} (h : evE c (.lc own elt t src ifs) env μ = some (d, μ')) :
    ∃ items g μ1 acc, evSrc c src env μ = some (items, g, μ1) ∧ lcLoop (lcStep c own elt t ifs g env) items μ1 = some (acc, μ') ∧ okG g μ' = true ∧ d = .lst acc := by
  simp only [evE, Option.bind_eq_some_iff] at h
  obtain ⟨⟨items, g, μ1⟩, h1, ⟨acc, μ2⟩, h2, h3⟩ := h
  split at h3
  · rename_i hg
    cases h3
    exact ⟨items, g, μ1, acc, h1, h2, hg, rfl⟩
  · cases h3
theorem lcLoop_ok {own : List Nat} {elt : AE} {t : AT} {ifs : ABs} {g : Grd} {env : En} : ∀ {items : List D} {μ : Mu} {x : List D × Mu}, lcLoop (lcStep c own elt t ifs g env) items μ = some x → okG g x.2 = true → okG g μ = true
  | [], μ, x, h, k => by cases h; exact k
  | d :: r, μ, x, h, k => by
    rw [lcLoop, Option.bind_eq_some_iff] at h
    obtain ⟨o, h1, _⟩ := h
    unfold lcStep at h1
    split at h1
    · assumption
    · cases h1
theorem lcLoop_len {f : D → Mu → Option (Option D × Mu)} : ∀ {items : List D} {μ : Mu} {x : List D × Mu}, lcLoop f items μ = some x → x.1.length ≤ items.length
  | [], μ, x, h => by cases h; exact Nat.le_refl _
  | d :: r, μ, x, h => by
    rw [lcLoop, Option.bind_eq_some_iff] at h
    obtain ⟨o, h1, h⟩ := h
    rw [Option.map_eq_some_iff] at h
    obtain ⟨y, h2, rfl⟩ := h
    have := lcLoop_len h2
    cases o.1 <;> simp <;> omega
theorem lcRead {c : Orc} {X : Cx} {own : List Nat} {elt : AE} {t : AT} {src : ASr} {ifs : ABs} (h5 : AT.within own t = true) {σ : L2.St} {H : Hp} {Q : VK} (q : tEv X.K c (.lc own elt t src ifs) σ H Q) : tLc (tSr X.K c src) (gT X.K t) (tBs X.K c .And ifs) (tEv X.K c elt) own σ H Q := by
  obtain ⟨φ, env, ρ, μ, d, μ', en, sr, ev, q⟩ := q
  obtain ⟨items, g, μ1, acc, e1, e2, e3, rfl⟩ := evLc ev
  refine ⟨φ, env, ρ, μ, items, g, μ1, en, sr, e1, fun J G Y ρ' H' x1 s1 hz W hG hY => ?_⟩
  intro Dd hD
  have en1 : EnR ⟨X.K, Dd :: φ⟩ (upd H' Dd (.lst [])) ρ' (L2.wipe σ own) (wipeD env own) := ((en.mono x1).wipe own).conv fun _ _ => Rp.hide hD
  refine lc_it W (fun i H2 => ∃ ρ2 μ2 vs done rest, Ext ρ' H' ρ2 H2 ∧ (∀ v d, Rp ⟨X.K, Dd :: φ⟩ (upd H' Dd (.lst [])) ρ' v d → Rp ⟨X.K, Dd :: φ⟩ H2 ρ2 v d) ∧ H2 Dd = some (.lst vs) ∧ RpL ⟨X.K, Dd :: φ⟩ H2 ρ2 vs done ∧ Sr ⟨X.K, Dd :: φ⟩ H2 ρ2 μ2 ∧ done.length ≤ i ∧
    lcLoop (lcStep c own elt t ifs g env) (items.drop i) μ2 = some (rest, μ') ∧ acc = done ++ rest) ?_ ?_ ?_ ?_
  · exact ⟨ρ', μ1, [], [], acc, Ext.new hD, fun _ _ r => r, upd_same, .nil, s1.hide hD, Nat.le_refl _, by simpa using e2, rfl⟩
  · rintro i H2 hi ⟨ρ2, μ2, vs, done, rest, x2, cv, k1, k2, k3, k4, k5, k6⟩
    exact hG _ H2 ρ2 μ2 (x2.toH φ) k3 (lcLoop_ok k5 e3)
  · rintro i x H2 H3 hi ⟨ρ2, μ2, vs, done, rest, x2, cv, k1, k2, k3, k4, k5, k6⟩ y
    have hok := lcLoop_ok k5 e3
    obtain ⟨di, d1, d2, d3, d4⟩ := hY (Dd :: φ) i H2 ρ2 μ2 x H3 hi (x2.toH φ) k3 (fun v d r => cv v d (Rp.hide hD r)) hok y
    rw [List.drop_eq_getElem_cons hi] at k5
    have di' : items[i] = di := by
      rw [List.getElem?_eq_getElem hi] at d1
      exact Option.some.inj d1
    rw [di', lcLoop, Option.bind_eq_some_iff] at k5
    obtain ⟨o, f1, f2⟩ := k5
    rw [Option.map_eq_some_iff] at f2
    obtain ⟨r2, f2, f3⟩ := f2
    unfold lcStep at f1
    rw [if_pos hok] at f1
    simp only [Option.bind_eq_some_iff] at f1
    obtain ⟨env1, f4, q1, f5, f6⟩ := f1
    have en2 : EnR ⟨X.K, Dd :: φ⟩ H3 ρ2 (L2.wipe σ own) (wipeD env own) := (en1.conv cv).mono d2
    refine ⟨Dd :: φ, wipeD env own, ρ2, μ2, di, env1, en2, d3, d4, f4, fun σ2 en3 wp => ⟨?_, ?_⟩⟩
    · rw [wp own h5]
      have : ∀ (own : List Nat) (σ : L2.St), L2.wipe (L2.wipe σ own) own = L2.wipe σ own := by
        intro own
        induction own with
        | nil => intro σ; rfl
        | cons j own ih =>
          intro σ
          show (L2.wipe ((L2.wipe σ own).set j none) own).set j none = (L2.wipe σ own).set j none
          by_cases hj : j ∈ own
          · rw [wipe_set hj, ih σ]
          · have z : ∀ (own : List Nat) (σ : L2.St), j ∉ own → L2.wipe (σ.set j none) own = (L2.wipe σ own).set j none := by
              intro own
              induction own with
              | nil => intro σ _; rfl
              | cons p own ih2 =>
                intro σ hp
                simp only [List.mem_cons, not_or] at hp
                unfold L2.wipe
                rw [ih2 σ hp.2, List.set_comm _ _ hp.1]
            rw [z own _ hj, ih σ, List.set_set]
      exact this own σ
    · have nD : Dd ∉ ρ2 := (k3.off Dd List.mem_cons_self).1
      obtain ⟨b1, m1⟩ := q1
      refine ⟨Dd :: φ, env1, ρ2, μ2, b1, m1, en3, d3, f5, fun H5 ρ5 x5 s5 => ?_⟩
      have en5 := en3.mono x5
      obtain ⟨hD3, nD3⟩ := d2.keep Dd _ k1 nD
      obtain ⟨hD5, nD5⟩ := x5.keep Dd _ hD3 nD3
      have old : ∀ {H6 : Hp} {ρ6 : List Addr}, Ext ρ5 H5 ρ6 H6 → ∀ v d, Rp ⟨X.K, Dd :: φ⟩ (upd H' Dd (.lst [])) ρ' v d → Rp ⟨X.K, Dd :: φ⟩ H6 ρ6 v d := fun x6 v d r => (((cv v d r).mono d2).mono x5).mono x6
      have ex : ∀ {H6 : Hp} {ρ6 : List Addr}, Ext ρ5 H5 ρ6 H6 → Ext ρ' H' ρ6 H6 := fun x6 => ((x2.trans d2).trans x5).trans x6
      cases b1 with
      | false =>
        rw [if_neg Bool.false_ne_true] at f6
        refine iteF ?_
        cases f6
        cases f3
        exact ⟨ρ5, m1, vs, done, r2.1, ex (Ext.refl _ _), old (Ext.refl _ _), hD5, (k2.mono d2).mono x5, s5, Nat.le_succ_of_le k4, f2, k6⟩
      | true =>
        rw [if_pos rfl] at f6
        refine iteT ?_
        rw [Option.map_eq_some_iff] at f6
        obtain ⟨y1, f7, f8⟩ := f6
        cases f8
        cases f3
        refine seq1 en5 s5 f7 fun v6 H6 ρ6 x6 s6 r6 _ => ?_
        obtain ⟨hD6, nD6⟩ := x6.keep Dd _ hD5 nD5
        have hl := k2.length
        have mem : Dd ∈ Dd :: φ := List.mem_cons_self
        refine ⟨vs, hD6, by omega, ρ6, y1.2, vs ++ [v6], done ++ [y1.1], r2.1, ?_, fun v d r => Rp.grow mem (old x6 v d r), upd_same, ?_, s6.grow mem, by rw [List.length_append, List.length_singleton]; omega, f2, ?_⟩
        · have z := ex x6
          refine ⟨z.pre, fun b u hb nb => ?_⟩
          have ne := ne_of_none hb hD
          obtain ⟨z1, z2⟩ := z.keep b u hb nb
          exact ⟨by rw [upd_ne ne]; exact z1, z2⟩
        · exact RpL.grow mem ((((k2.mono d2).mono x5).mono x6).append (.cons r6 .nil))
        · rw [k6]; simp
  · rintro H2 ⟨ρ2, μ2, vs, done, rest, x2, cv, k1, k2, k3, k4, k5, k6⟩
    rw [List.drop_length] at k5
    cases k5
    rw [List.append_nil] at k6
    subst k6
    have nD : Dd ∉ ρ2 := (k3.off Dd List.mem_cons_self).1
    refine q _ H2 ρ2 (x1.trans x2) (k3.less fun a ha => List.mem_cons_of_mem _ ha) (.lst k1 ⟨nD, (s1.nin hD).2⟩ (by omega) (RpL.less (fun a ha => List.mem_cons_of_mem _ ha) k2))
theorem it_gen {J : It} {n : Nat} {G : Hp → Prop} {Y : Nat → Hp → V → Hp → Prop} (w : L2.Walk J n G Y) {Step : V → Hp → (Hp → Prop) → Prop} {Qd : Hp → Prop} {H0 : Hp} (Pv : Nat → Hp → Prop) (h0 : Pv 0 H0) (hG : ∀ i H, i ≤ n → Pv i H → G H)
    (hs : ∀ i x H H', i < n → Pv i H → Y i H x H' → Step x H' (Pv (i + 1))) (hd : ∀ H, Pv n H → Qd H) :
    ∃ W : Nat → Nat → Hp → Prop, (∃ m, W 0 m H0) ∧ ∀ i m H, W i m H → (J.stop i H ∧ Qd H) ∨ (J.go i H ∧ ∃ Nx : Hp → Prop, (∀ H', Nx H' → ∃ m', m' < m ∧ W (i + 1) m' H') ∧ ∀ x H', J.yld i H x H' → Step x H' Nx) := by
  refine ⟨fun i m H => m = n - i ∧ i ≤ n ∧ Pv i H, ⟨n, by simp, Nat.zero_le _, h0⟩, ?_⟩
  rintro i m H ⟨rfl, hi, p⟩
  have q := hG i H hi p
  by_cases hlt : i < n
  · exact .inr ⟨w.goes i H hlt q, Pv (i + 1), fun H' p' => ⟨n - (i + 1), by omega, rfl, hlt, p'⟩, fun x H' y => hs i x H H' hlt p (w.yields i H x H' hlt q y)⟩
  · obtain rfl : i = n := by omega
    exact .inl ⟨w.stops H q, hd H p⟩
theorem wipe_wipe : ∀ (own : List Nat) (σ : L2.St), L2.wipe (L2.wipe σ own) own = L2.wipe σ own := by
  intro own
  induction own with
  | nil => intro σ; rfl
  | cons j own ih =>
    intro σ
    show (L2.wipe ((L2.wipe σ own).set j none) own).set j none = (L2.wipe σ own).set j none
    by_cases hj : j ∈ own
    · rw [wipe_set hj, ih σ]
    · have z : ∀ (own : List Nat) (σ : L2.St), j ∉ own → L2.wipe (σ.set j none) own = (L2.wipe σ own).set j none := by
        intro own
        induction own with
        | nil => intro σ _; rfl
        | cons p own ih2 =>
          intro σ hp
          simp only [List.mem_cons, not_or] at hp
          unfold L2.wipe
          rw [ih2 σ hp.2, List.set_comm _ _ hp.1]
      rw [z own _ hj, ih σ, List.set_set]
def in2 (c : Orc) (own1 : List Nat) (elt : AE) (t1 : AT) (g : Grd) (e : En) : D → Mu → Option (Option D × Mu) := fun d1 μ2 =>
  if okG g μ2 = true then (asgT t1 d1 (wipeD e own1)).bind fun e1 => (evE c elt e1 μ2).map fun y => (some y.1, y.2) else none
def out2 (c : Orc) (own own1 : List Nat) (elt : AE) (t t1 : AT) (src1 : ASr) (g : Grd) (env : En) : D → Mu → Option (List D × Mu) := fun d μ1 =>
  if okG g μ1 = true then (asgT t d (wipeD env own)).bind fun e => (evSrc c src1 e μ1).bind fun s1 => (lcLoop (in2 c own1 elt t1 s1.2.1 e) s1.1 s1.2.2).bind fun r => if okG s1.2.1 r.2 = true then some r else none else none
theorem evLc2 {c : Orc} {own own1 : List Nat} {elt : AE} {t t1 : AT} {src src1 : ASr} {env : En} {μ μ' : Mu} {d : D} (h : evE c (.lc2 own own1 elt t src t1 src1) env μ = some (d, μ')) :
    ∃ items g μ1 acc, evSrc c src env μ = some (items, g, μ1) ∧ lc2Loop (out2 c own own1 elt t t1 src1 g env) items μ1 = some (acc, μ') ∧ okG g μ' = true ∧ acc.length ≤ sizeLine ∧ d = .lst acc := by
  rw [evE, Option.bind_eq_some_iff] at h
  obtain ⟨⟨items, g, μ1⟩, h1, h⟩ := h
  rw [Option.bind_eq_some_iff] at h
  obtain ⟨⟨acc, μ2⟩, h2, h⟩ := h
  split at h
  · rename_i hc
    cases h
    exact ⟨items, g, μ1, acc, h1, h2, hc.1, hc.2, rfl⟩
  · cases h
theorem lc2Loop_ok {c : Orc} {own own1 : List Nat} {elt : AE} {t t1 : AT} {src1 : ASr} {g : Grd} {env : En} {items : List D} {μ : Mu} {x : List D × Mu} (h : lc2Loop (out2 c own own1 elt t t1 src1 g env) items μ = some x) (h2 : okG g x.2 = true) : okG g μ = true := by
  cases items with
  | nil => cases h; exact h2
  | cons y r =>
    rw [lc2Loop, Option.bind_eq_some_iff] at h
    obtain ⟨o, h1, _⟩ := h
    unfold out2 at h1
    split at h1
    · assumption
    · cases h1
theorem in2_ok {c : Orc} {own1 : List Nat} {elt : AE} {t1 : AT} {g : Grd} {env : En} {items : List D} {μ : Mu} {x : List D × Mu} (h : lcLoop (in2 c own1 elt t1 g env) items μ = some x) (h2 : okG g x.2 = true) : okG g μ = true := by
  cases items with
  | nil => cases h; exact h2
  | cons y r =>
    rw [lcLoop, Option.bind_eq_some_iff] at h
    obtain ⟨o, h1, _⟩ := h
    unfold in2 at h1
    split at h1
    · assumption
    · cases h1
theorem yesT {σ : L2.St} {H : Hp} {A B : Hp → Prop} (h : A H) : tYes σ H fun b H3 => if b = true then A H3 else B H3 := by
  unfold tYes
  simp only [if_true]
  exact h
theorem lc2Read {c : Orc} {X : Cx} {own own1 : List Nat} {elt : AE} {t t1 : AT} {src src1 : ASr} (h6 : AT.within own t = true) (h10 : AT.within own1 t1 = true) {σ : L2.St} {H : Hp} {Q : VK}
    (q : tEv X.K c (.lc2 own own1 elt t src t1 src1) σ H Q) : tLc2 (tSr X.K c src) (gT X.K t) tYes (tSr X.K c src1) (gT X.K t1) tYes (tEv X.K c elt) own own1 σ H Q := by
  obtain ⟨φ, env, ρ, μ, d, μ', en, sr, ev, q⟩ := q
  obtain ⟨items, g, μ1, acc, e1, e2, e3, hz0, rfl⟩ := evLc2 ev
  refine ⟨φ, env, ρ, μ, items, g, μ1, en, sr, e1, fun J G Y ρ' H' x1 s1 hz W hG hY => ?_⟩
  intro Dd hD
  have mem : Dd ∈ Dd :: φ := List.mem_cons_self
  have en1 : EnR ⟨X.K, Dd :: φ⟩ (upd H' Dd (.lst [])) ρ' (L2.wipe σ own) (wipeD env own) := ((en.mono x1).wipe own).conv fun _ _ => Rp.hide hD
  refine it_gen W (fun i H2 => ∃ ρ2 μ2 vs done rest, Ext ρ' H' ρ2 H2 ∧ (∀ v d, Rp ⟨X.K, Dd :: φ⟩ (upd H' Dd (.lst [])) ρ' v d → Rp ⟨X.K, Dd :: φ⟩ H2 ρ2 v d) ∧ H2 Dd = some (.lst vs) ∧ RpL ⟨X.K, Dd :: φ⟩ H2 ρ2 vs done ∧ Sr ⟨X.K, Dd :: φ⟩ H2 ρ2 μ2 ∧
    lc2Loop (out2 c own own1 elt t t1 src1 g env) (items.drop i) μ2 = some (rest, μ') ∧ acc = done ++ rest) ?_ ?_ ?_ ?_
  · exact ⟨ρ', μ1, [], [], acc, Ext.new hD, fun _ _ r => r, upd_same, .nil, s1.hide hD, by simpa using e2, rfl⟩
  · rintro i H2 hi ⟨ρ2, μ2, vs, done, rest, x2, cv, k1, k2, k3, k5, k6⟩
    exact hG _ H2 ρ2 μ2 (x2.toH φ) k3 (lc2Loop_ok k5 e3)
  · rintro i x H2 H3 hi ⟨ρ2, μ2, vs, done, rest, x2, cv, k1, k2, k3, k5, k6⟩ y
    have hok := lc2Loop_ok k5 e3
    obtain ⟨di, d1, d2, d3, d4⟩ := hY (Dd :: φ) i H2 ρ2 μ2 x H3 hi (x2.toH φ) k3 (fun v d r => cv v d (Rp.hide hD r)) hok y
    rw [List.drop_eq_getElem_cons hi] at k5
    have di' : items[i] = di := by
      rw [List.getElem?_eq_getElem hi] at d1
      exact Option.some.inj d1
    rw [di', lc2Loop, Option.bind_eq_some_iff] at k5
    obtain ⟨o, f1, f2⟩ := k5
    rw [Option.map_eq_some_iff] at f2
    obtain ⟨r2, f2, f3⟩ := f2
    cases f3
    unfold out2 at f1
    rw [if_pos hok] at f1
    simp only [Option.bind_eq_some_iff] at f1
    obtain ⟨env1, f4, ⟨items1, g1, μ3⟩, f5, ⟨acc1, μ5⟩, f6, f7⟩ := f1
    split at f7
    case isFalse => cases f7
    rename_i hok1
    cases f7
    have en2 : EnR ⟨X.K, Dd :: φ⟩ H3 ρ2 (L2.wipe σ own) (wipeD env own) := (en1.conv cv).mono d2
    refine ⟨Dd :: φ, wipeD env own, ρ2, μ2, di, env1, en2, d3, d4, f4, fun σ2 en3 wp => ⟨?_, ?_⟩⟩
    · rw [wp own h6]
      exact wipe_wipe own σ
    · refine yesT ?_
      have nD : Dd ∉ ρ2 := (k3.off Dd mem).1
      obtain ⟨hD3, nD3⟩ := d2.keep Dd _ k1 nD
      refine ⟨Dd :: φ, env1, ρ2, μ2, items1, g1, μ3, en3, d3, f5, fun J1 G1 Y1 ρ4 H4 x4 s4 hz4 W1 hG1 hY1 => ?_⟩
      obtain ⟨hD4, nD4⟩ := x4.keep Dd _ hD3 nD3
      have old4 : ∀ v d, Rp ⟨X.K, Dd :: φ⟩ (upd H' Dd (.lst [])) ρ' v d → Rp ⟨X.K, Dd :: φ⟩ H4 ρ4 v d := fun v d r => ((cv v d r).mono d2).mono x4
      have en4 : EnR ⟨X.K, Dd :: φ⟩ H4 ρ4 (L2.wipe σ2 own1) (wipeD env1 own1) := (en3.mono x4).wipe own1
      refine it_gen W1 (fun j H5 => ∃ ρ5 μ5' vs5 done5 rest5, ExtH (Dd :: φ) ρ4 H4 ρ5 H5 ∧ Ext ρ' H' ρ5 H5 ∧ H5 Dd = some (.lst vs5) ∧ RpL ⟨X.K, Dd :: φ⟩ H5 ρ5 vs5 done5 ∧ Sr ⟨X.K, Dd :: φ⟩ H5 ρ5 μ5' ∧
        lcLoop (in2 c own1 elt t1 g1 env1) (items1.drop j) μ5' = some (rest5, μ5) ∧ done5 ++ rest5 = done ++ acc1) ?_ ?_ ?_ ?_
      · exact ⟨ρ4, μ3, vs, done, acc1, (Ext.refl _ _).toH _, (x2.trans d2).trans x4, hD4, (k2.mono d2).mono x4, s4, by simpa using f6, rfl⟩
      · rintro j H5 hj ⟨ρ5, μ5', vs5, done5, rest5, y1, y2, y3, y4, y5, y6, y7⟩
        exact hG1 _ H5 ρ5 μ5' y1 y5 (in2_ok y6 hok1)
      · rintro j x5 H5 H6 hj ⟨ρ5, μ5', vs5, done5, rest5, y1, y2, y3, y4, y5, y6, y7⟩ yy
        have hok5 := in2_ok y6 hok1
        obtain ⟨dj, w1, w2, w3, w4⟩ := hY1 (Dd :: φ) j H5 ρ5 μ5' x5 H6 hj y1 y5 (fun v d r => r.monoH y1) hok5 yy
        rw [List.drop_eq_getElem_cons hj] at y6
        have dj' : items1[j] = dj := by
          rw [List.getElem?_eq_getElem hj] at w1
          exact Option.some.inj w1
        rw [dj', lcLoop, Option.bind_eq_some_iff] at y6
        obtain ⟨o6, z1, z2⟩ := y6
        rw [Option.map_eq_some_iff] at z2
        obtain ⟨r6, z2, z3⟩ := z2
        unfold in2 at z1
        rw [if_pos hok5] at z1
        simp only [Option.bind_eq_some_iff, Option.map_eq_some_iff] at z1
        obtain ⟨env6, z4, y6', z5, z6⟩ := z1
        cases z6
        cases z3
        have en5 : EnR ⟨X.K, Dd :: φ⟩ H6 ρ5 (L2.wipe σ2 own1) (wipeD env1 own1) := (en4.conv fun v d r => r.monoH y1).mono w2
        refine ⟨Dd :: φ, wipeD env1 own1, ρ5, μ5', dj, env6, en5, w3, w4, z4, fun σ3 en6 wp3 => ⟨?_, ?_⟩⟩
        · rw [wp3 own1 h10]
          exact wipe_wipe own1 σ2
        · refine yesT ?_
          have nD5 : Dd ∉ ρ5 := (y5.off Dd mem).1
          obtain ⟨hD6, nD6⟩ := w2.keep Dd _ y3 nD5
          refine seq1 en6 w3 z5 fun v7 H7 ρ7 x7 s7 r7 _ => ?_
          obtain ⟨hD7, nD7⟩ := x7.keep Dd _ hD6 nD6
          have hl := y4.length
          have hlen : vs5.length < sizeLine := by
            have a1 : (done5 ++ y6'.1 :: r6.1).length = (done ++ acc1).length := congrArg List.length y7
            have a2 : acc.length = (done ++ (acc1 ++ r2.1)).length := congrArg List.length k6
            simp only [List.length_append, List.length_cons] at a1 a2
            omega
          refine ⟨vs5, hD7, hlen, ρ7, y6'.2, vs5 ++ [v7], done5 ++ [y6'.1], r6.1, ?_, ?_, upd_same, ?_, s7.grow mem, z2, ?_⟩
          · exact ((y1.trans (w2.toH _)).trans (x7.toH _)).trans (ExtH.upd mem)
          · have z := (y2.trans w2).trans x7
            refine ⟨z.pre, fun b u hb nb => ?_⟩
            have ne := ne_of_none hb hD
            obtain ⟨z1, z2⟩ := z.keep b u hb nb
            exact ⟨by rw [upd_ne ne]; exact z1, z2⟩
          · exact RpL.grow mem (((y4.mono w2).mono x7).append (.cons r7 .nil))
          · rw [List.append_assoc]; exact y7
      · rintro H5 ⟨ρ5, μ5', vs5, done5, rest5, y1, y2, y3, y4, y5, y6, y7⟩
        rw [List.drop_length] at y6
        cases y6
        rw [List.append_nil] at y7
        subst y7
        exact ⟨ρ5, μ5, vs5, _, r2.1, y2, fun v d r => (old4 v d r).monoH y1, y3, y4, y5, f2, by rw [k6, List.append_assoc]⟩
  · rintro H2 ⟨ρ2, μ2, vs, done, rest, x2, cv, k1, k2, k3, k5, k6⟩
    rw [List.drop_length] at k5
    cases k5
    rw [List.append_nil] at k6
    subst k6
    have nD : Dd ∉ ρ2 := (k3.off Dd mem).1
    refine q _ H2 ρ2 (x1.trans x2) (k3.less fun a ha => List.mem_cons_of_mem _ ha) (.lst k1 ⟨nD, (s1.nin hD).2⟩ hz0 (RpL.less (fun a ha => List.mem_cons_of_mem _ ha) k2))
/-- ahead of the rules for what is shown and for zips as lists -/
structure Later (S : Stt) (c : Orc) : Prop where
  told : ∀ {sc ss : Scope} {X : Cx}, Cok S c sc ss X → ∀ {a : AE} {o : Expr} {p1 p2 p3 p4 p5 p6 : Pos} {apos : Pos}, L2.PE X o (tEv X.K c a) → nCall o = true → (apos.endLine == p3.line) = true →
    Gl X "repr" → X.mg "repr" = none → Gl X "sorted" → X.mg "sorted" = none →
    L2.PE X (.Call (.Name "repr" p1) [.Call (.Name "sorted" p2) [.Call (.Attribute o "items" apos) [] [] p3] [] p4] [] p5) (tEv X.K c (.told a))
  zip : ∀ {sc ss : Scope} {X : Cx}, Cok S c sc ss X → ∀ {a b : AE} {x y : Expr} {p1 p2 p3 : Pos} {ts : List Expr} {k : Nat}, L2.PE X x (tEv X.K c a) → L2.PE X y (tEv X.K c b) → nStar x = true → nStar y = true →
    Gl X "zip" → X.mg "zip" = none → L2.PI X (.Tuple ts k p1) (.Call (.Name "zip" p2) [x, y] [] p3) (tSr X.K c (.zip a b))
theorem valOk (C : Cok S c sc ss X) {a : AE} {e : Expr} (hc : a.isCmp = false) (h : kB S sc (.val a) e = true) (hE : kE S sc a e = true → L2.PE X e (tEv X.K c a)) : L2.PT X e (tBv X.K c (.val a)) := by
  rw [kB, Bool.and_eq_true, hc, Bool.false_or] at h
  refine ptW (pt_truth (hE h.1) (valTest h.2)) fun σ H Q q => ?_
  obtain ⟨φ, env, ρ, μ, tt, μ', en, sr, ev, q⟩ := q
  simp only [evB, Option.bind_eq_some_iff, Option.map_eq_some_iff] at ev
  obtain ⟨x1, e1, t2, e5, e6⟩ := ev
  cases e6
  exact seq1 en sr e1 fun v H1 ρ1 g1 s1 r1 en1 => ⟨_, truR s1 r1 e5, q H1 ρ1 g1 s1⟩
end
mutual
theorem sE {S : Stt} {c : Orc} (La : Later S c) : ∀ (a : AE) {sc ss : Scope} {X : Cx} (C : Cok S c sc ss X) {e : Expr}, kE S sc a e = true → L2.PE X e (tEv X.K c a)
  | .var i, sc, ss, X, C, e, h => by
    rw [kE] at h
    split at h
    · rename_i x hx
      obtain ⟨p, rfl⟩ := asName_eq hx
      simp only [Bool.and_eq_true, decide_eq_true_eq, Bool.not_eq_true'] at h
      refine peW (pe_var (i := i) (by rw [C.N]; exact h.1.1.1) (vis_of C h.1.1.2) h.1.2 h.2) fun σ H Q q => ?_
      obtain ⟨φ, env, ρ, μ, d, μ', en, sr, ev, q⟩ := q
      rw [evE] at ev
      split at ev
      · cases ev
        obtain ⟨v, h1, h2⟩ := en.at' i _ (by assumption)
        exact ⟨v, h1, q v H ρ (Ext.refl _ _) sr h2⟩
      · cases ev
    · cases h
  | .lit k, sc, ss, X, C, e, h => by
    rw [kE, Bool.and_eq_true] at h
    obtain ⟨j, p, rfl⟩ := asConst_eq (of_decide_eq_true h.1)
    have fin : ∀ {d : D} {v : V}, litD k = some d → (∀ φ H ρ, Rp ⟨X.K, φ⟩ H ρ v d) → ∀ σ H Q, tEv X.K c (.lit k) σ H Q → tC v σ H Q := fun hd hr σ H Q q => by
      obtain ⟨φ, env, ρ, μ, d, μ', en, sr, ev, q⟩ := q
      rw [evE, hd] at ev
      cases ev
      exact q _ H ρ (Ext.refl _ _) sr (hr φ H ρ)
    cases k with
    | none => exact peW pe_non (fin rfl fun _ _ _ => .non)
    | bool b => exact peW pe_bl (fin rfl fun _ _ _ => .bl b)
    | int i => exact peW pe_int (fin rfl fun _ _ _ => .int i)
    | str x => exact peW pe_str (fin rfl fun _ _ _ => .str x)
    | _ => exact absurd h.2 (by simp [litD])
  | .gint x n, sc, ss, X, C, e, h => by
    rw [kE] at h
    simp only [Bool.and_eq_true, decide_eq_true_eq, Bool.not_eq_true'] at h
    obtain ⟨p, rfl⟩ := asName_eq h.1.1.1
    obtain ⟨t, ht⟩ := C.gi x n h.1.2
    refine peW (pe_glob (v := .int n) (gl_of C h.1.1.2) ht ⟨t, rfl⟩ h.2) fun σ H Q q => ?_
    obtain ⟨φ, env, ρ, μ, d, μ', en, sr, ev, q⟩ := q
    rw [evE] at ev
    cases ev
    exact q _ H ρ (Ext.refl _ _) sr (.int n)
  | .tup es, sc, ss, X, C, e, h => by
    rw [kE] at h
    split at h
    · rename_i l hl
      obtain ⟨k, p, rfl⟩ := asTuple_eq hl
      rw [Bool.and_eq_true, decide_eq_true_eq] at h
      refine peW (pe_tup (sEs La es C h.1)) fun σ H Q q => ?_
      obtain ⟨φ, env, ρ, μ, d, μ', en, sr, ev, q⟩ := q
      rw [evE, Option.map_eq_some_iff] at ev
      obtain ⟨x, e1, e2⟩ := ev
      cases e2
      refine seqA en sr e1 fun vs H1 ρ1 x1 s1 r1 _ => ?_
      have z : vs.length ≤ sizeLine := by
        rw [r1.length, evEs_len e1]
        exact Nat.le_trans h.2 (by decide)
      refine ⟨z, fun p hp => q _ _ ρ1 (x1.trans (Ext.new hp)) (s1.new hp) (.tup upd_same (s1.nin hp) (by rw [← r1.length]; exact z) (r1.mono (Ext.new hp)))⟩
    · cases h
  | .bin o a b, sc, ss, X, C, e, h => by
    rw [kE] at h
    split at h
    · rename_i x p y hx
      obtain ⟨pos, rfl⟩ := asBin_eq hx
      simp only [Bool.and_eq_true, decide_eq_true_eq] at h
      obtain ⟨⟨rfl, h1⟩, h2⟩ := h
      refine peW (pe_op (binMR p) (sE La a C h1) (sE La b C h2)) fun σ H Q q => ?_
      obtain ⟨φ, env, ρ, μ, d, μ', en, sr, ev, q⟩ := q
      simp only [evE, Option.bind_eq_some_iff, Option.map_eq_some_iff] at ev
      obtain ⟨x1, e1, x2, e2, z, e3, e4⟩ := ev
      cases e4
      refine seq1 en sr e1 fun v H1 ρ1 g1 s1 r1 en1 => seq1 en1 s1 e2 fun u H2 ρ2 g2 s2 r2 _ => ?_
      exact ⟨φ, ρ2, x2.2, x1.1, x2.1, _, s2, r1.mono g2, r2, e3, fun v' H' g3 s3 r3 => q v' H' ρ2 ((g1.trans g2).trans g3) s3 r3⟩
    · cases h
  | .lst es, sc, ss, X, C, e, h => by
    rw [kE] at h
    split at h
    · rename_i l hl
      obtain ⟨p, rfl⟩ := asList_eq hl
      rw [Bool.and_eq_true, decide_eq_true_eq] at h
      refine peW (pe_lst (sEs La es C h.1)) fun σ H Q q => ?_
      obtain ⟨φ, env, ρ, μ, d, μ', en, sr, ev, q⟩ := q
      rw [evE, Option.map_eq_some_iff] at ev
      obtain ⟨x, e1, e2⟩ := ev
      cases e2
      refine seqA en sr e1 fun vs H1 ρ1 x1 s1 r1 _ => ?_
      have z : vs.length ≤ sizeLine := by
        rw [r1.length, evEs_len e1]
        exact Nat.le_trans h.2 (by decide)
      exact ⟨z, fun p hp => q _ _ ρ1 (x1.trans (Ext.new hp)) (s1.new hp) (.lst upd_same (s1.nin hp) (by rw [← r1.length]; exact z) (r1.mono (Ext.new hp)))⟩
    · cases h
  | .nls es, sc, ss, X, C, e, h => by
    rw [kE] at h
    split at h
    · rename_i l hl
      obtain ⟨p, rfl⟩ := asList_eq hl
      rw [Bool.and_eq_true, decide_eq_true_eq] at h
      refine peW (pe_lst (sEs La es C h.1)) fun σ H Q q => ?_
      obtain ⟨φ, env, ρ, μ, d, μ', en, sr, ev, q⟩ := q
      rw [evE, Option.map_eq_some_iff] at ev
      obtain ⟨x, e1, e2⟩ := ev
      cases e2
      refine seqA en sr e1 fun vs H1 ρ1 x1 s1 r1 _ => ?_
      have z : vs.length ≤ sizeLine := by
        rw [r1.length, evEs_len e1]
        exact Nat.le_trans h.2 (by decide)
      exact ⟨z, fun p hp => q _ _ (ρ1 ++ [p]) (x1.trans (Ext.newR hp)) (s1.newR hp (.lst upd_same (by rw [← r1.length]; exact z) (r1.mono (Ext.newR hp)))) (Rp.newR s1)⟩
    · cases h
  | .ndc ks es, sc, ss, X, C, e, h => by
    rw [kE] at h
    split at h
    · rename_i k l hl
      obtain ⟨p, rfl⟩ := asDict_eq hl
      simp only [Bool.and_eq_true, decide_eq_true_eq] at h
      obtain ⟨⟨⟨h1, h2, h3⟩, h4⟩, h5⟩ := h
      have hks : ks.length = k.length := by
        have := congrArg List.length h1
        simpa using this.symm
      have hl2 : ks.length = es.len := by rw [hks, h4, kEs_len h5]
      have hall : k.all (·.isSome) = true := by
        rw [List.all_eq_true]
        intro o ho
        have hm : o.bind asConst ∈ k.map (fun o => o.bind asConst) := List.mem_map_of_mem ho
        rw [h1, List.mem_map] at hm
        obtain ⟨x, _, hx⟩ := hm
        cases o with
        | none => cases hx
        | some e => rfl
      refine peW (pe_disp (sPPs La es C h1 h5 h4) hall h4 (by intro z; rw [z] at h2; simp at h2) h3) fun σ H Q q => ?_
      obtain ⟨φ, env, ρ, μ, d, μ', en, sr, ev, q⟩ := q
      rw [evE, Option.bind_eq_some_iff] at ev
      obtain ⟨x, e1, e2⟩ := ev
      split at e2
      · rename_i hc
        cases e2
        intro p hp
        refine trs_read hl2 (en.mono (Ext.new hp)) (sr.new hp) e1 fun vs H2 ρ2 g2 s2 r2 => ?_
        have np : p ∉ ρ := sr.nin0 hp
        obtain ⟨k1, k2⟩ := g2.keep p _ upd_same np
        have hlv : vs.length = ks.length := by rw [r2.length]; exact hc.1.symm
        refine ⟨k1, (ks.map Sum.inr).zip vs, ?_, by rw [List.length_zip, List.length_map]; omega, ?_⟩
        · rw [List.zip_map_left, List.zip_map_left, List.map_map]
          rfl
        · have hz : (((ks.map Sum.inr).zip vs : List (Key × V)).map (·.1)) = ks.map Sum.inr := by
            rw [List.map_fst_zip]
            rw [List.length_map]; omega
          rw [mergeK_nd _ [] (by rw [List.nil_append, hz]; exact nodup_inr hc.2), List.nil_append]
          have e3 : Ext ρ H (ρ2 ++ [p]) (upd H2 p (.dK ((ks.map Sum.inr).zip vs))) := by
            obtain ⟨t, ht⟩ := g2.pre
            refine ⟨⟨t ++ [p], by rw [ht, List.append_assoc]⟩, fun b u hb nb => ?_⟩
            have ne := ne_of_none hb hp
            obtain ⟨m1, m2⟩ := g2.keep b u (by rw [upd_ne ne]; exact hb) nb
            exact ⟨by rw [upd_ne ne]; exact m1, by simp [m2, ne]⟩
          exact q _ _ (ρ2 ++ [p]) e3 (s2.adopt k1 k2 (sr.nin hp).2 (.dct upd_same (RpK.adopt k1 (rpK_zip r2)))) (Rp.newR s2)
      · cases e2
    · cases h
  | .neg a, sc, ss, X, C, e, h => by
    rw [kE] at h
    split at h
    · rename_i o b hx
      obtain ⟨pos, rfl⟩ := asUn_eq hx
      simp only [Bool.and_eq_true, decide_eq_true_eq] at h
      obtain ⟨rfl, h1⟩ := h
      refine peW (pe_un un_neg (sE La a C h1)) fun σ H Q q => ?_
      obtain ⟨φ, env, ρ, μ, d, μ', en, sr, ev, q⟩ := q
      simp only [evE, Option.bind_eq_some_iff] at ev
      obtain ⟨x1, e1, e2⟩ := ev
      refine seq1 en sr e1 fun v H1 ρ1 g1 s1 r1 en1 => ?_
      split at e2
      · cases e2
        rename_i i hi
        rw [hi] at r1
        exact ⟨i, r1.toInt, q _ H1 ρ1 g1 s1 (.int _)⟩
      · cases e2
    · cases h
  | .cmp o a b, sc, ss, X, C, e, h => by
    rw [kE] at h
    split at h
    · rename_i x p y hx
      obtain ⟨pos, rfl⟩ := asCmp_eq hx
      simp only [Bool.and_eq_true, decide_eq_true_eq] at h
      obtain ⟨⟨⟨rfl, h1⟩, h2⟩, h3⟩ := h
      refine peW (pe_cmpR (cmpR C.hu64 p) (sE La a C h1) (sE La b C h2) (noMark _ h3)) fun σ H Q q => ?_
      obtain ⟨φ, env, ρ, μ, d, μ', en, sr, ev, q⟩ := q
      simp only [evE, Option.bind_eq_some_iff, Option.map_eq_some_iff] at ev
      obtain ⟨x1, e1, x2, e2, z, e3, e4⟩ := ev
      cases e4
      refine seq1 en sr e1 fun v H1 ρ1 g1 s1 r1 en1 => seq1 en1 s1 e2 fun u H2 ρ2 g2 s2 r2 _ => ?_
      exact ⟨φ, ρ2, x2.2, x1.1, x2.1, z, s2, r1.mono g2, r2, e3, q _ H2 ρ2 (g1.trans g2) s2 (.bl z)⟩
    · cases h
  | .cmp2 o o' a b b', sc, ss, X, C, e, h => by
    rw [kE] at h
    split at h
    · rename_i x p p' y z hx
      obtain ⟨pos, rfl⟩ := asCmp2_eq hx
      simp only [Bool.and_eq_true, decide_eq_true_eq] at h
      obtain ⟨⟨⟨⟨⟨rfl, rfl⟩, h1⟩, h2⟩, h3⟩, h4⟩ := h
      refine peW (pe_chain (cmpR C.hu64 p) (cmpR C.hu64 p') (sE La a C h1) (sE La b C h2) (sE La b' C h3) (noMark _ h4)) fun σ H Q q => ?_
      obtain ⟨φ, env, ρ, μ, d, μ', en, sr, ev, q⟩ := q
      simp only [evE, Option.bind_eq_some_iff] at ev
      obtain ⟨x1, e1, x2, e2, t, e3, e4⟩ := ev
      refine seq1 en sr e1 fun v H1 ρ1 g1 s1 r1 en1 => seq1 en1 s1 e2 fun u H2 ρ2 g2 s2 r2 en2 => ?_
      refine ⟨φ, ρ2, x2.2, x1.1, x2.1, t, s2, r1.mono g2, r2, e3, t, rfl, ?_⟩
      cases t with
      | false =>
        rw [if_neg Bool.false_ne_true] at e4 ⊢
        cases e4
        exact q _ H2 ρ2 (g1.trans g2) s2 (.bl false)
      | true =>
        rw [if_pos rfl] at e4 ⊢
        simp only [Option.bind_eq_some_iff, Option.map_eq_some_iff] at e4
        obtain ⟨x3, e5, t2, e6, e7⟩ := e4
        cases e7
        refine seq1 en2 s2 e5 fun w' H3 ρ3 g3 s3 r3 _ => ?_
        exact ⟨φ, ρ3, x3.2, x2.1, x3.1, t2, s3, r2.mono g3, r3, e6, q _ H3 ρ3 ((g1.trans g2).trans g3) s3 (.bl t2)⟩
    · cases h
  | .tin ng x ents a, sc, ss, X, C, e, h => by
    rw [kE] at h
    split at h
    · rename_i y p z hx
      obtain ⟨pos, rfl⟩ := asCmp_eq hx
      simp only [Bool.and_eq_true, decide_eq_true_eq, Bool.not_eq_true'] at h
      obtain ⟨⟨⟨⟨⟨hp, h1⟩, h2⟩, h3⟩, h4⟩, h5⟩ := h
      obtain ⟨q2, rfl⟩ := asName_eq h2
      obtain ⟨d, es, n, m1, m2, m3⟩ := C.gt x ents h4
      have pz : L2.PE X (.Name x q2) (tC (.ref d)) := pe_glob (gl_of C h3) m1 rfl h5
      have read : ∀ (r : Option Value → Bool), (∀ o : Option (Option Nat), True) → ∀ σ H Q, tEv X.K c (.tin ng x ents a) σ H Q → (∀ r : Option Value, (if ng = true then !r.isSome else r.isSome) = (if ng = true then !r.isSome else r.isSome)) →
          tEv X.K c a σ H fun v H1 => ∃ (z : Str) (r : Option Value), v = .str z ∧ (V.ref d) = .ref d ∧ PySem.W.nsIn X.K d z = some r ∧ Q (.bl (if ng = true then !r.isSome else r.isSome)) H1 := fun _ _ σ H Q q _ => by
        obtain ⟨φ, env, ρ, μ, d', μ', en, sr, ev, q⟩ := q
        simp only [evE, Option.bind_eq_some_iff] at ev
        obtain ⟨x1, e1, e2⟩ := ev
        refine seq1 en sr e1 fun v H1 ρ1 g1 s1 r1 en1 => ?_
        split at e2
        · rename_i w' hw
          rw [Option.map_eq_some_iff] at e2
          obtain ⟨r, e3, e4⟩ := e2
          cases e4
          rw [hw] at r1
          have m := m3 w' r e3
          cases r with
          | none => exact ⟨w', none, r1.toStr, rfl, m, q _ H1 ρ1 g1 s1 (.bl _)⟩
          | some f =>
            obtain ⟨y', fa, _, _, m⟩ := m
            exact ⟨w', _, r1.toStr, rfl, m, q _ H1 ρ1 g1 s1 (.bl _)⟩
        · cases e2
      cases ng with
      | true =>
        obtain rfl : p = .NotIn := hp
        exact peW (pe_cmpR (op_notIn_kd m2) (sE La a C h1) pz rfl) fun σ H Q q => read (fun _ => true) (fun _ => trivial) σ H Q q fun _ => rfl
      | false =>
        obtain rfl : p = .In := hp
        exact peW (pe_cmpR (op_in_kd m2) (sE La a C h1) pz rfl) fun σ H Q q => read (fun _ => true) (fun _ => trivial) σ H Q q fun _ => rfl
    · cases h
  | .boo o es, sc, ss, X, C, e, h => by
    rw [kE] at h
    split at h
    · rename_i p l pos hx
      obtain rfl := asBoo_eq hx
      rw [Bool.and_eq_true, decide_eq_true_eq] at h
      obtain ⟨rfl, h1⟩ := h
      exact sV La p es C h1
    · cases h
  | .not a, sc, ss, X, C, e, h => by
    rw [kE] at h
    split at h
    · rename_i o b hx
      obtain ⟨pos, rfl⟩ := asUn_eq hx
      simp only [Bool.and_eq_true, decide_eq_true_eq] at h
      obtain ⟨rfl, h1⟩ := h
      refine peW (pe_notT (sE La a C h1)) fun σ H Q q => ?_
      obtain ⟨φ, env, ρ, μ, d, μ', en, sr, ev, q⟩ := q
      simp only [evE, Option.bind_eq_some_iff, Option.map_eq_some_iff] at ev
      obtain ⟨x1, e1, t, e2, e3⟩ := ev
      cases e3
      refine seq1 en sr e1 fun v H1 ρ1 g1 s1 r1 en1 => ?_
      exact ⟨t, truR s1 r1 e2, q _ H1 ρ1 g1 s1 (.bl _)⟩
    · cases h
  | .ife b x y, sc, ss, X, C, e, h => by
    rw [kE] at h
    split at h
    · rename_i e1 e2 e3 hx
      obtain ⟨pos, rfl⟩ := asIf_eq hx
      simp only [Bool.and_eq_true] at h
      refine peW (pe_ifExp (sB La b C h.1.1) (sE La x C h.1.2) (sE La y C h.2)) fun σ H Q q => ?_
      obtain ⟨φ, env, ρ, μ, d, μ', en, sr, ev, q⟩ := q
      simp only [evE, Option.bind_eq_some_iff] at ev
      obtain ⟨t, e1, e2⟩ := ev
      refine seqB en sr e1 fun H1 ρ1 g1 s1 en1 => ?_
      obtain ⟨t, μ1⟩ := t
      cases t with
      | true =>
        rw [if_pos rfl] at e2 ⊢
        exact seq1 en1 s1 e2 fun v H2 ρ2 g2 s2 r2 _ => q v H2 ρ2 (g1.trans g2) s2 r2
      | false =>
        rw [if_neg Bool.false_ne_true] at e2 ⊢
        exact seq1 en1 s1 e2 fun v H2 ρ2 g2 s2 r2 _ => q v H2 ρ2 (g1.trans g2) s2 r2
    · cases h
  | .idx a b, sc, ss, X, C, e, h => by
    rw [kE] at h
    split at h
    · rename_i x y hx
      obtain ⟨pos, rfl⟩ := asSub_eq hx
      simp only [Bool.and_eq_true] at h
      refine peW (pe_ix (idxR C.hu64) (sE La a C h.1.1) (sE La b C h.1.2) (plainIx h.2)) fun σ H Q q => ?_
      obtain ⟨φ, env, ρ, μ, d, μ', en, sr, ev, q⟩ := q
      simp only [evE, Option.bind_eq_some_iff, Option.map_eq_some_iff] at ev
      obtain ⟨x1, e1, x2, e2, z, e3, e4⟩ := ev
      cases e4
      refine seq1 en sr e1 fun v H1 ρ1 g1 s1 r1 en1 => seq1 en1 s1 e2 fun u H2 ρ2 g2 s2 r2 _ => ?_
      exact ⟨φ, ρ2, x2.2, x1.1, x2.1, _, s2, r1.mono g2, r2, e3, fun v' r3 => q v' H2 ρ2 (g1.trans g2) s2 r3⟩
    · cases h
  | .sl a lo hi, sc, ss, X, C, e, h => by
    rw [kE] at h
    split at h
    · rename_i x y hx
      obtain ⟨pos, rfl⟩ := asSub_eq hx
      split at h
      · rename_i l u hy
        obtain ⟨p2, rfl⟩ := asSlice_eq hy
        simp only [Bool.and_eq_true] at h
        refine peW (pe_slice slR (sE La a C h.1.1) (sO La lo C h.1.2) (sO La hi C h.2)) fun σ H Q q => ?_
        obtain ⟨φ, env, ρ, μ, d, μ', en, sr, ev, q⟩ := q
        simp only [evE, Option.bind_eq_some_iff, Option.map_eq_some_iff] at ev
        obtain ⟨x1, e1, x2, e2, x3, e3, z, e4, e5⟩ := ev
        cases e5
        refine seq1 en sr e1 fun v H1 ρ1 g1 s1 r1 en1 => seqO en1 s1 e2 fun H2 ρ2 g2 s2 en2 => seqO en2 s2 e3 fun H3 ρ3 g3 s3 _ => ?_
        exact ⟨φ, ρ3, x3.2, x1.1, _, s3, (r1.mono g2).mono g3, e4, fun v' H' g4 s4 r4 => q v' H' ρ3 (((g1.trans g2).trans g3).trans g4) s4 r4⟩
      · cases h
    · cases h
  | .rev a, sc, ss, X, C, e, h => by
    rw [kE] at h
    split at h
    · rename_i x y hx
      obtain ⟨pos, rfl⟩ := asSub_eq hx
      rw [Bool.and_eq_true] at h
      obtain ⟨k, p1, p2, p3, rfl⟩ := asRev_eq h.2
      refine peW (pe_revL (sE La a C h.1)) fun σ H Q q => ?_
      obtain ⟨φ, env, ρ, μ, d, μ', en, sr, ev, q⟩ := q
      simp only [evE, Option.bind_eq_some_iff, Option.map_eq_some_iff] at ev
      obtain ⟨x1, e1, z, e2, e3⟩ := ev
      cases e3
      refine seq1 en sr e1 fun v H1 ρ1 g1 s1 r1 en1 => ?_
      have fin : ∀ (a : Addr) (vs : List V) (ds : List D), v = .ref a → H1 a = some (.lst vs) → ds.length ≤ sizeLine → RpL ⟨X.K, φ⟩ H1 ρ1 vs ds → d = .lst ds.reverse → ∃ a xs, v = .ref a ∧ SqL X.K H1 a xs ∧ ∀ p, H1 p = none → Q (.ref p) (upd H1 p (.lst xs.reverse)) := fun a vs ds ea h1 h3 h4 ed => by
        subst ea ed
        exact ⟨a, vs, rfl, sqL h1, fun p hp => q _ _ ρ1 (g1.trans (Ext.new hp)) (s1.new hp) (.lst upd_same (s1.nin hp) (by rw [List.length_reverse]; exact h3) (h4.reverse.mono (Ext.new hp)))⟩
      unfold revD at e2
      split at e2
      · cases e2
        rename_i hd
        rw [hd] at r1
        obtain ⟨a, vs, rfl, k1, k2, k3, k4⟩ := r1.toLst
        exact fin a vs _ rfl k1 k3 k4 rfl
      · split at e2
        · cases e2
          rename_i hd _ xs hm
          rw [hd] at r1
          obtain ⟨a, vs, rfl, _, k1, k3, k4⟩ := atLst s1 r1 hm
          exact fin a vs _ rfl k1 k3 k4 rfl
        · cases e2
      · cases e2
    · cases h
  | .call f es, sc, ss, X, C, e, h => by
    rw [kE] at h
    split at h
    · rename_i g l hx
      obtain ⟨pos, rfl⟩ := asCall_eq hx
      split at h
      · rename_i x hf
        simp only [Bool.and_eq_true, decide_eq_true_eq, Bool.not_eq_true'] at h
        obtain ⟨⟨⟨h1, h2⟩, h3⟩, h4⟩ := h
        obtain ⟨p, rfl⟩ := asName_eq h1
        obtain ⟨fa, m1, m2, m3⟩ := C.call hf
        refine ⟨fun pins s σ H Q I q => ?_⟩
        obtain ⟨φ, env, ρ, μ, d, μ', en, sr, ev, q⟩ := q
        simp only [evE, Option.bind_eq_some_iff] at ev
        obtain ⟨x1, e1, e2⟩ := ev
        refine wpAny_Call_Name_kw (ld_glob I (gl_of C h2) m1 ?_ h4)
        cases l with
        | nil =>
          cases es with
          | cons => cases h3
          | nil =>
            cases e1
            exact PySem.W.callWith_K0 I.kIn m2 (m3 pins s σ H [] [] Q φ ρ μ [] (d, μ') I .nil sr .nil e2 q)
        | cons e l =>
          have k3 := h3
          cases es with
          | nil => cases h3
          | cons a es =>
            rw [kEs, Bool.and_eq_true, Bool.and_eq_true] at h3
            refine PySem.W.callWith_K (h₀ := X.base) I.ok.mod.kin m2 (thn ((sEs La (.cons a es) C k3).run pos pins s σ H (fun vs H1 => ∃ ρ1, Ext ρ H ρ1 H1 ∧ Sr ⟨X.K, φ⟩ H1 ρ1 x1.2 ∧ RpL ⟨X.K, φ⟩ H1 ρ1 vs x1.1) I ?_) fun us s1 hq => ?_) (starEach_cons h3.1.1) (backTo_any.trans (kEs_star h3.2))
            · exact seqA en sr e1 fun vs H1 ρ1 g1 s1 r1 _ => ⟨ρ1, g1, s1, r1⟩
            · obtain ⟨vs, H1, I1, r, ρ1, g1, s1', r1⟩ := hq
              exact ⟨I1.kIn, m3 pins s1 σ H1 vs us Q φ ρ1 x1.2 x1.1 (d, μ') I1 r s1' r1 e2 fun v H' ρ' g2 s2 r2 => q v H' ρ' (g1.trans g2) s2 r2⟩
      · cases h
    · cases h
  | .tab x ents k es, sc, ss, X, C, e, h => by
    rw [kE] at h
    split at h
    · rename_i g l hx
      obtain ⟨pos, rfl⟩ := asCall_eq hx
      split at h
      · rename_i t i hg
        obtain ⟨ps, rfl⟩ := asSub_eq hg
        simp only [Bool.and_eq_true, decide_eq_true_eq, Bool.not_eq_true'] at h
        obtain ⟨⟨⟨⟨⟨⟨⟨h1, h2⟩, h3⟩, h4⟩, h5⟩, h6⟩, h7⟩, h8⟩ := h
        obtain ⟨pt, rfl⟩ := asName_eq h1
        obtain ⟨dd, es', n, m1, m2, m3⟩ := C.gt x ents h3
        have pz : L2.PE X (.Name x pt) (tC (.ref dd)) := pe_glob (gl_of C h2) m1 rfl h8
        refine ⟨fun pins s σ H Q I q => ?_⟩
        obtain ⟨φ, env, ρ, μ, d, μ', en, sr, ev, q⟩ := q
        simp only [evE, Option.bind_eq_some_iff] at ev
        obtain ⟨x1, e1, e2⟩ := ev
        split at e2
        · rename_i w' hw
          split at e2
          · rename_i f hf
            simp only [Option.bind_eq_some_iff] at e2
            obtain ⟨x2, e2, e3⟩ := e2
            obtain ⟨y, fa, n1, n2, n3⟩ := m3 w' (some f) hf
            obtain ⟨fa', k1, k2, k3⟩ := C.call n1
            rw [n2] at k1
            cases k1
            refine Call_ ?_
            have head := (pe_ix (pos := ps) ix_kdict pz (sE La k C h4) (plainIx h5)).run pins s σ H (fun v H1 => v = .ref fa ∧ ∃ ρ1, Ext ρ H ρ1 H1 ∧ Sr ⟨X.K, φ⟩ H1 ρ1 x1.2) I (seq1 en sr e1 fun v H1 ρ1 g1 s1 r1 _ => by
              rw [hw] at r1
              exact ⟨dd, w', .ref fa, rfl, r1.toStr, ⟨es', n, .ref fa, m2.at_, m2.lit, n3, rfl⟩, rfl, ρ1, g1, s1⟩)
            refine thn head fun fv s1 hq => ?_
            obtain ⟨v, H1, I1, rv, ev, ρ1, g1, s1'⟩ := hq
            subst ev
            cases rv
            have en1 := en.mono g1
            cases l with
            | nil => simp at h7
            | cons e l =>
              cases es with
              | nil => cases h6
              | cons a es =>
                have k6 := h6
                rw [kEs, Bool.and_eq_true, Bool.and_eq_true] at h6
                refine PySem.W.callWith_K (h₀ := X.base) I1.ok.mod.kin k2 (thn ((sEs La (.cons a es) C k6).run pos pins s1 σ H1 (fun vs H2 => ∃ ρ2, Ext ρ1 H1 ρ2 H2 ∧ Sr ⟨X.K, φ⟩ H2 ρ2 x2.2 ∧ RpL ⟨X.K, φ⟩ H2 ρ2 vs x2.1) I1 ?_) fun us s2 hq => ?_) (starEach_cons h6.1.1) (backTo_any.trans (kEs_star h6.2))
                · exact seqA en1 s1' e2 fun vs H2 ρ2 g2 s2 r2 _ => ⟨ρ2, g2, s2, r2⟩
                · obtain ⟨vs, H2, I2, r, ρ2, g2, s2', r2⟩ := hq
                  exact ⟨I2.kIn, k3 pins s2 σ H2 vs us Q φ ρ2 x2.2 x2.1 (d, μ') I2 r s2' r2 e3 fun v H' ρ' g3 s3 r3 => q v H' ρ' ((g1.trans g2).trans g3) s3 r3⟩
          · cases e2
        · cases e2
      · cases h
    · cases h
  | .bi b es, sc, ss, X, C, e, h => by
    rw [kE] at h
    split at h
    · rename_i g l x hx hb
      obtain ⟨pos, rfl⟩ := asCall_eq hx
      simp only [Bool.and_eq_true, decide_eq_true_eq] at h
      obtain ⟨⟨h1, h2⟩, h3⟩ := h
      obtain ⟨x', k1, k2, k3, k4, k5⟩ := biR (X := X) b C.calm
      rw [hb] at k1
      cases k1
      obtain ⟨p, rfl, gl, mg⟩ := blt_of C h1 k2
      cases l with
      | nil => simp at h3
      | cons a l =>
        cases es with
        | nil => cases h2
        | cons a' es =>
          have k6 := h2
          rw [kEs, Bool.and_eq_true, Bool.and_eq_true] at h2
          rcases k5 with ⟨id, b1, b2⟩ | ⟨T, b1, b2⟩
          · exact peW (callB b2 gl mg b1 (sEs La (.cons a' es) C k6) (starEach_cons h2.1.1) (kEs_star h2.2) k3 k4) fun σ H Q q => biW q
          · exact peW (callT b2 gl mg b1 (sEs La (.cons a' es) C k6) (starEach_cons h2.1.1) (kEs_star h2.2) k3 k4) fun σ H Q q => biW q
    · cases h
  | .isi T a, sc, ss, X, C, e, h => by
    rw [kE] at h
    split at h
    · rename_i g x t hx
      obtain ⟨pos, rfl⟩ := asCall_eq hx
      simp only [Bool.and_eq_true] at h
      obtain ⟨⟨⟨⟨⟨h1, h2⟩, h3⟩, h4⟩, h5⟩, h6⟩ := h
      obtain ⟨p, rfl, gl, mg⟩ := blt_of C h1 (by decide)
      have hT : T = "tuple" ∨ T = "str" ∨ T = "int" ∨ T = "bool" := by simpa using h6
      have pt : L2.PE X t (tC (.ty T)) := by
        rcases hT with rfl | rfl | rfl | rfl
        · obtain ⟨p, rfl, gl, mg⟩ := blt_of C h2 (by decide)
          exact pe_bltn gl mg PyProof.Rows.boot_tuple rfl (by decide) (by decide)
        · obtain ⟨p, rfl, gl, mg⟩ := blt_of C h2 (by decide)
          exact pe_bltn gl mg (by decide +kernel : bootBuiltins "str" = some (.type "str")) rfl (by decide) (by decide)
        · obtain ⟨p, rfl, gl, mg⟩ := blt_of C h2 (by decide)
          exact pe_bltn gl mg PyProof.Rows.boot_int rfl (by decide) (by decide)
        · obtain ⟨p, rfl, gl, mg⟩ := blt_of C h2 (by decide)
          exact pe_bltn gl mg (by decide +kernel : bootBuiltins "bool" = some (.type "bool")) rfl (by decide) (by decide)
      refine peW (callB (x := "isinstance") call_isi gl mg PyProof.Rows.boot_isinstance (pa_cons (sE La a C h3) (pa_cons pt pa_nil (starEach_cons h5)) (starEach_cons h4)) (starEach_cons h4) (by rw [starEach_cons h5]; rfl) (by decide) (by decide)) fun σ H Q q => ?_
      obtain ⟨φ, env, ρ, μ, d, μ', en, sr, ev, q⟩ := q
      simp only [evE, Option.bind_eq_some_iff, Option.map_eq_some_iff] at ev
      obtain ⟨x1, e1, b, e2, e3⟩ := ev
      cases e3
      refine seq1 en sr e1 fun v H1 ρ1 g1 s1 r1 en1 => ?_
      obtain ⟨ty, i1, i2⟩ := isi_ok r1 e2 h6
      exact ⟨v, .ty T, ty, .type T, b, rfl, .ty T, i1, i2, q _ H1 ρ1 g1 s1 (.bl b)⟩
    · cases h
  | .told a, sc, ss, X, C, e, h => by
    rw [kE] at h
    split at h
    · rename_i g y hx
      obtain ⟨pos, rfl⟩ := asCall_eq hx
      simp only [Bool.and_eq_true] at h
      obtain ⟨⟨h1, h2⟩, h3⟩ := h
      split at h3
      · rename_i g2 z hy
        obtain ⟨pos2, rfl⟩ := asCall_eq hy
        simp only [Bool.and_eq_true] at h3
        obtain ⟨⟨h3, h4⟩, h5⟩ := h3
        split at h5
        · rename_i o m hz
          obtain ⟨ap, pos3, rfl, hl⟩ := asMeth_eq hz
          simp only [Bool.and_eq_true, decide_eq_true_eq] at h5
          obtain ⟨⟨rfl, h6⟩, h7⟩ := h5
          obtain ⟨p, rfl, gl, mg⟩ := blt_of C h1 (by decide)
          obtain ⟨p2, rfl, gl2, mg2⟩ := blt_of C h3 (by decide)
          exact La.told C (p6 := p) (sE La a C h7) h6 hl gl mg gl2 mg2
        · cases h5
      · cases h3
    · cases h
  | .lzip a b, sc, ss, X, C, e, h => by
    rw [kE] at h
    cases h
  | .app l a, sc, ss, X, C, e, h => by
    rw [kE] at h
    split at h
    · rename_i o m x hx
      obtain ⟨ap, pos, rfl, hl⟩ := asMeth_eq hx
      simp only [Bool.and_eq_true, decide_eq_true_eq] at h
      obtain ⟨⟨⟨⟨rfl, h1⟩, h2⟩, h3⟩, h4⟩ := h
      have st := starEach_cons (e := x) (es := []) (env := X.env) h2
      refine peW (pe_bm PySem.F.plainAttrs_list PySem.F.slot_list_append PySem.F.type_list_append mt_append (sE La l C h3) (pa_cons (sE La a C h4) pa_nil st) (noBase h1) (by rw [st]; rfl) hl st rfl) fun σ H Q q => ?_
      obtain ⟨φ, env, ρ, μ, d, μ', en, sr, ev, q⟩ := q
      simp only [evE, Option.bind_eq_some_iff] at ev
      obtain ⟨x1, e1, e2⟩ := ev
      split at e2
      · rename_i hL
        simp only [Option.bind_eq_some_iff, Option.map_eq_some_iff] at e2
        obtain ⟨x2, e2, m, e3, e4⟩ := e2
        cases e4
        refine seq1 en sr e1 fun v H1 ρ1 g1 s1 r1 en1 => ⟨isLst_at s1 r1 hL, ?_⟩
        refine seq1 en1 s1 e2 fun u H2 ρ2 g2 s2 r2 _ => ?_
        unfold appD at e3
        split at e3
        · rename_i n d' hd
          split at e3
          · rename_i xs hm
            split at e3
            · cases e3
              rw [hd] at r1
              obtain ⟨p, vs, rfl, ha, k1, k3, k4⟩ := atLst s2 (r1.mono g2) hm
              have hlen := k4.length
              refine ⟨p, vs, u, rfl, rfl, k1, by omega, ?_⟩
              have hp := List.mem_of_getElem? ha
              refine q _ _ ρ2 ((g1.trans g2).trans (Ext.put hp)) (s2.put ha (.lst upd_same (by rw [List.length_append, List.length_singleton]; omega) ?_)) .non
              exact ((k4.append (.cons r2 .nil)).mono (Ext.put hp))
            · cases e3
          · cases e3
        · cases e3
      · cases e2
    · cases h
  | .get d0 k a, sc, ss, X, C, e, h => by
    rw [kE] at h
    split at h
    · rename_i o m x y hx
      obtain ⟨ap, pos, rfl, hl⟩ := asMeth_eq hx
      simp only [Bool.and_eq_true, decide_eq_true_eq] at h
      obtain ⟨⟨⟨⟨⟨⟨rfl, h1⟩, h2⟩, h3⟩, h4⟩, h5⟩, h6⟩ := h
      have st1 := starEach_cons (e := y) (es := []) (env := X.env) h3
      have st := starEach_cons (e := x) (es := [y]) (env := X.env) h2
      have tr : backTo pos (starEach [x, y] X.env) = [(false, eval x X.env), (false, eval y X.env)] := by rw [st, st1]; rfl
      refine peW (pe_dget2 (by have := C.hu; omega) (sE La d0 C h4) (sE La k C h5) (sE La a C h6) ⟨noBase h1, by rw [tr]; rfl, hl, tr⟩) fun σ H Q q => ?_
      obtain ⟨φ, env, ρ, μ, d, μ', en, sr, ev, q⟩ := q
      simp only [evE, Option.bind_eq_some_iff] at ev
      obtain ⟨x1, e1, e2⟩ := ev
      split at e2
      · rename_i hL
        simp only [Option.bind_eq_some_iff, Option.map_eq_some_iff] at e2
        obtain ⟨x2, e2, x3, e3, r, e4, e5⟩ := e2
        cases e5
        refine seq1 en sr e1 fun v H1 ρ1 g1 s1 r1 en1 => ?_
        obtain ⟨p, rfl, isd⟩ := isDct_at s1 r1 hL
        refine ⟨p, rfl, isd, seq1 en1 s1 e2 fun u H2 ρ2 g2 s2 r2 en2 => seq1 en2 s2 e3 fun w' H3 ρ3 g3 s3 r3 _ => ?_⟩
        unfold getD at e4
        split at e4
        · rename_i n k' e' hd
          split at e4
          · rename_i kvs qk hm hk
            cases e4
            rw [hd] at r1
            obtain ⟨p', vs, hp', ha, k1, k2⟩ := atDct s3 ((r1.mono g2).mono g3) hm
            cases hp'
            have ek : u = kV qk := by
              unfold keyD at hk
              split at hk
              · cases hk; rename_i hz; rw [hz] at r2; exact r2.toInt
              · cases hk; rename_i hz; rw [hz] at r2; exact r2.toStr
              · cases hk
            refine ⟨valV vs qk, ek ▸ DGet.k k1, ?_⟩
            rcases k2.val qk with ⟨q1, q2⟩ | ⟨v, d', q1, q2, q3⟩
            · rw [q2]
              rw [q1] at q
              exact q _ H3 ρ3 ((g1.trans g2).trans g3) s3 r3
            · rw [q2]
              rw [q1] at q
              exact q _ H3 ρ3 ((g1.trans g2).trans g3) s3 q3
          · cases e4
        · cases e4
      · cases e2
    · cases h
  | .lc own elt t src ifs, sc, ss, X, C, e, h => by
    rw [kE] at h
    split at h
    · rename_i el tg it fs bs hx
      obtain ⟨pos, rfl⟩ := asLc_eq hx
      simp only [Bool.and_eq_true, decide_eq_true_eq] at h
      obtain ⟨⟨⟨⟨⟨⟨⟨h1, h2⟩, h3⟩, h4⟩, h5⟩, h6⟩, h7⟩, h8⟩ := h
      have hI := sSr La src (tg := tg) C h3
      have ok : BlkOk X.N X.env.scope bs (ownP S.N own) := by
        rw [C.N, C.sce]
        exact blkOk_by h2
      have pts : ∀ (s : Shared) (H : Hp) (A : Addr) (cl : List (Str × Addr)) (fp : List Addr), L2.PTs (X.blk s H bs (compEnvC bs cl A X.env) fp) fs (tBs X.K c .And ifs) := fun s H A cl fp => by
        cases ifs with
        | nil =>
          cases fs with
          | cons => cases h7
          | nil =>
            refine ptsW pts_nil fun σ H Q q => ?_
            obtain ⟨φ, env, ρ, μ, tt, μ', en, sr, ev, q⟩ := q
            cases ev
            exact q H ρ (Ext.refl _ _) sr
        | cons b bs' =>
          cases bs' with
          | cons => simp at h7
          | nil =>
            cases fs with
            | nil => cases h7
            | cons f fs =>
              cases fs with
              | cons => simp at h7
              | nil =>
                refine ptsW (pts_one (sB La b (C.blk (s := s) (H := H) (A := A) (cl := cl) (fp := fp)) h7)) fun σ H Q q => ?_
                obtain ⟨φ, env, ρ, μ, tt, μ', en, sr, ev, q⟩ := q
                simp only [evBs, Option.bind_eq_some_iff] at ev
                obtain ⟨x1, e1, e2⟩ := ev
                refine seqB en sr e1 fun H1 ρ1 g1 s1 _ => ?_
                obtain ⟨b1, m1⟩ := x1
                cases b1 <;> (cases e2; exact q H1 ρ1 g1 s1)
      refine peW (pe_lc (own := ownP S.N own) (g := gT X.K t) (tt := tBs X.K c .And ifs) (te := tEv X.K c elt) C.calm (by rw [C.N]; exact C.nd) hI ok
        (fun s H A cl fp => sT (C.blk (s := s) (H := H) (A := A) (cl := cl) (fp := fp)) t h4) pts (fun s H A cl fp => sE La elt (C.blk (s := s) (H := H) (A := A) (cl := cl) (fp := fp)) h8) (noSet h6)) fun σ H Q q => ?_
      rw [h1]
      exact lcRead h5 q
    · cases h
  | .lc2 own own1 elt t src t1 src1, sc, ss, X, C, e, h => by
    rw [kE] at h
    split at h
    · rename_i el tg it tg1 it1 bs hx
      obtain ⟨pos, rfl⟩ := asLc2_eq hx
      simp only [Bool.and_eq_true, decide_eq_true_eq] at h
      obtain ⟨⟨⟨⟨⟨⟨⟨⟨⟨⟨⟨h1, h2⟩, h3⟩, h4⟩, h5⟩, h6⟩, h7⟩, h8⟩, h9⟩, h10⟩, h11⟩, h12⟩ := h
      have ok : BlkOk X.N X.env.scope bs (ownP S.N own) := by
        rw [C.N, C.sce]
        exact blkOk_by h2
      have hv : ∀ i ∈ own1, i ∈ (ownP S.N own).map (·.2) := fun i hi => by
        rw [h1]
        have := List.all_eq_true.mp h3 i hi
        simpa using this
      refine peW (pe_lc2 (own := ownP S.N own) (vs1 := own1) (wi := tSr X.K c src) (wi1 := tSr X.K c src1) (g := gT X.K t) (tt := tYes) (g1 := gT X.K t1) (tt1 := tYes) (te := tEv X.K c elt) C.calm (by rw [C.N]; exact C.nd) (sSr La src (tg := tg) C h4) ok hv
        (fun s H A cl fp => sT (C.blk (s := s) (H := H) (A := A) (cl := cl) (fp := fp)) t h5) (fun s H A cl fp => pts_nil)
        (fun s H A cl fp => sSr La src1 (tg := tg1) (C.blk (s := s) (H := H) (A := A) (cl := cl) (fp := fp)) h8)
        (fun s H A cl fp => sT (C.blk (s := s) (H := H) (A := A) (cl := cl) (fp := fp)) t1 h9) (fun s H A cl fp => pts_nil)
        (fun s H A cl fp => sE La elt (C.blk (s := s) (H := H) (A := A) (cl := cl) (fp := fp)) h12) (noSet h7) (fun env => noSet (env := env) h11)) fun σ H Q q => ?_
      rw [h1]
      exact lc2Read h6 h10 q
    · cases h
theorem sEs {S : Stt} {c : Orc} (La : Later S c) : ∀ (es : AEs) {sc ss : Scope} {X : Cx} (C : Cok S c sc ss X) {l : List Expr}, kEs S sc es l = true → L2.PA X l (tAs X.K c es)
  | .nil, sc, ss, X, C, l, h => by
    cases l with
    | cons => cases h
    | nil =>
      refine paW pa_nil fun σ H Q q => ?_
      obtain ⟨φ, env, ρ, μ, d, μ', en, sr, ev, q⟩ := q
      cases ev
      exact q _ H ρ (Ext.refl _ _) sr .nil
  | .cons a es, sc, ss, X, C, l, h => by
    cases l with
    | nil => cases h
    | cons e l =>
      rw [kEs, Bool.and_eq_true, Bool.and_eq_true] at h
      refine paW (pa_cons (sE La a C h.1.2) (sEs La es C h.2) (starEach_cons h.1.1)) fun σ H Q q => ?_
      obtain ⟨φ, env, ρ, μ, d, μ', en, sr, ev, q⟩ := q
      simp only [evEs, Option.bind_eq_some_iff, Option.map_eq_some_iff] at ev
      obtain ⟨x1, e1, x2, e2, e4⟩ := ev
      cases e4
      refine seq1 en sr e1 fun v H1 ρ1 g1 s1 r1 en1 => seqA en1 s1 e2 fun u H2 ρ2 g2 s2 r2 _ => ?_
      exact q _ H2 ρ2 (g1.trans g2) s2 (.cons (r1.mono g2) r2)
theorem sV {S : Stt} {c : Orc} (La : Later S c) (o : BoolOp) : ∀ (es : AEs) {sc ss : Scope} {X : Cx} (C : Cok S c sc ss X) {l : List Expr} {pos : Pos}, kEs S sc es l = true → L2.PE X (.BoolOp o l pos) (tEv X.K c (.boo o es))
  | .nil, sc, ss, X, C, l, pos, h => by
    refine ⟨fun pins s σ H Q I q => ?_⟩
    obtain ⟨φ, env, ρ, μ, d, μ', en, sr, ev, q⟩ := q
    simp [evE, evV] at ev
  | .cons a .nil, sc, ss, X, C, l, pos, h => by
    cases l with
    | nil => cases h
    | cons e l =>
      rw [kEs, Bool.and_eq_true, Bool.and_eq_true] at h
      cases l with
      | cons => cases h.2
      | nil =>
        refine peW (pe_one (sE La a C h.1.2)) fun σ H Q q => ?_
        obtain ⟨φ, env, ρ, μ, d, μ', en, sr, ev, q⟩ := q
        rw [evE, evV] at ev
        exact ⟨φ, env, ρ, μ, d, μ', en, sr, ev, q⟩
  | .cons a (.cons b es), sc, ss, X, C, l, pos, h => by
    cases l with
    | nil => cases h
    | cons e l =>
      rw [kEs, Bool.and_eq_true, Bool.and_eq_true] at h
      have hb := sV La o (.cons b es) C (pos := pos) h.2
      cases l with
      | nil => cases h.2
      | cons e' l =>
        cases o with
        | And =>
          refine peW (pe_and (sE La a C h.1.2) hb) fun σ H Q q => ?_
          obtain ⟨φ, env, ρ, μ, d, μ', en, sr, ev, q⟩ := q
          rw [evE, evV] at ev
          simp only [Option.bind_eq_some_iff] at ev
          obtain ⟨x1, e1, e2⟩ := ev
          refine seq1 en sr e1 fun v H1 ρ1 g1 s1 r1 en1 => ?_
          split at e2
          · rename_i hz _
            rw [hz] at r1
            refine ⟨true, r1.toBl, ?_⟩
            rw [if_pos rfl]
            exact ⟨φ, env, ρ1, x1.2, d, μ', en1, s1, by rw [evE]; exact e2, fun v' H' ρ' g2 s2 r2 => q v' H' ρ' (g1.trans g2) s2 r2⟩
          · rename_i hz _
            rw [hz] at r1
            cases e2
            refine ⟨false, r1.toBl, ?_⟩
            rw [if_neg Bool.false_ne_true]
            exact q _ H1 ρ1 g1 s1 (.bl false)
          · contradiction
          · contradiction
          · cases e2
          all_goals (intro z; cases z)
        | Or =>
          refine peW (pe_or (sE La a C h.1.2) hb) fun σ H Q q => ?_
          obtain ⟨φ, env, ρ, μ, d, μ', en, sr, ev, q⟩ := q
          rw [evE, evV] at ev
          simp only [Option.bind_eq_some_iff] at ev
          obtain ⟨x1, e1, e2⟩ := ev
          refine seq1 en sr e1 fun v H1 ρ1 g1 s1 r1 en1 => ?_
          split at e2
          · contradiction
          · contradiction
          · rename_i hz _
            rw [hz] at r1
            cases e2
            refine ⟨true, r1.toBl, ?_⟩
            rw [if_pos rfl]
            exact q _ H1 ρ1 g1 s1 (.bl true)
          · rename_i hz _
            rw [hz] at r1
            refine ⟨false, r1.toBl, ?_⟩
            rw [if_neg Bool.false_ne_true]
            exact ⟨φ, env, ρ1, x1.2, d, μ', en1, s1, by rw [evE]; exact e2, fun v' H' ρ' g2 s2 r2 => q v' H' ρ' (g1.trans g2) s2 r2⟩
          · cases e2
          all_goals (intro z; cases z)
theorem sB {S : Stt} {c : Orc} (La : Later S c) : ∀ (b : AB) {sc ss : Scope} {X : Cx} (C : Cok S c sc ss X) {e : Expr}, kB S sc b e = true → L2.PT X e (tBv X.K c b)
  | .val (.cmp o a b), sc, ss, X, C, e, h => by
    rw [kB, Bool.and_eq_true] at h
    replace h := h.1
    rw [kE] at h
    split at h
    · rename_i x p y hx
      obtain ⟨pos, rfl⟩ := asCmp_eq hx
      simp only [Bool.and_eq_true, decide_eq_true_eq] at h
      obtain ⟨⟨⟨rfl, h1⟩, h2⟩, h3⟩ := h
      refine ptW (pt_cmpR (cmpR C.hu64 p) (sE La a C h1) (sE La b C h2) (noMark _ h3)) fun σ H Q q => ?_
      obtain ⟨φ, env, ρ, μ, tt, μ', en, sr, ev, q⟩ := q
      simp only [evB, evE, Option.bind_eq_some_iff, Option.map_eq_some_iff] at ev
      obtain ⟨_, ⟨x1, e1, x2, e2, z, e3, rfl⟩, t2, e5, e6⟩ := ev
      cases e5
      cases e6
      refine seq1 en sr e1 fun v H1 ρ1 g1 s1 r1 en1 => seq1 en1 s1 e2 fun u H2 ρ2 g2 s2 r2 _ => ?_
      exact ⟨φ, ρ2, x2.2, x1.1, x2.1, _, s2, r1.mono g2, r2, e3, _, rfl, q H2 ρ2 (g1.trans g2) s2⟩
    · cases h
  | .val (.cmp2 o o' a b b'), sc, ss, X, C, e, h => by
    rw [kB, Bool.and_eq_true] at h
    replace h := h.1
    rw [kE] at h
    split at h
    · rename_i x p p' y z hx
      obtain ⟨pos, rfl⟩ := asCmp2_eq hx
      simp only [Bool.and_eq_true, decide_eq_true_eq] at h
      obtain ⟨⟨⟨⟨⟨rfl, rfl⟩, h1⟩, h2⟩, h3⟩, h4⟩ := h
      refine ptW (pt_chain (cmpR C.hu64 p) (cmpR C.hu64 p') (sE La a C h1) (sE La b C h2) (sE La b' C h3) (noMark _ h4)) fun σ H Q q => ?_
      obtain ⟨φ, env, ρ, μ, tt, μ', en, sr, ev, q⟩ := q
      simp only [evB, evE, Option.bind_eq_some_iff, Option.map_eq_some_iff] at ev
      obtain ⟨y0, ⟨x1, e1, x2, e2, t, e3, e4⟩, t2, e5, e6⟩ := ev
      cases e6
      refine seq1 en sr e1 fun v H1 ρ1 g1 s1 r1 en1 => seq1 en1 s1 e2 fun u H2 ρ2 g2 s2 r2 en2 => ?_
      refine ⟨φ, ρ2, x2.2, x1.1, x2.1, t, s2, r1.mono g2, r2, e3, t, rfl, ?_⟩
      cases t with
      | false =>
        rw [if_neg Bool.false_ne_true] at e4 ⊢
        cases e4
        cases e5
        exact ⟨_, rfl, q H2 ρ2 (g1.trans g2) s2⟩
      | true =>
        rw [if_pos rfl] at e4 ⊢
        simp only [Option.bind_eq_some_iff, Option.map_eq_some_iff] at e4
        obtain ⟨x3, e7, t3, e8, e9⟩ := e4
        cases e9
        cases e5
        refine seq1 en2 s2 e7 fun w' H3 ρ3 g3 s3 r3 _ => ?_
        exact ⟨φ, ρ3, x3.2, x2.1, x3.1, _, s3, r2.mono g3, r3, e8, _, rfl, q H3 ρ3 ((g1.trans g2).trans g3) s3⟩
    · cases h
  | .val (.tin ng x ents a), sc, ss, X, C, e, h => by
    rw [kB, Bool.and_eq_true] at h
    replace h := h.1
    rw [kE] at h
    split at h
    · rename_i y p z hx
      obtain ⟨pos, rfl⟩ := asCmp_eq hx
      simp only [Bool.and_eq_true, decide_eq_true_eq, Bool.not_eq_true'] at h
      obtain ⟨⟨⟨⟨⟨hp, h1⟩, h2⟩, h3⟩, h4⟩, h5⟩ := h
      obtain ⟨q2, rfl⟩ := asName_eq h2
      obtain ⟨d, es, n, m1, m2, m3⟩ := C.gt x ents h4
      have pz : L2.PE X (.Name x q2) (tC (.ref d)) := pe_glob (gl_of C h3) m1 rfl h5
      have read : ∀ σ H Q, tBv X.K c (.val (.tin ng x ents a)) σ H Q →
          tEv X.K c a σ H fun v H1 => ∃ (z : Str) (r : Option Value), v = .str z ∧ (V.ref d) = .ref d ∧ PySem.W.nsIn X.K d z = some r ∧ ∃ k, V.bl (if ng = true then !r.isSome else r.isSome) = .bl k ∧ Q k H1 := fun σ H Q q => by
        obtain ⟨φ, env, ρ, μ, tt, μ', en, sr, ev, q⟩ := q
        simp only [evB, evE, Option.bind_eq_some_iff, Option.map_eq_some_iff] at ev
        obtain ⟨y0, ⟨x1, e1, e2⟩, t2, e5, e6⟩ := ev
        cases e6
        refine seq1 en sr e1 fun v H1 ρ1 g1 s1 r1 en1 => ?_
        split at e2
        · rename_i w' hw
          rw [Option.map_eq_some_iff] at e2
          obtain ⟨r, e3, e4⟩ := e2
          cases e4
          cases e5
          rw [hw] at r1
          have m := m3 w' r e3
          cases r with
          | none => exact ⟨w', none, r1.toStr, rfl, m, _, rfl, q H1 ρ1 g1 s1⟩
          | some f =>
            obtain ⟨y', fa, _, _, m⟩ := m
            exact ⟨w', _, r1.toStr, rfl, m, _, rfl, q H1 ρ1 g1 s1⟩
        · cases e2
      cases ng with
      | true =>
        obtain rfl : p = .NotIn := hp
        exact ptW (pt_cmpR (op_notIn_kd m2) (sE La a C h1) pz rfl) fun σ H Q q => read σ H Q q
      | false =>
        obtain rfl : p = .In := hp
        exact ptW (pt_cmpR (op_in_kd m2) (sE La a C h1) pz rfl) fun σ H Q q => read σ H Q q
    · cases h
  | .val (.var x0), sc, ss, X, C, e, h => valOk C rfl h fun h' => sE La (.var x0) C h'
  | .val (.lit x0), sc, ss, X, C, e, h => valOk C rfl h fun h' => sE La (.lit x0) C h'
  | .val (.gint x0 x1), sc, ss, X, C, e, h => valOk C rfl h fun h' => sE La (.gint x0 x1) C h'
  | .val (.tup x0), sc, ss, X, C, e, h => valOk C rfl h fun h' => sE La (.tup x0) C h'
  | .val (.lst x0), sc, ss, X, C, e, h => valOk C rfl h fun h' => sE La (.lst x0) C h'
  | .val (.nls x0), sc, ss, X, C, e, h => valOk C rfl h fun h' => sE La (.nls x0) C h'
  | .val (.ndc x0 x1), sc, ss, X, C, e, h => valOk C rfl h fun h' => sE La (.ndc x0 x1) C h'
  | .val (.neg x0), sc, ss, X, C, e, h => valOk C rfl h fun h' => sE La (.neg x0) C h'
  | .val (.bin x0 x1 x2), sc, ss, X, C, e, h => valOk C rfl h fun h' => sE La (.bin x0 x1 x2) C h'
  | .val (.boo x0 x1), sc, ss, X, C, e, h => valOk C rfl h fun h' => sE La (.boo x0 x1) C h'
  | .val (.not x0), sc, ss, X, C, e, h => valOk C rfl h fun h' => sE La (.not x0) C h'
  | .val (.ife x0 x1 x2), sc, ss, X, C, e, h => valOk C rfl h fun h' => sE La (.ife x0 x1 x2) C h'
  | .val (.idx x0 x1), sc, ss, X, C, e, h => valOk C rfl h fun h' => sE La (.idx x0 x1) C h'
  | .val (.sl x0 x1 x2), sc, ss, X, C, e, h => valOk C rfl h fun h' => sE La (.sl x0 x1 x2) C h'
  | .val (.rev x0), sc, ss, X, C, e, h => valOk C rfl h fun h' => sE La (.rev x0) C h'
  | .val (.call x0 x1), sc, ss, X, C, e, h => valOk C rfl h fun h' => sE La (.call x0 x1) C h'
  | .val (.tab x0 x1 x2 x3), sc, ss, X, C, e, h => valOk C rfl h fun h' => sE La (.tab x0 x1 x2 x3) C h'
  | .val (.bi x0 x1), sc, ss, X, C, e, h => valOk C rfl h fun h' => sE La (.bi x0 x1) C h'
  | .val (.isi x0 x1), sc, ss, X, C, e, h => valOk C rfl h fun h' => sE La (.isi x0 x1) C h'
  | .val (.told x0), sc, ss, X, C, e, h => valOk C rfl h fun h' => sE La (.told x0) C h'
  | .val (.lzip x0 x1), sc, ss, X, C, e, h => valOk C rfl h fun h' => sE La (.lzip x0 x1) C h'
  | .val (.app x0 x1), sc, ss, X, C, e, h => valOk C rfl h fun h' => sE La (.app x0 x1) C h'
  | .val (.get x0 x1 x2), sc, ss, X, C, e, h => valOk C rfl h fun h' => sE La (.get x0 x1 x2) C h'
  | .val (.lc x0 x1 x2 x3 x4), sc, ss, X, C, e, h => valOk C rfl h fun h' => sE La (.lc x0 x1 x2 x3 x4) C h'
  | .val (.lc2 x0 x1 x2 x3 x4 x5 x6), sc, ss, X, C, e, h => valOk C rfl h fun h' => sE La (.lc2 x0 x1 x2 x3 x4 x5 x6) C h'
  | .not b, sc, ss, X, C, e, h => by
    rw [kB] at h
    split at h
    · rename_i o x hx
      obtain ⟨pos, rfl⟩ := asUn_eq hx
      rw [Bool.and_eq_true, decide_eq_true_eq] at h
      obtain ⟨rfl, h1⟩ := h
      refine ptW (pt_not (sB La b C h1)) fun σ H Q q => ?_
      obtain ⟨φ, env, ρ, μ, tt, μ', en, sr, ev, q⟩ := q
      simp only [evB, Option.map_eq_some_iff] at ev
      obtain ⟨x1, e1, e2⟩ := ev
      cases e2
      exact seqB en sr e1 fun H1 ρ1 g1 s1 _ => q H1 ρ1 g1 s1
    · cases h
  | .boo o bs, sc, ss, X, C, e, h => by
    rw [kB] at h
    split at h
    · rename_i p l pos hx
      obtain rfl := asBoo_eq hx
      simp only [Bool.and_eq_true, decide_eq_true_eq] at h
      obtain ⟨⟨rfl, h1⟩, h2⟩ := h
      refine ptW (sBs La p bs C (pos := pos) h1 h2).pt fun σ H Q q => ?_
      obtain ⟨φ, env, ρ, μ, tt, μ', en, sr, ev, q⟩ := q
      exact ⟨φ, env, ρ, μ, tt, μ', en, sr, ev, q⟩
    · cases h
theorem sBs {S : Stt} {c : Orc} (La : Later S c) (o : BoolOp) : ∀ (bs : ABs) {sc ss : Scope} {X : Cx} (C : Cok S c sc ss X) {l : List Expr} {pos : Pos}, kBs S sc bs l = true → 0 < l.length → L2.PW X (.BoolOp o l pos) (tBs X.K c o bs)
  | .nil, sc, ss, X, C, l, pos, h, hl => by
    cases l with
    | nil => simp at hl
    | cons => cases h
  | .cons b .nil, sc, ss, X, C, l, pos, h, hl => by
    cases l with
    | nil => cases h
    | cons e l =>
      rw [kBs, Bool.and_eq_true] at h
      cases l with
      | cons => cases h.2
      | nil =>
        have read : ∀ σ H Q, tBs X.K c o (.cons b .nil) σ H Q → tBv X.K c b σ H Q := fun σ H Q q => by
          obtain ⟨φ, env, ρ, μ, tt, μ', en, sr, ev, q⟩ := q
          simp only [evBs, Option.bind_eq_some_iff] at ev
          obtain ⟨x1, e1, e2⟩ := ev
          refine seqB en sr e1 fun H1 ρ1 g1 s1 _ => ?_
          obtain ⟨b1, m1⟩ := x1
          cases b1 <;> cases o <;> (cases e2; exact q H1 ρ1 g1 s1)
        have hb := sB La b C h.1
        cases o with
        | And => exact ⟨fun wh pins s σ H Q I q => (pw_and1 (pos := pos) hb).run wh pins s σ H Q I (read σ H Q q)⟩
        | Or => exact ⟨fun wh pins s σ H Q I q => (pw_or1 (pos := pos) hb).run wh pins s σ H Q I (read σ H Q q)⟩
  | .cons b (.cons b' bs), sc, ss, X, C, l, pos, h, hl => by
    cases l with
    | nil => cases h
    | cons e l =>
      rw [kBs, Bool.and_eq_true] at h
      cases l with
      | nil => cases h.2
      | cons e' l =>
        have hb := sB La b C h.1
        have hr := sBs La o (.cons b' bs) C (pos := pos) h.2 (by simp)
        have read : ∀ σ H Q, tBs X.K c o (.cons b (.cons b' bs)) σ H Q → tBv X.K c b σ H fun t H1 => match t, o with
            | false, .And => Q false H1
            | true, .Or => Q true H1
            | _, _ => tBs X.K c o (.cons b' bs) σ H1 Q := fun σ H Q q => by
          obtain ⟨φ, env, ρ, μ, tt, μ', en, sr, ev, q⟩ := q
          rw [evBs, Option.bind_eq_some_iff] at ev
          obtain ⟨x1, e1, e2⟩ := ev
          refine seqB en sr e1 fun H1 ρ1 g1 s1 en1 => ?_
          obtain ⟨b1, m1⟩ := x1
          cases b1 <;> cases o
          · cases e2; exact q H1 ρ1 g1 s1
          · exact ⟨φ, env, ρ1, m1, tt, μ', en1, s1, e2, fun H' ρ' g2 s2 => q H' ρ' (g1.trans g2) s2⟩
          · exact ⟨φ, env, ρ1, m1, tt, μ', en1, s1, e2, fun H' ρ' g2 s2 => q H' ρ' (g1.trans g2) s2⟩
          · cases e2; exact q H1 ρ1 g1 s1
        cases o with
        | And =>
          refine ⟨fun wh pins s σ H Q I q => (pw_and hb hr).run wh pins s σ H Q I ?_⟩
          have q' := read σ H Q q
          obtain ⟨φ, env, ρ, μ, tt, μ', en, sr, ev, q'⟩ := q'
          refine ⟨φ, env, ρ, μ, tt, μ', en, sr, ev, fun H' ρ' g s' => ?_⟩
          have z := q' H' ρ' g s'
          cases tt with
          | true => exact iteT z
          | false => exact iteF z
        | Or =>
          refine ⟨fun wh pins s σ H Q I q => (pw_or hb hr).run wh pins s σ H Q I ?_⟩
          have q' := read σ H Q q
          obtain ⟨φ, env, ρ, μ, tt, μ', en, sr, ev, q'⟩ := q'
          refine ⟨φ, env, ρ, μ, tt, μ', en, sr, ev, fun H' ρ' g s' => ?_⟩
          have z := q' H' ρ' g s'
          cases tt with
          | true => exact iteT z
          | false => exact iteF z
theorem sO {S : Stt} {c : Orc} (La : Later S c) : ∀ (a : AO) {sc ss : Scope} {X : Cx} (C : Cok S c sc ss X) {e : Option Expr}, kO S sc a e = true → L2.PO X e (tOv X.K c a)
  | .no, sc, ss, X, C, e, h => by
    cases e with
    | some => cases h
    | none =>
      refine poW po_none fun σ H Q q => ?_
      obtain ⟨φ, env, ρ, μ, o, μ', en, sr, ev, q⟩ := q
      cases ev
      exact q H ρ (Ext.refl _ _) sr
  | .yes a, sc, ss, X, C, e, h => by
    cases e with
    | none => cases h
    | some e =>
      refine poW (po_some (sE La a C h)) fun σ H Q q => ?_
      obtain ⟨φ, env, ρ, μ, o, μ', en, sr, ev, q⟩ := q
      simp only [evO, Option.bind_eq_some_iff] at ev
      obtain ⟨x1, e1, e2⟩ := ev
      refine seq1 en sr e1 fun v H1 ρ1 g1 s1 r1 en1 => ?_
      split at e2
      · cases e2
        rename_i hz
        rw [hz] at r1
        exact ⟨_, r1.toInt, q H1 ρ1 g1 s1⟩
      · cases e2
theorem sPPs {S : Stt} {c : Orc} (La : Later S c) : ∀ (es : AEs) {sc ss : Scope} {X : Cx} (C : Cok S c sc ss X) {ks : List Str} {k : List (Option Expr)} {l : List Expr} {pos : Pos}, k.map (fun o => o.bind asConst) = ks.map (fun x => some (.str x)) → kEs S sc es l = true →
    k.length = l.length → PPs X pos k l (trsOf X.K c ks es)
  | .nil, sc, ss, X, C, ks, k, l, pos, h1, h2, h3 => by
    cases l with
    | cons => cases h2
    | nil =>
      cases k with
      | cons => simp at h3
      | nil =>
        cases ks with
        | cons => simp at h1
        | nil => exact pps_nil
  | .cons a es, sc, ss, X, C, ks, k, l, pos, h1, h2, h3 => by
    cases l with
    | nil => cases h2
    | cons e l =>
      cases k with
      | nil => simp at h3
      | cons o k =>
        cases ks with
        | nil => simp at h1
        | cons x ks =>
          rw [kEs, Bool.and_eq_true, Bool.and_eq_true] at h2
          rw [List.map_cons, List.map_cons, List.cons.injEq] at h1
          obtain ⟨k1, k2⟩ := h1
          cases o with
          | none => cases k1
          | some e0 =>
            obtain ⟨j, p, rfl⟩ := asConst_eq (show asConst e0 = some (.str x) from k1)
            exact pps_cons pe_str (sE La a C h2.1.2) (sPPs La es C k2 h2.2 (by simpa using h3))
theorem sSr {S : Stt} {c : Orc} (La : Later S c) : ∀ (a : ASr) {sc ss : Scope} {X : Cx} {tg : Expr} (C : Cok S c sc ss X) {e : Expr}, kSr S sc tg a e = true → L2.PI X tg e (tSr X.K c a)
  | .it a, sc, ss, X, tg, C, e, h => by
    rw [kSr] at h
    refine piW (pi_seq (sE La a C h)) fun σ H R q => ?_
    obtain ⟨φ, env, ρ, μ, items, g, μ', en, sr, ev, q⟩ := q
    simp only [evSrc, Option.bind_eq_some_iff, Option.map_eq_some_iff] at ev
    obtain ⟨x1, e1, xs, e2, e3⟩ := ev
    cases e3
    refine seq1 en sr e1 fun v H1 ρ1 g1 s1 r1 en1 => ?_
    obtain ⟨a, vs, rfl, k1, k2, k3, k4, k5⟩ := itemsD_at s1 r1 e2
    have hl := k3.length
    rcases hx : x1.1 with _ | _ | _ | _ | ys | ys | ys | n
    case tup =>
      have h1 := k4 ys hx
      have nin : a ∉ ρ1 ∧ a ∉ φ := by
        rw [hx] at r1
        obtain ⟨a', _, ea, _, z, _⟩ := r1.toTup
        cases ea
        exact z
      have ey : ys = items := by rw [hx] at e2; exact Option.some.inj e2
      subst ey
      have stays : ∀ {H2 : Hp} {ρ2 : List Addr}, ExtH φ ρ1 H1 ρ2 H2 → SqT X.K H2 a vs := fun x2 => sqT (x2.keep a _ h1 nin.1 nin.2).1
      refine ⟨a, rfl, .inr ⟨⟨vs, sqT h1⟩, q (Itt X.K a) (fun H => SqT X.K H a vs) (YAt vs) ρ1 H1 g1 s1 k2 (by rw [← hl]; exact walk_tup) (fun φ2 H2 ρ2 μ2 x2 _ _ => stays x2) ?_⟩⟩
      rintro φ2 i H2 ρ2 μ2 x H3 hi x2 s2 cv _ ⟨rfl, hx'⟩
      obtain ⟨d, d1, d2⟩ := (RpL.conv (fun v d r => cv v d r) k3).of_get hx'
      exact ⟨d, d1, Ext.refl _ _, s2, d2⟩
    case lst =>
      have h1 := k5 (fun z e => by rw [hx] at e; cases e)
      have nin : a ∉ ρ1 ∧ a ∉ φ := by
        rw [hx] at r1
        obtain ⟨a', _, ea, _, z, _⟩ := r1.toLst
        cases ea
        exact z
      have ey : ys = items := by rw [hx] at e2; exact Option.some.inj e2
      subst ey
      have stays : ∀ {H2 : Hp} {ρ2 : List Addr}, ExtH φ ρ1 H1 ρ2 H2 → SqL X.K H2 a vs := fun x2 => sqL (x2.keep a _ h1 nin.1 nin.2).1
      refine ⟨a, rfl, .inl ⟨⟨vs, sqL h1⟩, q (Itl X.K a) (fun H => SqL X.K H a vs) (YAt vs) ρ1 H1 g1 s1 k2 (by rw [← hl]; exact walk_list) (fun φ2 H2 ρ2 μ2 x2 _ _ => stays x2) ?_⟩⟩
      rintro φ2 i H2 ρ2 μ2 x H3 hi x2 s2 cv _ ⟨rfl, hx'⟩
      obtain ⟨d, d1, d2⟩ := (RpL.conv (fun v d r => cv v d r) k3).of_get hx'
      exact ⟨d, d1, Ext.refl _ _, s2, d2⟩
    case ref =>
      have h1 := k5 (fun z e => by rw [hx] at e; cases e)
      rw [hx] at r1 e2
      have em : x1.2[n]? = some (.lst items) := by
        unfold itemsD at e2
        simp only at e2
        split at e2
        · cases e2; assumption
        · cases e2
      obtain ⟨a', hae, hat⟩ := r1.toRef
      cases hae
      have stays : ∀ {φ2 : List Addr} {H2 : Hp} {ρ2 : List Addr} {μ2 : Mu}, ExtH φ ρ1 H1 ρ2 H2 → Sr ⟨X.K, φ2⟩ H2 ρ2 μ2 → okG (some (n, items)) μ2 = true → ∃ ws, SqL X.K H2 a ws ∧ ws.length = items.length ∧ RpL ⟨X.K, φ2⟩ H2 ρ2 ws items := fun x2 s2 o2 => by
        have em2 := okG_at o2
        have hat2 : _ := x2.get hat
        cases s2.at' n a _ hat2 em2 with
        | lst h z r => exact ⟨_, sqL h, r.length, r⟩
      refine ⟨a, rfl, .inl ⟨⟨vs, sqL h1⟩, q (Itl X.K a) (fun H => ∃ ws, SqL X.K H a ws ∧ ws.length = items.length) (fun i H x H' => H' = H ∧ ∀ ws, SqL X.K H a ws → ws[i]? = some x) ρ1 H1 g1 s1 k2 ?_ (fun φ2 H2 ρ2 μ2 x2 s2 o2 => by
        simp only [hx] at o2
        obtain ⟨ws, w1, w2, _⟩ := stays x2 s2 o2
        exact ⟨ws, w1, w2⟩) ?_⟩⟩
      · refine ⟨fun i H hi ⟨ws, q1, q2⟩ => ⟨ws, ws[i]'(by omega), q1, by simp⟩, fun H ⟨ws, q1, q2⟩ => ⟨ws, q1, by omega⟩, fun i H x H' hi _ y => y⟩
      · rintro φ2 i H2 ρ2 μ2 x H3 hi x2 s2 cv o2 ⟨rfl, hx'⟩
        simp only [hx] at o2
        obtain ⟨ws, w1, w2, w3⟩ := stays x2 s2 o2
        obtain ⟨d, d1, d2⟩ := w3.of_get (hx' ws w1)
        exact ⟨d, d1, Ext.refl _ _, s2, d2⟩
    all_goals (rw [hx] at e2; cases e2)
  | .rng a, sc, ss, X, tg, C, e, h => by
    rw [kSr] at h
    split at h
    · rename_i g x hx
      obtain ⟨pos, rfl⟩ := asCall_eq hx
      simp only [Bool.and_eq_true] at h
      obtain ⟨⟨h1, h2⟩, h3⟩ := h
      obtain ⟨p, rfl, gl, mg⟩ := blt_of C h1 (by decide)
      have st := starEach_cons (e := x) (es := []) (env := X.env) h3
      refine piW (pi_range1 gl mg (pa_cons (sE La a C h2) pa_nil st) (by rw [st]; rfl)) fun σ H R q => ?_
      obtain ⟨φ, env, ρ, μ, items, g, μ', en, sr, ev, q⟩ := q
      simp only [evSrc, Option.bind_eq_some_iff] at ev
      obtain ⟨x1, e1, e2⟩ := ev
      refine seq1 en sr e1 fun v H1 ρ1 g1 s1 r1 en1 => ?_
      split at e2
      · rename_i j hj
        split at e2
        · rename_i hc
          cases e2
          rw [hj] at r1
          have hlen : (List.map (fun i => D.int (0 + (i : Nat))) (List.range j.toNat)).length = j.toNat := by simp
          have p62 : (1000000 : Int) < 2 ^ 62 := by decide
          refine ⟨j, by rw [r1.toInt], hc.2, by omega, q (Itr 0 j.toNat) (fun _ => True) (YFn fun i => .int (0 + i)) ρ1 H1 g1 s1 (by rw [hlen, sizeLine_eq]; omega) (by rw [hlen]; exact walk_range) (fun _ _ _ _ _ _ _ => trivial) ?_⟩
          rintro φ2 i H2 ρ2 μ2 x H3 hi x2 s2 cv _ ⟨rfl, rfl⟩
          rw [hlen] at hi
          exact ⟨.int (0 + (i : Nat)), by simp [hi], Ext.refl _ _, s2, .int _⟩
        · cases e2
      · cases e2
    · cases h
  | .rng2 a b, sc, ss, X, tg, C, e, h => by
    rw [kSr] at h
    split at h
    · rename_i g x y hx
      obtain ⟨pos, rfl⟩ := asCall_eq hx
      simp only [Bool.and_eq_true] at h
      obtain ⟨⟨⟨⟨h1, h2⟩, h3⟩, h4⟩, h5⟩ := h
      obtain ⟨p, rfl, gl, mg⟩ := blt_of C h1 (by decide)
      have st2 := starEach_cons (e := y) (es := []) (env := X.env) h5
      have st := starEach_cons (e := x) (es := [y]) (env := X.env) h4
      refine piW (pi_range2 gl mg (pa_cons (sE La a C h2) (pa_cons (sE La b C h3) pa_nil st2) st) (by rw [st, st2]; rfl) (by rw [st2]; rfl)) fun σ H R q => ?_
      obtain ⟨φ, env, ρ, μ, items, g, μ', en, sr, ev, q⟩ := q
      simp only [evSrc, Option.bind_eq_some_iff] at ev
      obtain ⟨x1, e1, x2, e2, e3⟩ := ev
      refine seq1 en sr e1 fun v H1 ρ1 g1 s1 r1 en1 => seq1 en1 s1 e2 fun u H2 ρ2 g2 s2 r2 _ => ?_
      split at e3
      · rename_i i j hi hj
        split at e3
        · rename_i hc
          cases e3
          rw [hi] at r1
          rw [hj] at r2
          have hlen : (List.map (fun k => D.int (i + (k : Nat))) (List.range (j - i).toNat)).length = (j - i).toNat := by simp
          refine ⟨i, j, by rw [r1.toInt, r2.toInt], ⟨hc.2.1, hc.2.2.1, hc.2.2.2.1, hc.2.2.2.2⟩, q (Itr i (j - i).toNat) (fun _ => True) (YFn fun k => .int (i + k)) ρ2 H2 (g1.trans g2) s2 (by rw [hlen, sizeLine_eq]; omega) (by rw [hlen]; exact walk_range) (fun _ _ _ _ _ _ _ => trivial) ?_⟩
          rintro φ2 k H3 ρ3 μ2 x H4 hk x2 s3 cv _ ⟨rfl, rfl⟩
          rw [hlen] at hk
          exact ⟨.int (i + (k : Nat)), by simp [hk], Ext.refl _ _, s3, .int _⟩
        · cases e3
      · cases e3
    · cases h
  | .enm a, sc, ss, X, tg, C, e, h => by
    rw [kSr] at h
    split at h
    · rename_i g x hx
      obtain ⟨pos, rfl⟩ := asCall_eq hx
      simp only [Bool.and_eq_true] at h
      obtain ⟨⟨⟨h1, h2⟩, h3⟩, h4⟩ := h
      obtain ⟨p, rfl, gl, mg⟩ := blt_of C h1 (by decide)
      obtain ⟨ts, ht⟩ := Option.isSome_iff_exists.mp h4
      obtain ⟨k, p2, rfl⟩ := asTuple_eq ht
      have st := starEach_cons (e := x) (es := []) (env := X.env) h3
      refine piW (pi_E gl mg (pa_cons (sE La a C h2) pa_nil st) st) fun σ H R q => ?_
      obtain ⟨φ, env, ρ, μ, items, g, μ', en, sr, ev, q⟩ := q
      simp only [evSrc, Option.bind_eq_some_iff] at ev
      obtain ⟨x1, e1, e2⟩ := ev
      refine seq1 en sr e1 fun v H1 ρ1 g1 s1 r1 en1 => ?_
      have both : ∃ xs, (x1.1 = .lst xs ∨ x1.1 = .tup xs) ∧ some (pairs xs 0, (none : Grd), x1.2) = some (items, g, μ') := by
        split at e2
        · rename_i xs hxs; exact ⟨xs, .inl hxs, e2⟩
        · rename_i xs hxs; exact ⟨xs, .inr hxs, e2⟩
        · cases e2
      obtain ⟨xs, hxs, e2⟩ := both
      cases e2
      obtain ⟨t, b, vs, rfl, k3, k4, k1⟩ := datK hxs r1
      have hl := k4.length
      have plen : ∀ (xs : List D) (n : Nat), (pairs xs n).length = xs.length := fun xs => by
        induction xs with
        | nil => intro n; rfl
        | cons x r ih => intro n; simp [pairs, ih]
      have pget : ∀ (xs : List D) (n i : Nat) (d : D), xs[i]? = some d → (pairs xs n)[i]? = some (.tup [.int ((n + i : Nat) : Int), d]) := fun xs => by
        induction xs with
        | nil => intro n i d h; simp at h
        | cons x r ih =>
          intro n i d h
          cases i with
          | zero => simp at h; subst h; simp [pairs]
          | succ i =>
            rw [List.getElem?_cons_succ] at h
            show (pairs r (n + 1))[i]? = _
            rw [ih (n + 1) i d h]
            congr 3
            simp only [List.cons.injEq, D.int.injEq, and_true]
            omega
      have here := (Ext.refl ρ1 H1).toH φ
      refine ⟨t, b, vs, rfl, k1 _ _ here, q (ItE t X.K b) (fun H => sqK t X.K H b vs) _ ρ1 H1 g1 s1 (by rw [plen]; exact k3) (by rw [plen, ← hl]; exact walkE) (fun φ2 H2 ρ2 μ2 x2 _ _ => k1 _ _ x2) ?_⟩
      rintro φ2 i H2 ρ2 μ2 x H3 hi x2 s2 cv _ ⟨T, y, z, rfl, hT, rfl, hy, hz⟩
      cases hy
      obtain ⟨d, d1, d2⟩ := (RpL.conv (fun v d r => cv v d r) k4).of_get hz
      refine ⟨.tup [.int ((0 + i : Nat) : Int), d], pget xs 0 i d d1, Ext.new hT, s2.new hT, .tup upd_same (s2.nin hT) (by show 2 ≤ sizeLine; decide) ?_⟩
      refine .cons ?_ (.cons (d2.mono (Ext.new hT)) .nil)
      rw [Nat.zero_add]
      exact .int _
    · cases h
  | .zip a b, sc, ss, X, tg, C, e, h => by
    rw [kSr] at h
    split at h
    · rename_i g x y hx
      obtain ⟨pos, rfl⟩ := asCall_eq hx
      simp only [Bool.and_eq_true] at h
      obtain ⟨⟨⟨⟨⟨h1, h2⟩, h3⟩, h4⟩, h5⟩, h6⟩ := h
      obtain ⟨p, rfl, gl, mg⟩ := blt_of C h1 (by decide)
      obtain ⟨ts, ht⟩ := Option.isSome_iff_exists.mp h6
      obtain ⟨k, p2, rfl⟩ := asTuple_eq ht
      exact La.zip C (sE La a C h2) (sE La b C h3) h4 h5 gl mg
    · cases h
end
end Pl

namespace Pl
open PySem PySem.Spec PyProof.Rows L2

def rGet (K : PySem.W.Frag) : V → V → Hp → VK → Prop := fun x y H Q => ∃ φ ρ μ n e z, Sr ⟨K, φ⟩ H ρ μ ∧ Rp ⟨K, φ⟩ H ρ x (.ref n) ∧ Rp ⟨K, φ⟩ H ρ y e ∧ idxD μ (.ref n) e = some z ∧ ∀ v, Rp ⟨K, φ⟩ H ρ v z → Q v H
theorem getR {X : Cx} (hu : X.A.units + 64 < cLine) : PGet X (rGet X.K) := by
  intro pins s σ H x y v u Q I rx ry h
  obtain ⟨φ, ρ, μ, n, e, z, sr, rd, re, hb, q⟩ := h
  unfold idxD at hb
  have dict : ∀ (kvs : List (Key × D)) (k : Key), μ[n]? = some (.dct kvs) → y = kV k → valD kvs k = some z → wpAny (model X.prog X.w) X.A (getItem v u) (EP X pins σ Q) X.xe s := fun kvs k hm ek hv => by
    obtain ⟨a, vs, rfl, _, h1, h2⟩ := atDct sr rd hm
    rcases h2.val k with ⟨q1, _⟩ | ⟨w', d', q1, q2, q3⟩
    · rw [hv] at q1; cases q1
    · rw [hv] at q1; cases q1
      cases rx
      have g : DGet H a y (some w') := by
        rw [ek, ← q2]
        exact DGet.k h1
      exact d_getItem (by omega) I g ry fun w1 s1 I1 r1 => ⟨w', H, I1, r1, q _ q3⟩
  simp only at hb
  split at hb
  · rename_i xs i hm
    obtain ⟨a, vs, rfl, _, h1, h3, h4⟩ := atLst sr rd hm
    rw [re.toInt] at ry
    obtain ⟨w', e1, e2⟩ := h4.at hb
    cases rx
    obtain ⟨t, rfl⟩ := ry
    obtain ⟨its, r, pl, hz⟩ := I.list (sqL (F := X.K) h1)
    obtain ⟨j, k1, k2, k3, k4, k5⟩ := atI_get e1
    obtain ⟨w1, ew, rw'⟩ := r.get k2
    have hl := r.length
    have hn := line63
    have fin : EP X pins σ Q w1 s := ⟨w', H, I, rw', q _ e2⟩
    by_cases h0 : 0 ≤ i
    · have hj : i.toNat = j := by
        rw [seqIndex_of h0 k5] at k1
        exact Option.some.inj k1
      exact wpAny_getItem_list pl.isList h0 (by omega) (by rw [hj]; simpa using ew) fin
    · have hj : (i + (its.toArray.size : Int)).toNat = j := by
        rw [seqIndex_neg (by omega) k4] at k1
        rw [List.size_toArray, ← hl]
        exact Option.some.inj k1
      exact wpAny_getItem_list_neg pl.isList (by omega) (by rw [List.size_toArray] <;> omega) (by omega) (by rw [hj]; simpa using ew) fin
  · exact dict _ (.inl _) (by assumption) re.toInt hb
  · exact dict _ (.inr _) (by assumption) re.toStr hb
  · cases hb
def rPut (K : PySem.W.Frag) : TSet := fun x y v H Q => ∃ φ ρ μ d e z m, Sr ⟨K, φ⟩ H ρ μ ∧ Rp ⟨K, φ⟩ H ρ x d ∧ Rp ⟨K, φ⟩ H ρ y e ∧ Rp ⟨K, φ⟩ H ρ v z ∧ setD μ d e z = some m ∧ ∀ H', Ext ρ H ρ H' → Sr ⟨K, φ⟩ H' ρ m → Q H'
theorem putR {X : Cx} (hu : X.A.units + 64 < cLine) : PSet X (rPut X.K) := by
  intro pins s σ H x y w v u t Q I rx ry rw' h
  obtain ⟨φ, ρ, μ, d, e, z, m, sr, rd, re, rz, hb, q⟩ := h
  cases d
  case ref n =>
    simp only [setD] at hb
    have dict : ∀ (kvs : List (Key × D)) (k : Key), μ[n]? = some (.dct kvs) → y = kV k → kvs.length < sizeLine → m = μ.set n (.dct (putD kvs k z)) → wpAny (model X.prog X.w) X.A (setItem v u t) (fun _ s' => ∃ H', Inv X pins σ H' s' ∧ Q H') X.xe s := fun kvs k hm ek hl em => by
      obtain ⟨a, vs, rfl, ha, h1, h2⟩ := atDct sr rd hm
      cases rx
      have g : DPut H a y w (upd H a (.dK (putK vs k w))) := by
        rw [ek]
        exact DPut.k h1 (by rw [h2.length]; exact hl)
      have mem : a ∈ ρ := List.mem_of_getElem? ha
      refine d_setItem (by omega) I g ry rw' fun s1 I1 => ⟨_, I1, q _ (Ext.put mem) ?_⟩
      rw [em]
      exact sr.put ha (.dct upd_same ((h2.mono (Ext.put mem)).put k (rz.mono (Ext.put mem))))
    split at hb
    · rename_i xs i hm
      rw [Option.map_eq_some_iff] at hb
      obtain ⟨j, hj, rfl⟩ := hb
      obtain ⟨a, vs, rfl, ha, h1, h3, h4⟩ := atLst sr rd hm
      have mem : a ∈ ρ := List.mem_of_getElem? ha
      refine set_list pins s σ H _ y w v u t Q I rx ry rw' ⟨a, vs, i, j, rfl, re.toInt, h1, by rw [h4.length]; exact hj, q _ (Ext.put mem) ?_⟩
      exact sr.put ha (.lst upd_same (by simpa using h3) (RpL.set (rz.mono (Ext.put mem)) j (h4.mono (Ext.put mem))))
    · split at hb
      · cases hb
        exact dict _ (.inl _) (by assumption) re.toInt (by assumption) rfl
      · cases hb
    · split at hb
      · cases hb
        exact dict _ (.inr _) (by assumption) re.toStr (by assumption) rfl
      · cases hb
    · cases hb
  all_goals (simp [setD] at hb)

def endD (D : Ends) (σ : L2.St) (H : Hp) (k : Kp) (ρ : List Addr) : Fl → Prop
  | .nx => D.nx σ H
  | .bk => D.bk σ H
  | .ct => D.ct σ H
  | .rt d => ∀ v, Rp k H ρ v d → D.rt v H
def finS (K : PySem.W.Frag) (φ : List Addr) (D : Ends) (H : Hp) (ρ : List Addr) (z : Fl × En × Mu) : Prop :=
  ∀ σ' H' ρ', Ext ρ H ρ' H' → Sr ⟨K, φ⟩ H' ρ' z.2.2 → EnR ⟨K, φ⟩ H' ρ' σ' z.2.1 → endD D σ' H' ⟨K, φ⟩ ρ' z.1
def tSv (K : PySem.W.Frag) (c : Orc) (a : AS) : TS := fun D σ H => ∃ φ env ρ μ z, EnR ⟨K, φ⟩ H ρ σ env ∧ Sr ⟨K, φ⟩ H ρ μ ∧ evS c a env μ = some z ∧ finS K φ D H ρ z
def tSs (K : PySem.W.Frag) (c : Orc) (a : ASs) : TS := fun D σ H => ∃ φ env ρ μ z, EnR ⟨K, φ⟩ H ρ σ env ∧ Sr ⟨K, φ⟩ H ρ μ ∧ evSs c a env μ = some z ∧ finS K φ D H ρ z
theorem psW {X : Cx} {e : Stmt} {t t' : TS} (h : L2.PS X e t) (w : ∀ D σ H, t' D σ H → t D σ H) : L2.PS X e t' := ⟨fun pins s σ H D I q => h.run pins s σ H D I (w D σ H q)⟩
theorem pssW {X : Cx} {e : List Stmt} {t t' : TS} (h : L2.PSs X e t) (w : ∀ D σ H, t' D σ H → t D σ H) : L2.PSs X e t' := ⟨fun pins s σ H D I q => h.run pins s σ H D I (w D σ H q)⟩
theorem noStores {tg e : Expr} {env : Env} (h : (nTup e || nTup tg && (asList tg).isNone) = true) : swappedStores [tg] e env = pure none := by
  cases e <;> first | rfl | (cases tg <;> first | rfl | (simp [nTup, asList] at h))
theorem noStoresSub {o i e : Expr} {p : Pos} {env : Env} : swappedStores [.Subscript o i p] e env = pure none := by
  cases e <;> rfl
theorem forLoop_ok {g : Grd} {t : AT} {body : En → Mu → Option (Fl × En × Mu)} {items : List D} {env : En} {μ : Mu} {z : Fl × En × Mu} (h : forLoop g t body items env μ = some z) : okG g μ = true := by
  cases items <;> (rw [forLoop] at h; split at h; assumption; cases h)
theorem twoStores {env : Env} {x y : Str} {px py pt pt2 : Pos} {kt k2 : Nat} {a b : Expr} {sc : Scope} {i j : Nat} (hs : env.scope = sc) (hk : sc.kind = .function) (h : asg2Ok sc i j x y px py [a, b] = true) :
    swappedStores [.Tuple [.Name x px, .Name y py] kt pt] (.Tuple [a, b] k2 pt2) env = pure (some [x, y]) := by
  subst hs
  unfold asg2Ok at h
  simp only [Bool.and_eq_true, decide_eq_true_eq, Bool.not_eq_true', beq_iff_eq] at h
  obtain ⟨⟨⟨⟨⟨⟨⟨h1, h2⟩, h3⟩, h4⟩, h5⟩, h6⟩, h7⟩, h8⟩ := h
  have kx : env.kindOf x = some .local := h2
  have ky : env.kindOf y = some .local := h3
  have hb : env.blockKind = .function := by unfold Env.blockKind; rw [hk]; rfl
  have ns : (List.any [a, b] fun | .Starred .. => true | _ => false) = false := by
    simp only [List.all_cons, List.all_nil, Bool.and_true, Bool.and_eq_true] at h8
    obtain ⟨g1, g2⟩ := h8
    simp only [List.any_cons, List.any_nil, Bool.or_false]
    cases a <;> first | (simp [nStar] at g1; done) | (cases b <;> first | rfl | (simp [nStar] at g2; done))
  have nd : ([x, y].eraseDups).length = 2 := by
    have : (y == x) = false := by simpa using fun e => h5 e.symm
    simp [List.eraseDups_cons, this]
  unfold swappedStores
  simp only [ns, hb, kx, ky, h6, h7, h4, List.filterMap_cons, List.filterMap_nil, Expr.pos, List.head?_cons, Option.map_some, Option.getD_some, beq_self_eq_true, Bool.and_self, if_true]
  simp only [List.all_cons, List.all_nil, Bool.and_true, Bool.and_eq_true] at h8
  obtain ⟨g1, g2⟩ := h8
  simp [nd]
  rintro (hh | hh)
  · split at hh
    · simp [nStar] at g1
    · cases hh
  · split at hh
    · simp [nStar] at g2
    · cases hh
section
variable {S : Stt} {c : Orc}
mutual
theorem sS (La : Later S c) : ∀ (a : AS) {sc : Scope} {X : Cx} (C : Cok S c sc sc X) (hp : PassesOwn (model X.prog X.w) X.A X.env X.xe) (hk : sc.kind = .function) {s : Stmt}, kS S sc a s = true → L2.PS X s (tSv X.K c a)
  | .expr a, sc, X, C, hp, hk, s, h => by
    rw [kS] at h
    split at h
    · rename_i e hx
      obtain ⟨p, rfl⟩ := stExpr_eq hx
      rw [Bool.and_eq_true] at h
      refine psW (ps_expr (sE La a C h.1) (noSwap h.2)) fun D σ H q => ?_
      obtain ⟨φ, env, ρ, μ, z, en, sr, ev, q⟩ := q
      rw [evS, Option.map_eq_some_iff] at ev
      obtain ⟨x1, e1, rfl⟩ := ev
      exact seq1 en sr e1 fun v H1 ρ1 g1 s1 r1 en1 => q σ H1 ρ1 g1 s1 en1
    · cases h
  | .asg t a, sc, X, C, hp, hk, s, h => by
    rw [kS] at h
    split at h
    · rename_i tg e l hx
      obtain ⟨p, rfl, rfl⟩ := stAsg_eq hx
      simp only [Bool.and_eq_true] at h
      obtain ⟨⟨⟨⟨h1, h2⟩, h3⟩, h4⟩, h5⟩ := h
      refine psW (ps_asg (sE La a C h3) (sT C t h1) (noSwap h4) (noStores h5) (by rw [assignEach_cons h2]; rfl)) fun D σ H q => ?_
      obtain ⟨φ, env, ρ, μ, z, en, sr, ev, q⟩ := q
      simp only [evS, Option.bind_eq_some_iff, Option.map_eq_some_iff] at ev
      obtain ⟨x1, e1, v1, e2, rfl⟩ := ev
      exact seq1 en sr e1 fun v H1 ρ1 g1 s1 r1 en1 => ⟨φ, env, ρ1, _, _, v1, en1, s1, r1, e2, fun σ' en' _ => q σ' H1 ρ1 g1 s1 en'⟩
    · cases h
  | .asg2 i j a b, sc, X, C, hp, hk, s, h => by
    rw [kS] at h
    split at h
    · rename_i x px y py kt pt e e' k2 pt2 l hx
      obtain ⟨p, rfl, rfl⟩ := stAsg_eq hx
      simp only [Bool.and_eq_true, decide_eq_true_eq] at h
      obtain ⟨⟨⟨⟨h1, h2⟩, h3⟩, h4⟩, h5⟩ := h
      have ok := h3
      unfold asg2Ok at ok
      simp only [Bool.and_eq_true, decide_eq_true_eq, Bool.not_eq_true', beq_iff_eq, List.all_cons, List.all_nil, Bool.and_true] at ok
      obtain ⟨⟨⟨⟨⟨⟨⟨o1, o2⟩, o3⟩, o4⟩, o5⟩, o6⟩, o7⟩, o8⟩ := ok
      have pa : PA X [e, e'] (tCons (tEv X.K c a) (tCons (tEv X.K c b) tNil)) := pa_cons (sE La a C h4) (pa_cons (sE La b C h5) pa_nil (starEach_cons o8.2)) (starEach_cons o8.1)
      refine psW (ps_par C.calm (by rw [C.N]; exact C.nd) (by rw [C.N]; exact h1) (by rw [C.N]; exact h2) o1 (by rw [C.sce]; exact o2) (by rw [C.sce]; exact o3) pa (twoStores C.sce hk h3)) fun D σ H q => ?_
      obtain ⟨φ, env, ρ, μ, z, en, sr, ev, q⟩ := q
      simp only [evS, Option.bind_eq_some_iff, Option.map_eq_some_iff] at ev
      obtain ⟨x1, e1, y1, e2, rfl⟩ := ev
      refine seq1 en sr e1 fun v H1 ρ1 g1 s1 r1 en1 => seq1 en1 s1 e2 fun u H2 ρ2 g2 s2 r2 en2 => ?_
      exact ⟨v, u, rfl, q _ H2 ρ2 (g1.trans g2) s2 ((en2.set i (r1.mono g2)).set j r2)⟩
    · cases h
  | .asgLc i own elt t src ifs, sc, X, C, hp, hk, s, h => by
    rw [kS] at h
    split at h
    · rename_i y py el gs bs p l hx
      obtain ⟨p0, rfl, rfl⟩ := stAsg_eq hx
      simp only [Bool.and_eq_true, decide_eq_true_eq, Bool.not_eq_true'] at h
      obtain ⟨⟨⟨⟨h1, h2⟩, h3⟩, h4⟩, h5⟩ := h
      rw [kE] at h5
      split at h5
      · rename_i el' tg it fs bs' hx'
        obtain ⟨pos, hxx⟩ := asLc_eq hx'
        cases hxx
        simp only [Bool.and_eq_true, decide_eq_true_eq] at h5
        obtain ⟨⟨⟨⟨⟨⟨⟨k1, k2⟩, k3⟩, k4⟩, k5⟩, k6⟩, k7⟩, k8⟩ := h5
        have ok : BlkOk X.N X.env.scope bs (ownP S.N own) := by
          rw [C.N, C.sce]
          exact blkOk_by k2
        have pts : ∀ (s : Shared) (H : Hp) (A : Addr) (cl : List (Str × Addr)) (fp : List Addr), L2.PTs (X.blk s H bs (compEnvC bs cl A X.env) fp) fs (tBs X.K c .And ifs) := fun s H A cl fp => by
          cases ifs with
          | nil =>
            cases fs with
            | cons => cases k7
            | nil =>
              refine ptsW pts_nil fun σ H Q q => ?_
              obtain ⟨φ, env, ρ, μ, tt, μ', en, sr, ev, q⟩ := q
              cases ev
              exact q H ρ (Ext.refl _ _) sr
          | cons b bs' =>
            cases bs' with
            | cons => simp at k7
            | nil =>
              cases fs with
              | nil => cases k7
              | cons f fs =>
                cases fs with
                | cons => simp at k7
                | nil =>
                  refine ptsW (pts_one (sB La b (C.blk (s := s) (H := H) (A := A) (cl := cl) (fp := fp)) k7)) fun σ H Q q => ?_
                  obtain ⟨φ, env, ρ, μ, tt, μ', en, sr, ev, q⟩ := q
                  simp only [evBs, Option.bind_eq_some_iff] at ev
                  obtain ⟨x1, e1, e2⟩ := ev
                  refine seqB en sr e1 fun H1 ρ1 g1 s1 _ => ?_
                  obtain ⟨b1, m1⟩ := x1
                  cases b1 <;> (cases e2; exact q H1 ρ1 g1 s1)
        refine psW (ps_setLc (i := i) (own := ownP S.N own) (g := gT X.K t) (tt := tBs X.K c .And ifs) (te := tEv X.K c elt) C.calm (by rw [C.N]; exact C.nd) (by rw [C.N]; exact h1) (by rw [C.sce]; exact h2)
          (sw_true (by rw [C.sce]; exact hk) (by rw [C.sce]; exact h2) (by simpa using h3) h4) (sSr La src (tg := tg) C k3) ok
          (fun s H A cl fp => sT (C.blk (s := s) (H := H) (A := A) (cl := cl) (fp := fp)) t k4) pts (fun s H A cl fp => sE La elt (C.blk (s := s) (H := H) (A := A) (cl := cl) (fp := fp)) k8) (noSet k6)) fun D σ H q => ?_
        rw [k1]
        refine lcRead k5 ?_
        obtain ⟨φ, env, ρ, μ, z, en, sr, ev, q⟩ := q
        rw [evS, Option.map_eq_some_iff] at ev
        obtain ⟨x1, e1, rfl⟩ := ev
        exact seq1 en sr e1 fun v H1 ρ1 g1 s1 r1 en1 => q _ H1 ρ1 g1 s1 (en1.set i r1)
      · cases h5
    · cases h
  | .asgLc2 i own own1 elt t src t1 src1, sc, X, C, hp, hk, s, h => by
    rw [kS] at h
    split at h
    · rename_i y py el gs bs p l hx
      obtain ⟨p0, rfl, rfl⟩ := stAsg_eq hx
      simp only [Bool.and_eq_true, decide_eq_true_eq, Bool.not_eq_true'] at h
      obtain ⟨⟨⟨⟨k1, k2⟩, k3⟩, k4⟩, h⟩ := h
      rw [kE] at h
      split at h
      · rename_i el' tg it tg1 it1 bs' hx'
        obtain ⟨pos, hxx⟩ := asLc2_eq hx'
        cases hxx
        simp only [Bool.and_eq_true, decide_eq_true_eq] at h
        obtain ⟨⟨⟨⟨⟨⟨⟨⟨⟨⟨⟨h1, h2⟩, h3⟩, h4⟩, h5⟩, h6⟩, h7⟩, h8⟩, h9⟩, h10⟩, h11⟩, h12⟩ := h
        have ok : BlkOk X.N X.env.scope bs (ownP S.N own) := by
          rw [C.N, C.sce]
          exact blkOk_by h2
        have hv : ∀ i ∈ own1, i ∈ (ownP S.N own).map (·.2) := fun i hi => by
          rw [h1]
          have := List.all_eq_true.mp h3 i hi
          simpa using this
        refine psW (ps_setLc2 (i := i) (own := ownP S.N own) (vs1 := own1) (wi := tSr X.K c src) (wi1 := tSr X.K c src1) (g := gT X.K t) (tt := tYes) (g1 := gT X.K t1) (tt1 := tYes) (te := tEv X.K c elt) C.calm (by rw [C.N]; exact C.nd) (by rw [C.N]; exact k1) (by rw [C.sce]; exact k2)
          (sw_true (by rw [C.sce]; exact hk) (by rw [C.sce]; exact k2) (by simpa using k3) k4) (sSr La src (tg := tg) C h4) ok hv
          (fun s H A cl fp => sT (C.blk (s := s) (H := H) (A := A) (cl := cl) (fp := fp)) t h5) (fun s H A cl fp => pts_nil)
          (fun s H A cl fp => sSr La src1 (tg := tg1) (C.blk (s := s) (H := H) (A := A) (cl := cl) (fp := fp)) h8)
          (fun s H A cl fp => sT (C.blk (s := s) (H := H) (A := A) (cl := cl) (fp := fp)) t1 h9) (fun s H A cl fp => pts_nil)
          (fun s H A cl fp => sE La elt (C.blk (s := s) (H := H) (A := A) (cl := cl) (fp := fp)) h12) (noSet h7) (fun env => noSet (env := env) h11)) fun D σ H q => ?_
        rw [h1]
        refine lc2Read h6 h10 ?_
        obtain ⟨φ, env, ρ, μ, z, en, sr, ev, q⟩ := q
        rw [evS, Option.map_eq_some_iff] at ev
        obtain ⟨x1, e1, rfl⟩ := ev
        exact seq1 en sr e1 fun v H1 ρ1 g1 s1 r1 en1 => q _ H1 ρ1 g1 s1 (en1.set i r1)
      · cases h
    · cases h
  | .set o i a, sc, X, C, hp, hk, s, h => by
    rw [kS] at h
    split at h
    · rename_i tg e l hx
      obtain ⟨p, rfl, rfl⟩ := stAsg_eq hx
      split at h
      · rename_i x y hy
        obtain ⟨p2, rfl⟩ := asSub_eq hy
        simp only [Bool.and_eq_true] at h
        obtain ⟨⟨⟨⟨h1, h2⟩, h3⟩, h4⟩, h5⟩ := h
        have ha : ∀ v, assign (.Subscript x y p2) X.env v = (do
            let ov ← holding [v] (eval x X.env)
            let iv ← holding [v, ov] (eval y X.env)
            standAt p2
            holding [v, ov, iv] (setItem ov iv v)
            release [v, ov, iv] []) := fun v => by
          cases y <;> first | rfl | (simp [nSlice] at h5)
        refine psW (ps_asg (sE La a C h3) (pg_sub (sE La o C h1) (sE La i C h2) (putR C.hu64) ha) (noSwap (t := some (.Subscript x y p2)) (l := p.line) (env := X.env) h4) noStoresSub rfl) fun D σ H q => ?_
        obtain ⟨φ, env, ρ, μ, z, en, sr, ev, q⟩ := q
        simp only [evS, Option.bind_eq_some_iff, Option.map_eq_some_iff] at ev
        obtain ⟨x1, e1, x2, e2, x3, e3, m, e4, rfl⟩ := ev
        refine seq1 en sr e1 fun v H1 ρ1 g1 s1 r1 en1 => seq1 en1 s1 e2 fun u H2 ρ2 g2 s2 r2 en2 => seq1 en2 s2 e3 fun w H3 ρ3 g3 s3 r3 en3 => ?_
        refine ⟨φ, ρ3, _, _, _, _, m, s3, r2.mono g3, r3, r1.mono (g2.trans g3), e4, fun H4 g4 s4 => q σ H4 ρ3 ((g1.trans (g2.trans g3)).trans g4) s4 (en3.mono g4)⟩
      · cases h
    · cases h
  | .aug i op a, sc, X, C, hp, hk, s, h => by
    rw [kS] at h
    split at h
    · rename_i tg o e hx
      obtain ⟨p, rfl⟩ := stAug_eq hx
      split at h
      · rename_i x hy
        obtain ⟨p2, rfl⟩ := asName_eq hy
        simp only [Bool.and_eq_true, decide_eq_true_eq] at h
        obtain ⟨⟨⟨⟨h1, h2⟩, rfl⟩, h4⟩, h5⟩ := h
        obtain ⟨l1, l2⟩ := C.st x h2
        rcases h4 with rfl | rfl
        · refine psW (ps_aug (i := i) (by rw [C.N]; exact C.nd) (by rw [C.N]; exact h1) (by rw [C.sce]; exact l1) (sE La a C h5) ip_add (by rw [C.sce]; exact l2)) fun D σ H q => ?_
          obtain ⟨φ, env, ρ, μ, z, en, sr, ev, q⟩ := q
          rw [evS] at ev
          split at ev
          · rename_i p' hi
            rw [Option.bind_eq_some_iff] at ev
            obtain ⟨x1, e1, e2⟩ := ev
            obtain ⟨v0, v1, v2⟩ := en.at' i _ hi
            rw [v2.toInt] at v1
            refine ⟨_, v1, seq1 en sr e1 fun v H1 ρ1 g1 s1 r1 en1 => ?_⟩
            split at e2
            · rename_i q' _ hq'
              cases e2
              rw [hq'] at r1
              exact ⟨_, _, rfl, r1.toInt, q _ H1 ρ1 g1 s1 (en1.set i (.int _))⟩
            · rename_i q' hop _; cases hop
            · cases e2
          · cases ev
        · refine psW (ps_aug (i := i) (by rw [C.N]; exact C.nd) (by rw [C.N]; exact h1) (by rw [C.sce]; exact l1) (sE La a C h5) ip_sub (by rw [C.sce]; exact l2)) fun D σ H q => ?_
          obtain ⟨φ, env, ρ, μ, z, en, sr, ev, q⟩ := q
          rw [evS] at ev
          split at ev
          · rename_i p' hi
            rw [Option.bind_eq_some_iff] at ev
            obtain ⟨x1, e1, e2⟩ := ev
            obtain ⟨v0, v1, v2⟩ := en.at' i _ hi
            rw [v2.toInt] at v1
            refine ⟨_, v1, seq1 en sr e1 fun v H1 ρ1 g1 s1 r1 en1 => ?_⟩
            split at e2
            · rename_i q' hop _; cases hop
            · rename_i q' _ hq'
              cases e2
              rw [hq'] at r1
              exact ⟨_, _, rfl, r1.toInt, q _ H1 ρ1 g1 s1 (en1.set i (.int _))⟩
            · cases e2
          · cases ev
      · cases h
    · cases h
  | .augI o i op a, sc, X, C, hp, hk, s, h => by
    rw [kS] at h
    split at h
    · rename_i tg o' e hx
      obtain ⟨p, rfl⟩ := stAug_eq hx
      split at h
      · rename_i x y hy
        obtain ⟨p2, rfl⟩ := asSub_eq hy
        simp only [Bool.and_eq_true, decide_eq_true_eq] at h
        obtain ⟨⟨⟨⟨h1, h2⟩, rfl⟩, h4⟩, h5⟩ := h
        by_cases hop : o' = .Add
        · subst hop
          have ha : ∀ ov iv new, augStore y ov iv new = (do holding [new, ov, iv] (setItem ov iv new); release [new, ov, iv] []; pure .next) := fun _ _ _ => by
            cases y <;> first | rfl | (simp [nSlice] at h5)
          refine psW (ps_augS (sE La o C h1) (sE La i C h2) (getR C.hu64) (sE La a C h4) ip_add (putR C.hu64) ha) fun D σ H q => ?_
          obtain ⟨φ, env, ρ, μ, z, en, sr, ev, q⟩ := q
          simp only [evS, Option.bind_eq_some_iff] at ev
          obtain ⟨x1, e1, x2, e2, x3, e3, x4, e4, e5⟩ := ev
          split at e5
          · rename_i p' q' hp' hq'
            rw [Option.map_eq_some_iff] at e5
            obtain ⟨m, e5, rfl⟩ := e5
            refine seq1 en sr e1 fun v H1 ρ1 g1 s1 r1 en1 => seq1 en1 s1 e2 fun u H2 ρ2 g2 s2 r2 en2 => ?_
            have hr : ∃ n, x1.1 = .ref n := by
              rcases hx1 : x1.1 with _ | _ | _ | _ | _ | _ | _ | n
              case ref => exact ⟨n, rfl⟩
              all_goals (rw [hx1] at e5; simp [setD] at e5)
            obtain ⟨n, hn⟩ := hr
            refine ⟨φ, ρ2, _, n, _, _, s2, hn ▸ r1.mono g2, r2, hn ▸ e3, fun v3 r3 => seq1 en2 s2 e4 fun w H4 ρ4 g4 s4 r4 en4 => ?_⟩
            rw [hq'] at r4
            refine ⟨p', q', r3.toInt, r4.toInt, φ, ρ4, _, _, _, .int (p' + q'), m, s4, r1.mono (g2.trans g4), r2.mono g4, .int _, e5, fun H5 g5 s5 => q σ H5 ρ4 ((g1.trans (g2.trans g4)).trans g5) s5 (en4.mono g5)⟩
          · cases e5
        · refine psW ps_never fun D σ H q => ?_
          obtain ⟨φ, env, ρ, μ, z, en, sr, ev, q⟩ := q
          simp only [evS, Option.bind_eq_some_iff] at ev
          obtain ⟨x1, e1, x2, e2, x3, e3, x4, e4, e5⟩ := ev
          split at e5
          · exact absurd rfl hop
          · cases e5
      · cases h
    · cases h
  | .ret a, sc, X, C, hp, hk, s, h => by
    rw [kS] at h
    split at h
    · rename_i e hx
      obtain ⟨p, rfl⟩ := stRet_eq hx
      refine psW (ps_ret (sE La a C h)) fun D σ H q => ?_
      obtain ⟨φ, env, ρ, μ, z, en, sr, ev, q⟩ := q
      rw [evS, Option.map_eq_some_iff] at ev
      obtain ⟨x1, e1, rfl⟩ := ev
      exact seq1 en sr e1 fun v H1 ρ1 g1 s1 r1 en1 => q σ H1 ρ1 g1 s1 en1 v r1
    · cases h
  | .retN, sc, X, C, hp, hk, s, h => by
    rw [kS] at h
    split at h
    · rename_i hx
      obtain ⟨p, rfl⟩ := stRet_eq hx
      refine psW ps_retN fun D σ H q => ?_
      obtain ⟨φ, env, ρ, μ, z, en, sr, ev, q⟩ := q
      cases ev
      exact q σ H ρ (Ext.refl _ _) sr en .non .non
    · cases h
  | .ife b x y, sc, X, C, hp, hk, s, h => by
    rw [kS] at h
    split at h
    · rename_i e y' z' hx
      obtain ⟨p, rfl⟩ := stIf_eq hx
      simp only [Bool.and_eq_true] at h
      refine psW (ps_if (sB La b C h.1.1) (sSs La x C hp hk h.1.2) (sSs La y C hp hk h.2)) fun D σ H q => ?_
      obtain ⟨φ, env, ρ, μ, z, en, sr, ev, q⟩ := q
      rw [evS, Option.bind_eq_some_iff] at ev
      obtain ⟨x1, e1, e2⟩ := ev
      refine seqB en sr e1 fun H1 ρ1 g1 s1 en1 => ?_
      cases hb : x1.1 with
      | true =>
        rw [if_pos rfl]
        rw [hb, if_pos rfl] at e2
        exact ⟨φ, env, ρ1, _, z, en1, s1, e2, fun σ' H' ρ' g2 => q σ' H' ρ' (g1.trans g2)⟩
      | false =>
        rw [if_neg (by decide)]
        rw [hb, if_neg (by decide)] at e2
        exact ⟨φ, env, ρ1, _, z, en1, s1, e2, fun σ' H' ρ' g2 => q σ' H' ρ' (g1.trans g2)⟩
    · cases h
  | .for_ t src b, sc, X, C, hp, hk, s, h => by
    rw [kS] at h
    split at h
    · rename_i tg it body hx
      obtain ⟨p, rfl⟩ := stFor_eq hx
      simp only [Bool.and_eq_true] at h
      obtain ⟨⟨⟨h1, h2⟩, h3⟩, h4⟩ := h
      refine psW (ps_for hp C.calm (sSr La src C h1) (sT C t h2) (sSs La b C hp hk h4) (noSet h3)) fun D σ H q => ?_
      obtain ⟨φ, env, ρ, μ, z, en, sr, ev, q⟩ := q
      rw [evS, Option.bind_eq_some_iff] at ev
      obtain ⟨⟨items, g, μ1⟩, e1, e2⟩ := ev
      refine ⟨φ, env, ρ, μ, items, g, μ1, en, sr, e1, fun J G Y ρ' H' x1 s1 hz W hG hY => ?_⟩
      refine for_it W (fun i σ2 H2 => ∃ ρ2 μ2 env2, Ext ρ' H' ρ2 H2 ∧ Sr ⟨X.K, φ⟩ H2 ρ2 μ2 ∧ EnR ⟨X.K, φ⟩ H2 ρ2 σ2 env2 ∧ forLoop g t (fun e m => evSs c b e m) (items.drop i) env2 μ2 = some z) ?_ ?_ ?_ ?_
      · exact ⟨ρ', μ1, env, Ext.refl _ _, s1, en.mono x1, by simpa using e2⟩
      · rintro i σ2 H2 hi ⟨ρ2, μ2, env2, x2, k1, k2, k3⟩
        exact hG φ H2 ρ2 μ2 (x2.toH φ) k1 (forLoop_ok k3)
      · rintro i x σ2 H2 H3 hi ⟨ρ2, μ2, env2, x2, k1, k2, k3⟩ y
        have hok := forLoop_ok k3
        obtain ⟨di, d1, d2, d3, d4⟩ := hY φ i H2 ρ2 μ2 x H3 hi (x2.toH φ) k1 (fun v d r => r.mono x2) hok y
        rw [List.drop_eq_getElem_cons hi] at k3
        have di' : items[i] = di := by
          rw [List.getElem?_eq_getElem hi] at d1
          exact Option.some.inj d1
        rw [di', forLoop, if_pos hok, Option.bind_eq_some_iff] at k3
        obtain ⟨env3, f1, f2⟩ := k3
        rw [Option.bind_eq_some_iff] at f2
        obtain ⟨q1, f2, f3⟩ := f2
        refine ⟨φ, env2, ρ2, μ2, di, env3, k2.mono d2, d3, d4, f1, fun σ3 en3 _ => ?_⟩
        refine ⟨φ, env3, ρ2, μ2, q1, en3, d3, f2, fun σ4 H4 ρ4 x4 s4 en4 => ?_⟩
        obtain ⟨fl, env4, μ4⟩ := q1
        cases fl with
        | nx => exact ⟨ρ4, μ4, env4, (x2.trans d2).trans x4, s4, en4, f3⟩
        | ct => exact ⟨ρ4, μ4, env4, (x2.trans d2).trans x4, s4, en4, f3⟩
        | bk =>
          cases f3
          exact q σ4 H4 ρ4 (((x1.trans x2).trans d2).trans x4) s4 en4
        | rt d =>
          cases f3
          exact fun v r => q σ4 H4 ρ4 (((x1.trans x2).trans d2).trans x4) s4 en4 v r
      · rintro σ2 H2 ⟨ρ2, μ2, env2, x2, k1, k2, k3⟩
        have hok := forLoop_ok k3
        rw [List.drop_length, forLoop, if_pos hok] at k3
        cases k3
        exact q σ2 H2 ρ2 (x1.trans x2) k1 k2
    · cases h
  | .brk, sc, X, C, hp, hk, s, h => by
    cases s
    case Break p =>
      refine psW ps_break fun D σ H q => ?_
      obtain ⟨φ, env, ρ, μ, z, en, sr, ev, q⟩ := q
      cases ev
      exact q σ H ρ (Ext.refl _ _) sr en
    all_goals (simp [kS] at h)
  | .cnt, sc, X, C, hp, hk, s, h => by
    cases s
    case Continue p =>
      refine psW ps_continue fun D σ H q => ?_
      obtain ⟨φ, env, ρ, μ, z, en, sr, ev, q⟩ := q
      cases ev
      exact q σ H ρ (Ext.refl _ _) sr en
    all_goals (simp [kS] at h)
  | .pass, sc, X, C, hp, hk, s, h => by
    cases s
    case Pass p =>
      refine psW ps_pass fun D σ H q => ?_
      obtain ⟨φ, env, ρ, μ, z, en, sr, ev, q⟩ := q
      cases ev
      exact q σ H ρ (Ext.refl _ _) sr en
    all_goals (simp [kS] at h)
  | .nev, sc, X, C, hp, hk, s, h => by
    refine psW ps_never fun D σ H q => ?_
    obtain ⟨φ, env, ρ, μ, z, en, sr, ev, q⟩ := q
    cases ev
theorem sSs (La : Later S c) : ∀ (a : ASs) {sc : Scope} {X : Cx} (C : Cok S c sc sc X) (hp : PassesOwn (model X.prog X.w) X.A X.env X.xe) (hk : sc.kind = .function) {s : List Stmt}, kSs S sc a s = true → L2.PSs X s (tSs X.K c a)
  | .nil, sc, X, C, hp, hk, s, h => by
    cases s with
    | cons => cases h
    | nil =>
      refine pssW pss_nil fun D σ H q => ?_
      obtain ⟨φ, env, ρ, μ, z, en, sr, ev, q⟩ := q
      cases ev
      exact q σ H ρ (Ext.refl _ _) sr en
  | .cons a r, sc, X, C, hp, hk, s, h => by
    cases s with
    | nil => cases h
    | cons s l =>
      rw [kSs, Bool.and_eq_true] at h
      refine pssW (pss_cons (sS La a C hp hk h.1) (sSs La r C hp hk h.2)) fun D σ H q => ?_
      obtain ⟨φ, env, ρ, μ, z, en, sr, ev, q⟩ := q
      rw [evSs, Option.bind_eq_some_iff] at ev
      obtain ⟨⟨fl, env1, μ1⟩, e1, e2⟩ := ev
      refine ⟨φ, env, ρ, μ, _, en, sr, e1, fun σ1 H1 ρ1 g1 s1 en1 => ?_⟩
      cases fl with
      | nx => exact ⟨φ, env1, ρ1, μ1, z, en1, s1, e2, fun σ' H' ρ' g2 => q σ' H' ρ' (g1.trans g2)⟩
      | ct => cases e2; exact q σ1 H1 ρ1 g1 s1 en1
      | bk => cases e2; exact q σ1 H1 ρ1 g1 s1 en1
      | rt d => cases e2; exact q σ1 H1 ρ1 g1 s1 en1
end
end
end Pl

namespace Pl
open PySem PySem.Spec PyProof.Rows L2

def Stt.at (S : Stt) (N : List Str) : Stt := ⟨N, S.fns, S.gi, S.gt⟩
def okScope (N ps : List Str) (sc : Scope) : Bool :=
  decide (sc.kind = .function) && !sc.isCoroutine && !sc.isGenerator && decide N.Nodup && decide (N.take ps.length = ps) &&
    ps.all (fun x => decide (sc.names.lookup x = some .local) || decide (sc.names.lookup x = some .cell)) && sc.names.all fun y => decide (y.2 ≠ .free)
theorem okScope_eq {N ps : List Str} {sc : Scope} (h : okScope N ps sc = true) : FnScope N ps sc := by
  unfold okScope at h
  simp only [Bool.and_eq_true, decide_eq_true_eq, Bool.not_eq_true', List.all_eq_true, Bool.or_eq_true] at h
  obtain ⟨⟨⟨⟨⟨⟨h1, h2⟩, h3⟩, h4⟩, h5⟩, h6⟩, h7⟩ := h
  exact ⟨h1, h2, h3, h4, h5, h6, h7⟩
/-- a def of the text has the form d -/
structure Dfd (S : Stt) (K : PySem.W.Frag) (mg : Str → Option Value) (x : Str) (d : PDef) : Prop where
  ex : ∃ (qual : Str) (st : Stmt) (fa : Addr) (fd : FuncData) (N ps : List Str), Fun K x qual st fa fd ∧ FnScope N ps (defScope st) ∧ Binds K fd ps [] ∧ mg x = some (.ref fa) ∧
    ps.length = d.ar ∧ N.length = d.nl ∧ kSs (S.at N) (defScope st) d.body (defBody st) = true
structure Txt (S : Stt) (P : List PDef) (w : World) (K : PySem.W.Frag) (mg : Str → Option Value) : Prop where
  bn : ∀ x ∈ bltNames, mg x = none
  gi : ∀ x n, S.gi.lookup x = some n → ∃ t, mg x = some (.int n t)
  gt : ∀ x ents, S.gt.lookup x = some ents → ∃ (d : Addr) (es : Array DictEntry) (n : Nat), mg x = some (.ref d) ∧ KDict K w d es n ∧ ∀ (z : Str) (r : Option Nat), lookE ents z = some r → match r with
    | none => PySem.W.nsIn K d z = some none
    | some f => ∃ y fa, S.fns[f]? = some y ∧ mg y = some (.ref fa) ∧ PySem.W.nsIn K d z = some (some (.ref fa))
  dfs : ∀ (f : Nat) (x : Str), S.fns[f]? = some x → ∃ d, P[f]? = some d ∧ Dfd S K mg x d
theorem start_at {N : List Str} {vs : List V} {ds : List D} {K : Kp} {H : Hp} {ρ : List Addr} (h : RpL K H ρ vs ds) (hl : vs.length ≤ N.length) : EnR K H ρ (L2.start N vs) (start ds N.length) := by
  have hv := h.length
  refine ⟨by simp [L2.start, start]; omega, fun i d x => ?_⟩
  have hi : i < ds.length := by
    by_cases q : i < ds.length
    · exact q
    · exfalso
      unfold start at x
      rw [List.getElem?_append_right (by simpa using q)] at x
      have := List.mem_of_getElem? x
      rw [List.mem_replicate] at this
      cases this.2
  unfold start at x
  rw [List.getElem?_append_left (by simpa using hi), List.getElem?_map] at x
  cases hd : ds[i]? with
  | none => rw [hd] at x; cases x
  | some d' =>
    rw [hd] at x
    cases x
    have hi2 : i < vs.length := by omega
    obtain ⟨d2, e1, e2⟩ := h.of_get (List.getElem?_eq_getElem hi2)
    rw [hd] at e1
    cases e1
    refine ⟨vs[i], ?_, e2⟩
    unfold L2.start
    rw [List.getElem?_append_left (by simpa using hi2), List.getElem?_map, List.getElem?_eq_getElem hi2]
    rfl
theorem callF_ar {P : List PDef} {n f : Nat} {ds : List D} {μ : Mu} {z : D × Mu} (h : callF P n f ds μ = some z) : ∃ d, P[f]? = some d ∧ ds.length = d.ar := by
  cases n with
  | zero => cases h
  | succ n =>
    rw [callF] at h
    split at h
    · rename_i d hd
      split at h
      · exact ⟨d, hd, by assumption⟩
      · cases h
    · cases h
section
variable {S : Stt} {P : List PDef} {Pg : Program} {w : World} {K : PySem.W.Frag} {mg : Str → Option Value} {base : Heap}
theorem allF (T : Txt S P w K mg) (La : ∀ n N, Later (S.at N) (callF P n)) : ∀ (n f : Nat) (x : Str) (d : PDef), S.fns[f]? = some x → P[f]? = some d →
    ∀ (qual : Str) (st : Stmt) (fa : Addr) (fd : FuncData) (N ps : List Str), Fun K x qual st fa fd → FnScope N ps (defScope st) → ps.length = d.ar → N.length = d.nl → kSs (S.at N) (defScope st) d.body (defBody st) = true →
      FnG Pg w K mg base n fa fd ps (spF K (callF P n) f ps.length) := by
  intro n
  induction n with
  | zero =>
    intro f x d hx hd qual st fa fd N ps F Sc ar nl ks
    refine ⟨fun vs H Q h => ?_, fun A outer s H args us vs Q _ _ _ _ _ h => ?_⟩
    · obtain ⟨_, _, _, _, _, _, h, _⟩ := h; exact h
    · obtain ⟨_, _, _, _, _, _, _, _, _, h, _⟩ := h; cases h
  | succ n ih =>
    intro f x d hx hd qual st fa fd N ps F Sc ar nl ks
    have hpl : ps.length ≤ N.length := by have := congrArg List.length Sc.pre; rw [List.length_take] at this; omega
    refine fnG_of F Sc (fun vs H Q h => by obtain ⟨_, _, _, _, _, _, h, _⟩ := h; exact h) fun cdv A outer s H vs Q hg hr hsp => ?_
    let X : Cx := (cxOf CX0 Pg w K mg base N qual (defScope st) fa cdv A outer s H E0).nox
    have C : Cok (S.at N) (callF P n) (defScope st) (defScope st) X :=
      { N := rfl, nd := Sc.nd, sce := rfl, st := fun y hy => by
          unfold locB at hy
          split at hy
          · exact ⟨.inl (by assumption), .inl rfl⟩
          · exact ⟨.inr (by assumption), .inl rfl⟩
          · cases hy
        calm := rfl
        hu := by have := hr.un; show (A.deeper _).units + 200 < cLine; omega
        gd := hg
        bn := T.bn
        gi := T.gi
        fn := fun g y hy => by
          obtain ⟨d', hd', D⟩ := T.dfs g y hy
          obtain ⟨qual', st', fa', fd', N', ps', F', Sc', B', hm', ar', nl', ks'⟩ := D.ex
          refine ⟨fa', fd', ps', n, hm', F'.kp, B', hr, ih g y d' hy hd' qual' st' fa' fd' N' ps' F' Sc' ar' nl' ks', fun ds μ z h => ?_⟩
          obtain ⟨d2, e1, e2⟩ := callF_ar h
          rw [hd'] at e1
          cases e1
          rw [e2, ar']
        gt := T.gt }
    refine ⟨_, sSs (La n N) d.body C PassesOwn.never Sc.kind ks, ?_⟩
    obtain ⟨φ, ρ, μ, ds, d', μ', hl, sr, rs, hc, q⟩ := hsp
    rw [callF] at hc
    simp only [hd] at hc
    have hal : ds.length = d.ar := by rw [← ar, ← hl, rs.length]
    rw [if_pos hal, Option.bind_eq_some_iff] at hc
    obtain ⟨⟨fl, env', μ2⟩, e1, e2⟩ := hc
    refine ⟨φ, start ds N.length, ρ, μ, (fl, env', μ2), start_at rs (by omega), sr, by rw [nl]; exact e1, fun σ' H' ρ' x1 s1 en1 => ?_⟩
    cases fl with
    | nx => cases e2; exact q .non H' ρ' x1 s1 .non
    | rt v => cases e2; exact fun u r => q u H' ρ' x1 s1 r
    | bk => cases e2
    | ct => cases e2
end
end Pl

namespace Pl
open PySem PySem.Spec PyProof.Rows L2

def Told (s₁ : Shared) : (Except Value Flow) → Shared → Prop := fun r s' => r = .ok (.ret (.bool true)) ∧ OldK s₁.heap s'.heap ∧ s'.os = s₁.os ∧ AllBare s'.gens
section
variable {Pg : Program} {w : World} {K : PySem.W.Frag} {mg mb : Str → Option Value} {k : Nat} {fa a : Addr} {fd : FuncData} {x : Str} {sp : List V → Hp → VK → Prop} {s₁ : Shared} {vs : List Value} {ns : List Int}
/-- from a heap with at most the script in it -/
theorem beginG (kin : K.In s₁.heap) (nsg : s₁.heap.Ns mainGlobals mg) (nsb : s₁.heap.Ns builtinsNs mb) (blt : ∀ x : Str, x ≠ "__name__" → mb x = bootBuiltins x) (lim : s₁.heap.NoLimit) (gens : s₁.gens = #[])
    (obj : s₁.heap.get? a = some { cls := .type "list", data := .seq vs.toArray }) (room : Room k callerA)
    (F : ∀ base : Heap, K.In base → base.Ns mainGlobals mg → FnG Pg w K mg base k fa fd [x] sp) (bind : BindsTo s₁ fd ⟨[.ref a], []⟩ [(x, .ref a)])
    (H : Hp) (only : Only H) (good : HOk Pg w H s₁.heap) (just : ∀ b, H b ≠ none → b = a) (mine : H a ≠ none → K.lookup a = none) (said : sp [.ref a] H fun v _ => v = .bl true) :
    codeAny (model Pg w) callerA (.call (.ref fa) ⟨[.ref a], []⟩) (Told s₁) s₁ := by
  have here : ∀ {b : Addr} {o : Obj}, s₁.heap.get? b = some o → b ≠ a → (hidT s₁.heap H).get? b = some o := fun {b o} e n => hidT_get e (by
    cases q : H b with
    | none => rfl
    | some u => exact absurd (just b (by simp [q])) n)
  have dict : ∀ {b : Addr} {m : Str → Option Value}, s₁.heap.Ns b m → (hidT s₁.heap H).Ns b m := fun {b m} ⟨o, es, ep, e, d, r⟩ => by
    refine ⟨o, es, ep, here e fun z => ?_, d, r⟩
    rw [z, obj] at e
    cases e
    cases (show Data.seq vs.toArray _ = Data.dict es ep from d)
  have kin' : K.In (hidT s₁.heap H) := fun b o e => by
    cases q : H b with
    | none => exact hidT_get (kin b o e) q
    | some u =>
      have z := just b (by simp [q])
      rw [z] at q e
      rw [mine (by simp [q])] at e
      cases e
  have md : Mod K mg (hidT s₁.heap H) := by
    obtain ⟨mc, l1, l2⟩ := lim
    exact ⟨kin', dict nsg, ⟨mb, dict nsb, blt⟩, ⟨mc, dict l1, l2⟩⟩
  have env : Env0 Pg w K mg (hidT s₁.heap H) callerA [] s₁ H :=
    ⟨rfl, md, fun _ _ e => of_hidT e, Nat.le_of_eq (hidT_size _ _), trivial, fun b hb => absurd (show b ∈ ([] : List Addr) from hb) (by simp), good, .of_eq gens⟩
  have run := (F _ kin' (dict nsg)).run callerA [] s₁ H ⟨[.ref a], []⟩ [.ref a] [.ref a] _ rfl room env bind (.cons rfl .nil) said
  refine codeAny_mono run fun r s' h => ?_
  rcases r with e | fl
  · exact False.elim h
  · cases fl
    case ret u =>
      obtain ⟨v, H', os, bare, un, good', rv, q⟩ := h
      subst q
      obtain rfl : u = Value.bool true := rv
      refine ⟨rfl, OldK.of_keep fun b o e => ?_, os, bare⟩
      rcases hq : H b with _ | u
      · exact un.keep b o e hq (fun z => absurd (show b ∈ ([] : List Addr) from z) (by simp)) (by simp)
      · rcases only b with z | ⟨ob, ys, z⟩
        · rw [hq] at z; cases z
        · obtain ⟨o1, _⟩ := good b _ z
          obtain ⟨o2, _⟩ := good' b _ (un.frzs b ob _ z)
          rw [e] at o1
          cases o1
          exact o2
    all_goals exact False.elim h
/-- the law's call -/
theorem lawG (kin : K.In s₁.heap) (nsg : s₁.heap.Ns mainGlobals mg) (nsb : s₁.heap.Ns builtinsNs mb) (blt : ∀ x : Str, x ≠ "__name__" → mb x = bootBuiltins x) (lim : s₁.heap.NoLimit) (gens : s₁.gens = #[])
    (obj : s₁.heap.get? a = some { cls := .type "list", data := .seq vs.toArray }) (iar : IntsAre vs ns) (len : ns.length ≤ sizeLine) (room : Room k callerA)
    (F : ∀ base : Heap, K.In base → base.Ns mainGlobals mg → FnG Pg w K mg base k fa fd [x] sp) (bind : BindsTo s₁ fd ⟨[.ref a], []⟩ [(x, .ref a)])
    (said : ∀ H : Hp, (SqL K (fun _ => none) a (ns.map V.int) ∨ ∃ o, H a = some (.frz o (.lst (ns.map V.int)))) → sp [.ref a] H fun v _ => v = .bl true) :
    codeAny (model Pg w) callerA (.call (.ref fa) ⟨[.ref a], []⟩) (Told s₁) s₁ := by
  have rv := vals_ints iar
  have lv := iar.length
  by_cases hk : K.lookup a = none
  · let H0 : Hp := fun b => if b = a then some (.frz { cls := .type "list", data := .seq vs.toArray } (.lst (ns.map V.int))) else none
    have at0 : H0 a = some (.frz { cls := .type "list", data := .seq vs.toArray } (.lst (ns.map V.int))) := if_pos rfl
    have off0 : ∀ {b : Addr}, b ≠ a → H0 b = none := fun h => if_neg h
    refine beginG kin nsg nsb blt lim gens obj room F bind H0 (fun b => ?_) (fun b u z => ?_) (fun b z => ?_) (fun _ => hk) (said H0 (.inr ⟨_, at0⟩))
    · by_cases e : b = a
      · rw [e]; exact .inr ⟨_, _, at0⟩
      · exact .inl (off0 e)
    · by_cases e : b = a
      · rw [e] at z ⊢
        rw [at0] at z
        cases z
        exact ⟨obj, by rw [List.length_map]; exact len, vs, _, rv, obj⟩
      · rw [off0 e] at z; cases z
    · by_cases e : b = a
      · exact e
      · exact absurd (off0 e) z
  · obtain ⟨o, ho⟩ := Option.ne_none_iff_exists'.mp hk
    have e := kin a o ho
    rw [obj] at e
    cases e
    refine beginG kin nsg nsb blt lim gens obj room F bind (fun _ => none) (fun _ => .inl rfl) (fun b u z => by cases (show (none : Option HO) = some u from z)) (fun b z => absurd rfl z) (fun z => absurd rfl z) (said _ (.inl ?_))
    exact .inr ⟨_, vs.toArray, _, ho, rfl, rfl, rfl, by rw [List.size_toArray, lv]; exact len, by simpa using rv⟩
end
/-- the law: its def, called at the script, gives True -/
theorem spLaw {P : List PDef} {K : PySem.W.Frag} {k f : Nat} {a : Addr} {ns : List Int} {μ : Mu} (len : ns.length ≤ sizeLine) (h : callF P k f [.frz (ns.map .int)] [] = some (.bl true, μ)) (H : Hp)
    (hs : SqL K (fun _ => none) a (ns.map V.int) ∨ ∃ o, H a = some (.frz o (.lst (ns.map V.int)))) : spF K (callF P k) f 1 [.ref a] H fun v _ => v = .bl true := by
  have rl : ∀ (ns : List Int), RpL ⟨K, []⟩ H [] (ns.map V.int) (ns.map D.int) := fun ns => by
    induction ns with
    | nil => exact .nil
    | cons n ns ih => exact .cons (.int n) ih
  refine ⟨[], [], [], [.frz (ns.map .int)], .bl true, μ, rfl, ⟨List.nodup_nil, rfl, fun n a o h => by simp at h, fun a h => by simp at h⟩, .cons (.frz ?_ (by rw [List.length_map]; exact len) (rl ns)) .nil, h, fun v H' ρ' x s r => ?_⟩
  · rcases hs with z | ⟨o, z⟩
    · exact .inl z
    · exact .inr ⟨o, z, by simp, by simp⟩
  · cases r; rfl
theorem lawOf {S : Stt} {P : List PDef} {Pg : Program} {w : World} {K : PySem.W.Frag} {mg mb : Str → Option Value} {k f : Nat} {fa a : Addr} {x : Str} {s₁ : Shared} {vs : List Value} {ns : List Int} (hr : Room k callerA) (La : ∀ n N, Later (S.at N) (callF P n))
    (kin : K.In s₁.heap) (T : Txt S P w K mg) (nsg : s₁.heap.Ns mainGlobals mg) (nsb : s₁.heap.Ns builtinsNs mb) (blt : ∀ x : Str, x ≠ "__name__" → mb x = bootBuiltins x) (lim : s₁.heap.NoLimit) (gens : s₁.gens = #[])
    (obj : s₁.heap.get? a = some { cls := .type "list", data := .seq vs.toArray }) (iar : IntsAre vs ns) (len : ns.length ≤ sizeLine) (hf : S.fns[f]? = some x) (hmg : mg x = some (.ref fa))
    (plain : ∃ μ, callF P k f [.frz (ns.map .int)] [] = some (.bl true, μ)) : codeAny (model Pg w) callerA (.call (.ref fa) ⟨[.ref a], []⟩) (Told s₁) s₁ := by
  obtain ⟨μ, hp⟩ := plain
  obtain ⟨dd, hd1, D⟩ := T.dfs f _ hf
  obtain ⟨qual, st, fa', fd, N, ps, F, Sc, B, hm, ar, nl, ks⟩ := D.ex
  rw [hmg] at hm
  cases hm
  obtain ⟨_, e1, e2⟩ := callF_ar hp
  rw [hd1] at e1
  cases e1
  obtain ⟨p1, rfl⟩ : ∃ p1, ps = [p1] := by
    cases ps with
    | nil => rw [← e2] at ar; simp at ar
    | cons p1 r =>
      cases r with
      | nil => exact ⟨p1, rfl⟩
      | cons => rw [← e2] at ar; simp at ar
  refine lawG kin nsg nsb blt lim gens obj iar len hr (fun base _ _ => allF (Pg := Pg) (base := base) T La k f _ _ hf hd1 qual st fa fd N [p1] F Sc ar nl ks) ?_ fun H hs => spLaw len hp H hs
  simpa using B s₁ [.ref a] kin rfl
end Pl

namespace Pl
open PySem PySem.Spec PySem.W PySem.Calls PyProof.V PyProof.Rows L2

/-- v is a pair: the text y, something at b -/
def PairS (h : Heap) (v : Value) (y : Str) : Prop := ∃ (a b : Addr) (t : Tok), v = .ref a ∧ IsTup h a #[.str y t, .ref b]
def fstTx (h : Heap) (v : Value) : Str := DT.txOf (DT.seqAt0 h (DT.refOf (some v)))
theorem PairS.tx {h : Heap} {v : Value} {y : Str} (x : PairS h v y) : fstTx h v = y := by
  obtain ⟨a, b, t, rfl, h1⟩ := x
  show DT.txOf (DT.seqAt0 h a) = y
  rw [DT.seqAt0_of h1]
  rfl
section
variable {prog : Program} {w : World} {A : Around} {E : Value → Shared → Prop} {s : Shared}
theorem katS {h : Heap} : ∀ vs : List Value, (∀ v ∈ vs, ∃ y, PairS h v y) → ∃ fs : List Value, KatTups h vs fs ∧ fs.length = vs.length ∧ ∀ f ∈ fs, ∃ x t, f = Value.str x t
  | [], _ => ⟨[], trivial, rfl, fun f hf => by simp at hf⟩
  | v :: vs, x => by
    obtain ⟨fs, k, hl, hi⟩ := katS vs fun u hu => x u (List.mem_cons_of_mem _ hu)
    obtain ⟨y, a, b, t, rfl, o, ho, hc, n, hd⟩ := x v List.mem_cons_self
    refine ⟨.str y t :: fs, .cons ho hc hd rfl k, by simp [hl], fun f hf => ?_⟩
    rcases List.mem_cons.mp hf with z | z
    · exact ⟨y, t, z⟩
    · exact hi f z
theorem eqSame {b : Addr} {Q : Bool → Shared → Prop} (h : Q true s) : wpAny (model prog w) A (eqBool (.ref b) (.ref b)) Q E s := by
  unfold eqBool
  refine wpAny_holding ?_
  have e : (Value.ref b == Value.ref b) = true := by simp
  rw [if_pos e]
  exact wpAny_bind (wpAny_rule (wpAny_pure h))
/-- the sort's questions at pairs with different texts -/
theorem kindS {vs : List Value} {rk : Str → Int} (h2 : 2 ≤ vs.length) (x : ∀ v ∈ vs, ∃ y, PairS s.heap v y)
    (one : ∀ v ∈ vs, ∀ u ∈ vs, fstTx s.heap v = fstTx s.heap u → v = u)
    (hr : ∀ v ∈ vs, ∀ u ∈ vs, decide ((fstTx s.heap v).cps.toList < (fstTx s.heap u).cps.toList) = decide (rk (fstTx s.heap v) < rk (fstTx s.heap u))) (Q : SortKind → Shared → Prop)
    (h : ∀ κ, TS.Cmp prog w A s κ (pairsOf vs) (fun v => rk (fstTx s.heap v)) → Q κ s) : wpAny (model prog w) A (keyKind' vs.toArray) Q E s := by
  obtain ⟨fs, k, hl, hi⟩ := katS vs x
  refine kat_kind (T := Value.type "str") k (by omega) (fun f hf => ?_) rfl (h _ ?_)
  · obtain ⟨x, t, rfl⟩ := hi f hf
    exact .now
  · intro p q hp hq Q' E' hQ
    rw [pairsOf_toList] at hp hq
    have mp := (mem_zip_self hp).2
    have mq := (mem_zip_self hq).2
    have ru := hr _ mp _ mq
    have same := one _ mp _ mq
    obtain ⟨y, py⟩ := x _ mp
    obtain ⟨z, pz⟩ := x _ mq
    rw [py.tx, pz.tx] at ru same
    have fin : Q' (decide (y.cps.toList < z.cps.toList)) s := by
      rw [ru]
      have hQ2 : Q' (decide (rk (fstTx s.heap p.1) < rk (fstTx s.heap q.1))) s := hQ
      rw [py.tx, pz.tx] at hQ2
      exact hQ2
    obtain ⟨a, ba, t, e1, o, ho, hc, n, hd⟩ := py
    obtain ⟨a', bb, t', e2, o', ho', hc', n', hd'⟩ := pz
    rw [e1, e2]
    refine kat_lt ho hd ho' hd' ?_
    show KatLex prog w A _ false Q' [(Value.str y t, Value.str z t'), (Value.ref ba, Value.ref bb)] 0 s
    by_cases e : y = z
    · have ev := same e
      rw [e1, e2] at ev
      cases ev
      rw [ho] at ho'
      cases ho'
      rw [hd] at hd'
      have eb : bb = ba := by
        injection hd' with g1 g2
        have g3 := congrArg Array.toList g1
        simp at g3
        exact g3.2.symm
      subst eb
      have irr : decide (y.cps.toList < z.cps.toList) = false := by
        rw [e]
        exact decide_eq_false (List.lt_irrefl _)
      rw [irr] at fin
      refine kat_cons (wpAny_eqBool_str ?_)
      refine kat_go (fun _ => ?_) (fun e0 => absurd e (of_decide_eq_false e0))
      exact kat_yes (kat_cons (eqSame (kat_yes (kat_nil fin))))
    · refine kat_cons (wpAny_eqBool_str ?_)
      refine kat_go (fun e0 => absurd (of_decide_eq_true e0) e) (fun _ => kat_no ?_)
      exact oneLt_any_str fin
end

theorem Pairs.at' {P : Program} {w : World} {knd : PySem.KeyKind P w Key} : ∀ {es : List DictEntry} {kvs : List (Key × Value)} {j : Nat} {e : DictEntry}, PySem.Pairs knd es kvs → es[j]? = some e → ∃ kv, kvs[j]? = some kv ∧ knd.is kv.1 e.key = true ∧ e.val = kv.2
  | _, _, j, e, .nil, h => by simp at h
  | _, _, 0, e, .cons a b _, h => by
    simp only [List.getElem?_cons_zero, Option.some.injEq] at h
    subst h
    exact ⟨_, rfl, a, b⟩
  | _, _, j + 1, e, .cons _ _ t, h => by
    obtain ⟨kv, h1, h2⟩ := Pairs.at' (j := j) t (by simpa using h)
    exact ⟨kv, by simpa using h1, h2⟩
theorem Pairs.len {P : Program} {w : World} {knd : PySem.KeyKind P w Key} : ∀ {es : List DictEntry} {kvs : List (Key × Value)}, PySem.Pairs knd es kvs → es.length = kvs.length
  | _, _, .nil => rfl
  | _, _, .cons _ _ t => by simp [Pairs.len t]
abbrev entS (e : Str × Addr) : Key × V := (Sum.inr e.1, V.ref e.2)
section
variable {X : Cx}
/-- d.items() -/
def rItemsK : V → List V → Hp → VK → Prop := fun x xs H Q => ∃ (a : Addr) (kvs : List (Key × V)), x = .ref a ∧ xs = [] ∧ H a = some (.dK kvs) ∧ ∀ p, H p = none → Q (.ref p) (upd H p (DX.itemsO p a))
theorem mt_itemsK : MtR X "dict.items" rItemsK := by
  intro pins s σ H x xs v us Q I rx rxs h
  obtain ⟨a, kvs, rfl, rfl, ha, q⟩ := h
  cases rx
  cases rxs
  obtain ⟨z, hd, vs, rel, o, es, ep, ho, hx, hdat, _⟩ := dk_of I.hok ha
  have free : H s.heap.objs.size = none := I.hok.fresh (Nat.le_refl _)
  refine DT.callItems (es := es) (ep := ep) hd ⟨o, ho, hx, hdat⟩ ⟨.ref s.heap.objs.size, upd H s.heap.objs.size (DX.itemsO s.heap.objs.size a), ?_, rfl, q _ free⟩
  exact I.laid (t' := s.toks) (fun b u e => Heap.get?_push_of_some _ e) (Nat.le_refl _) (DX.itemsO_ok (Heap.get?_push_size _ rfl))
/-- sorted(d.items()): the keys are texts, all different; what they lead to stands anywhere -/
def rSortK : List V → Hp → VK → Prop := fun vs H Q => ∃ (p a : Addr) (ks : List (Str × Addr)) (rk : Str → Int), vs = [.ref p] ∧ H p = some (DX.itemsO p a) ∧ H a = some (.dK (ks.map entS)) ∧ ks.length < 64 ∧ (ks.map (·.1)).Nodup ∧
  (∀ e ∈ ks, ∀ f ∈ ks, decide (e.1.cps.toList < f.1.cps.toList) = decide (rk e.1 < rk f.1)) ∧
  ∀ (H' : Hp) (l : Addr) (ps : List (Addr × Str × Addr)), (∀ b o, H b = some o → H' b = some o) → (ps.map (·.2)).Perm ks → (ps.map (·.2)).Pairwise (fun e f => rk e.1 ≤ rk f.1) → H' l = some (.lst (ps.map fun z => V.ref z.1)) →
    (∀ z ∈ ps, H' z.1 = some (.tup [.str z.2.1, .ref z.2.2])) → Q (.ref l) H'
theorem cr_sortK (hc : X.calm = true) (hu : X.A.units + 64 < cLine) : CallR X (.builtin "sorted") rSortK := by
  intro pins s σ H xs us Q I r h
  obtain ⟨p, a, ks, rk, rfl, hp, ha, few, nod, hrk, q⟩ := h
  obtain rfl := Vals.ref1 r
  have view : s.heap.IsItemsView p a := (show ObjOk X.prog X.w H s.heap p (DX.itemsO p a) from I.hok p _ hp).1
  obtain ⟨z, hd, vs, rel, o, es, ep, ho, hx, hdat, hkeys, hpairs, hnod⟩ := dk_of I.hok ha
  have lenV : ks.length = vs.length := by
    have := Paired.length rel
    rwa [List.length_map] at this
  have lenE : es.size = vs.length := by
    have := Pairs.len hpairs
    rwa [Array.length_toList] at this
  refine DT.sortedI (es := es) (ep := ep) (I.ok.hd hc) view ⟨o, ho, hx, hdat⟩ (by rw [sizeLine_eq]; omega) fun h1 tk as keep grown cnt made => ?_
  have lenA : as.length = ks.length := by omega
  have nodA : as.Nodup := made.rise.imp fun h => Nat.ne_of_lt h
  -- each of the pairs made
  have each : ∀ (j : Nat) (b : Addr), as[j]? = some b → ∃ (e : Str × Addr) (t : Tok), ks[j]? = some e ∧ h1.get? b = some { cls := .type "tuple", data := .seq #[Value.str e.1 t, Value.ref e.2] } := by
    intro j b hj
    obtain ⟨en, he, hg⟩ := made.pairs j b hj
    rw [← Array.getElem?_toList] at he
    obtain ⟨kv, hkv, isk, hval⟩ := Pairs.at' hpairs he
    obtain ⟨e0, he0, r1, r2⟩ := DX.pget rel hkv
    rw [List.getElem?_map, Option.map_eq_some_iff] at he0
    obtain ⟨e, hke, rfl⟩ := he0
    have k1 : kv.1 = Sum.inr e.1 := r1.symm
    rw [k1, mixKind_is] at isk
    rcases keyIs_shape isk with ⟨i, t, c1, _⟩ | ⟨y, t, c1, c2⟩
    · cases c1
    · cases c1
      have r3 : kv.2 = Value.ref e.2 := r2
      exact ⟨e, t, hke, by rw [hg, c2, hval, r3]⟩
  have lst : (h1.push { cls := .type "list", data := .seq (as.map Value.ref).toArray }).get? h1.objs.size = some (seqObj "list" (as.map Value.ref).toArray 0) := Heap.get?_push_size _ rfl
  have neL : ∀ b o, h1.get? b = some o → b ≠ h1.objs.size := fun b o e => Nat.ne_of_lt (Heap.lt_size e)
  have on2 : ∀ b o, h1.get? b = some o → (h1.push { cls := .type "list", data := .seq (as.map Value.ref).toArray }).get? b = some o := fun b o e => Heap.get?_push_of_some _ e
  generalize h1.push { cls := .type "list", data := .seq (as.map Value.ref).toArray } = h2 at lst on2 ⊢
  have pin : ∀ (j : Nat) (b : Addr), as[j]? = some b → ∃ e : Str × Addr, ks[j]? = some e ∧ PairS (TS.midHeap h2 h1.objs.size (as.map Value.ref)) (.ref b) e.1 := by
    intro j b hj
    obtain ⟨e, t, he, hg⟩ := each j b hj
    exact ⟨e, he, b, e.2, t, rfl, _, TS.midHeap_old (neL _ _ hg) (on2 _ _ hg), rfl, 0, rfl⟩
  have txt : ∀ (j : Nat) (b : Addr) (e : Str × Addr), as[j]? = some b → ks[j]? = some e → fstTx (TS.midHeap h2 h1.objs.size (as.map Value.ref)) (.ref b) = e.1 := by
    intro j b e hj he
    obtain ⟨f, hf, x⟩ := pin j b hj
    rw [he] at hf
    cases hf
    exact x.tx
  have all : ∀ v ∈ as.map Value.ref, ∃ (j : Nat) (b : Addr) (e : Str × Addr), v = .ref b ∧ as[j]? = some b ∧ ks[j]? = some e := by
    intro v hv
    obtain ⟨b, hb, rfl⟩ := List.mem_map.mp hv
    obtain ⟨j, hj⟩ := List.mem_iff_getElem?.mp hb
    obtain ⟨e, _, he, _⟩ := each j b hj
    exact ⟨j, b, e, rfl, hj, he⟩
  refine wpAny_call_entry PyProof.Rows.slot_list_sort ⟨_, lst, rfl⟩ PyProof.Rows.entry_list_sort
    (SK.plain_sort (s := { s with heap := h2, toks := tk }) (r := fun v => rk (fstTx (TS.midHeap h2 h1.objs.size (as.map Value.ref)) v)) lst (by rw [List.length_map]; omega) (fun two Qk hQk => ?_) fun ps out o1 o2 o3 => ⟨.none, rfl, ?_⟩) (PyProof.Rows.args_list_sort _)
  · refine kindS (s := { s with heap := TS.midHeap h2 h1.objs.size (as.map Value.ref), toks := tk }) (rk := rk) two (fun v hv => ?_) (fun v hv u hu' same => ?_) (fun v hv u hu' => ?_) Qk hQk
    · obtain ⟨j, b, e, rfl, hj, he⟩ := all v hv
      obtain ⟨f, _, x⟩ := pin j b hj
      exact ⟨f.1, x⟩
    · obtain ⟨j, b, e, rfl, hj, he⟩ := all v hv
      obtain ⟨i, c, f, rfl, hi, hf⟩ := all u hu'
      have same' : fstTx (TS.midHeap h2 h1.objs.size (as.map Value.ref)) (.ref b) = fstTx (TS.midHeap h2 h1.objs.size (as.map Value.ref)) (.ref c) := same
      rw [txt j b e hj he, txt i c f hi hf] at same'
      have e1 : (ks.map (·.1))[j]? = some e.1 := by rw [List.getElem?_map, he]; rfl
      have e2 : (ks.map (·.1))[i]? = some e.1 := by rw [List.getElem?_map, hf, same']; rfl
      have hlt : j < (ks.map (·.1)).length := (List.getElem?_eq_some_iff.mp e1).1
      have ij : j = i := (List.getElem?_inj hlt nod).mp (e1.trans e2.symm)
      subst ij
      rw [hj] at hi
      cases hi
      rfl
    · obtain ⟨j, b, e, rfl, hj, he⟩ := all v hv
      obtain ⟨i, c, f, rfl, hi, hf⟩ := all u hu'
      show decide ((fstTx (TS.midHeap h2 h1.objs.size (as.map Value.ref)) (.ref b)).cps.toList < (fstTx (TS.midHeap h2 h1.objs.size (as.map Value.ref)) (.ref c)).cps.toList) = decide (rk (fstTx (TS.midHeap h2 h1.objs.size (as.map Value.ref)) (.ref b)) < rk (fstTx (TS.midHeap h2 h1.objs.size (as.map Value.ref)) (.ref c)))
      rw [txt j b e hj he, txt i c f hi hf]
      exact hrk e (List.mem_of_getElem? he) f (List.mem_of_getElem? hf)
  · show EP X pins σ Q (.ref h1.objs.size) { s with heap := sortedHeap h2 h1.objs.size (as.map Value.ref) out, toks := tk }
    obtain ⟨zs, pz, ez⟩ := perm_lift (fun z : Addr × Str × Addr => (Value.ref z.1, Value.ref z.1)) o2 (as.zip ks) (DX.zip_self Value.ref as ks lenA)
    have idx : ∀ z ∈ zs, ∃ j : Nat, as[j]? = some z.1 ∧ ks[j]? = some z.2 := fun y hy => by
      obtain ⟨j, hj⟩ := List.mem_iff_getElem?.mp (pz.mem_iff.mp hy)
      exact ⟨j, List.getElem?_zip_eq_some.mp hj⟩
    have outL : out.toList = zs.map fun z => Value.ref z.1 := by
      rw [o1, ← ez, List.map_map]
      rfl
    have perm : (zs.map (·.2)).Perm ks := by
      have m2 : (as.zip ks).map (·.2) = ks := List.map_snd_zip (by omega)
      have e := pz.map (·.2)
      rwa [m2] at e
    have order : (zs.map (·.2)).Pairwise (fun e f => rk e.1 ≤ rk f.1) := by
      rw [← ez, List.pairwise_map] at o3
      rw [List.pairwise_map]
      refine o3.imp_of_mem fun {u v} mu mv h => ?_
      obtain ⟨j, j1, j2⟩ := idx u mu
      obtain ⟨i, i1, i2⟩ := idx v mv
      have h' : rk (fstTx (TS.midHeap h2 h1.objs.size (as.map Value.ref)) (.ref u.1)) ≤ rk (fstTx (TS.midHeap h2 h1.objs.size (as.map Value.ref)) (.ref v.1)) := h
      rwa [txt j _ _ j1 j2, txt i _ _ i1 i2] at h'
    have kF : ∀ b o, b ≠ h1.objs.size → h2.get? b = some o → (sortedHeap h2 h1.objs.size (as.map Value.ref) out).get? b = some o := fun b o hb e => (PyProof.Rows.sortedHeap_old hb (Heap.lt_size e)).trans e
    have kS : ∀ b o, s.heap.get? b = some o → (sortedHeap h2 h1.objs.size (as.map Value.ref) out).get? b = some o := fun b o e => kF b o (neL _ _ (keep b o e)) (on2 _ _ (keep b o e))
    obtain ⟨cF, heF⟩ := PyProof.Rows.sortedHeap_at (vs := as.map Value.ref) (out := out) lst
    have I1 : Inv X pins σ H { s with heap := sortedHeap h2 h1.objs.size (as.map Value.ref) out, toks := tk } := I.kept (t' := tk) kS
    have noL : H h1.objs.size = none := I.hok.fresh (Nat.le_of_lt grown)
    have short : (zs.map fun z => V.ref z.1).length ≤ sizeLine := by
      have e := perm.length_eq
      simp only [List.length_map] at e ⊢
      rw [sizeLine_eq]
      omega
    have rv : Vals (zs.map fun z => V.ref z.1) out.toList := by
      rw [outL]
      exact vals_maps (fun z : Addr × Str × Addr => V.ref z.1) (fun z => Value.ref z.1) zs fun _ _ => rfl
    have I2 : Inv X pins σ (upd H h1.objs.size (.lst (zs.map fun z => V.ref z.1))) { s with heap := sortedHeap h2 h1.objs.size (as.map Value.ref) out, toks := tk } :=
      I1.take (h' := sortedHeap h2 h1.objs.size (as.map Value.ref) out) (t' := tk) (fun b ob _ e => e) (I.fpOk (Nat.le_of_lt grown) noL) ⟨short, out.toList, cF, rv, heF⟩
    obtain ⟨H2, I3, g, qt⟩ := DX.takeT (P := fun b us => ∃ (j : Nat) (e : Str × Addr), as[j]? = some b ∧ ks[j]? = some e ∧ us = [V.str e.1, .ref e.2]) I as _ I2 nodA fun b hb => by
      obtain ⟨j, hj⟩ := List.mem_iff_getElem?.mp hb
      obtain ⟨e, t, he, hg⟩ := each j b hj
      have low : s.heap.objs.size ≤ b := Nat.le_of_lt (made.above b hb)
      refine ⟨low, ?_, [V.str e.1, .ref e.2], ⟨j, e, hj, he, rfl⟩, fun H3 => ⟨(by rw [sizeLine_eq]; show 2 ≤ 16777216; omega), [Value.str e.1 t, Value.ref e.2], .cons ⟨t, rfl⟩ (.cons rfl .nil), ⟨_, kF _ _ (neL _ _ hg) (on2 _ _ hg), rfl, 0, rfl⟩⟩⟩
      rw [upd_ne (neL _ _ hg)]
      exact I.hok.fresh low
    have grow : ∀ b o, H b = some o → H2 b = some o := fun b o e => g b o (by rw [upd_ne (ne_of_none e noL)]; exact e)
    refine ⟨.ref h1.objs.size, H2, I3, rfl, q H2 h1.objs.size zs grow perm order (g _ _ upd_same) fun y hy => ?_⟩
    obtain ⟨i, i1, i2⟩ := idx y hy
    obtain ⟨us, ⟨j, e, j1, j2, ev⟩, hH⟩ := qt y.1 (List.mem_of_getElem? i1)
    have ij : i = j := (List.getElem?_inj (List.getElem?_eq_some_iff.mp i1).1 nodA).mp (i1.trans j1.symm)
    subst ij
    rw [i2] at j2
    cases j2
    rw [hH, ev]
/-- repr of data -/
def rRepr (K : PySem.W.Frag) : List V → Hp → VK → Prop := fun vs H Q => ∃ (a : Addr) (d : PyData), vs = [.ref a] ∧ Dp K H (.ref a) d ∧ d.showable = true ∧ d.hasDict = false ∧ d.depth ≤ 60 ∧ d.shown.length ≤ sizeLine ∧ Q (.str d.shown) H
theorem cr_repr (g : X.A.guards = some []) (hu : X.A.units + 64 < cLine) : CallR X (.builtin "repr") (rRepr X.K) := by
  intro pins s σ H xs us Q I r h
  obtain ⟨a, d, rfl, hd, h1, h2, h3, h4, q⟩ := h
  obtain rfl := Vals.ref1 r
  obtain ⟨as, rd⟩ := Dp.reads I d _ (.ref a) hd rfl
  exact repr_of_reads' rd h1 (PyData.noDict_hsm h2) g (by omega) (fun b o e => e) (fun h' u tk keep => ⟨.str d.shown, H, I.kept (t' := tk) keep, ⟨u, rfl⟩, q⟩) h4
end
end Pl

namespace Pl
open PySem PySem.Spec PyProof.Rows L2

/-- new things beside all that was there -/
theorem Ext.more {ρ : List Addr} {H H' : Hp} (g : ∀ b o, H b = some o → H' b = some o) : Ext ρ H ρ H' := ⟨⟨[], by simp⟩, fun a o h n => ⟨g a o h, n⟩⟩
theorem Sr.more {K : Kp} {H H' : Hp} {ρ : List Addr} {μ : Mu} (s : Sr K H ρ μ) (g : ∀ b o, H b = some o → H' b = some o) : Sr K H' ρ μ :=
  ⟨s.nd, s.len, fun n a o h1 h2 => by
    have q := s.at' n a o h1 h2
    obtain ⟨u, hu⟩ := q.is
    exact q.mono (Ext.more g) (by rw [hu]; exact g a u hu), fun a ha => by
    obtain ⟨h1, u, hu⟩ := s.off a ha
    exact ⟨h1, u, g a u hu⟩⟩
mutual
theorem dpMore {F : PySem.W.Frag} {H H' : Hp} (g : ∀ b o, H b = some o → H' b = some o) : ∀ {v : V} {d : PyData}, Dp F H v d → Dp F H' v d
  | _, _, .non => .non
  | _, _, .bl b => .bl b
  | _, _, .int i => .int i
  | _, _, .str x => .str x
  | _, _, .lst h r => .lst (h.imp (Or.imp (g _ _) fun ⟨o, q⟩ => ⟨o, g _ _ q⟩) id) (dpAllMore g r)
  | _, _, .tup h r => .tup (h.imp (Or.imp (g _ _) fun ⟨o, q⟩ => ⟨o, g _ _ q⟩) id) (dpAllMore g r)
theorem dpAllMore {F : PySem.W.Frag} {H H' : Hp} (g : ∀ b o, H b = some o → H' b = some o) : ∀ {v : List V} {d : List PyData}, DpAll F H v d → DpAll F H' v d
  | _, _, .nil => .nil
  | _, _, .cons h r => .cons (dpMore g h) (dpAllMore g r)
end
mutual
theorem Rp.dp {K : Kp} {H : Hp} {ρ : List Addr} (μ : Mu) : ∀ (d : D) {v : V} {p : PyData}, Rp K H ρ v d → pyD μ d = some p → Dp K.fr H v p ∧ p.hasDict = false
  | .non, _, _, r, h => by cases r; cases h; exact ⟨.non, by simp [PyData.hasDict]⟩
  | .bl b, _, _, r, h => by cases r; cases h; exact ⟨.bl b, by simp [PyData.hasDict]⟩
  | .int i, _, _, r, h => by cases r; cases h; exact ⟨.int i, by simp [PyData.hasDict]⟩
  | .str x, _, _, r, h => by cases r; cases h; exact ⟨.str x, by simp [PyData.hasDict]⟩
  | .tup xs, _, _, r, h => by
    obtain ⟨a, vs, rfl, h1, h2, h3, h4⟩ := r.toTup
    rw [pyD, Option.map_eq_some_iff] at h
    obtain ⟨ps, h5, rfl⟩ := h
    obtain ⟨q1, q2⟩ := RpL.dp μ xs h4 h5
    exact ⟨.tup (sqT h1) q1, by simp [PyData.hasDict, q2]⟩
  | .lst xs, _, _, r, h => by
    obtain ⟨a, vs, rfl, h1, h2, h3, h4⟩ := r.toLst
    rw [pyD, Option.map_eq_some_iff] at h
    obtain ⟨ps, h5, rfl⟩ := h
    obtain ⟨q1, q2⟩ := RpL.dp μ xs h4 h5
    exact ⟨.lst (sqL h1) q1, by simp [PyData.hasDict, q2]⟩
  | .frz _, _, _, _, h => by cases h
  | .ref _, _, _, _, h => by cases h
theorem RpL.dp {K : Kp} {H : Hp} {ρ : List Addr} (μ : Mu) : ∀ (d : List D) {v : List V} {p : List PyData}, RpL K H ρ v d → pyDs μ d = some p → DpAll K.fr H v p ∧ PyData.hasDictAll p = false
  | [], _, _, r, h => by cases r; cases h; exact ⟨.nil, by simp [PyData.hasDictAll]⟩
  | d :: ds, _, _, r, h => by
    cases r with
    | cons r rr =>
      rw [pyDs, Option.bind_eq_some_iff] at h
      obtain ⟨x, h1, h⟩ := h
      rw [Option.map_eq_some_iff] at h
      obtain ⟨y, h2, rfl⟩ := h
      obtain ⟨q1, q2⟩ := Rp.dp μ d r h1
      obtain ⟨q3, q4⟩ := RpL.dp μ ds rr h2
      exact ⟨.cons q1 q3, by simp [PyData.hasDictAll, q2, q4]⟩
end
theorem tupRef {K : Kp} {H : Hp} {ρ : List Addr} {v : V} {xs : List D} (r : Rp K H ρ v (.tup xs)) : ∃ a, v = .ref a := by
  obtain ⟨a, _, rfl, _⟩ := r.toTup
  exact ⟨a, rfl⟩
def rk3 (x : Str) : Int := if x = "m.f" then 0 else if x = "m.g" then 1 else 2
abbrev ks3 : List Str := ["m.f", "m.g", "m.h"]
theorem keys3 : ks3.Nodup ∧ (∀ x ∈ ks3, ∀ y ∈ ks3, decide (x.cps.toList < y.cps.toList) = decide (rk3 x < rk3 y)) ∧ (∀ x ∈ ks3, ∀ y ∈ ks3, rk3 x = rk3 y → x = y) ∧ ks3.Pairwise (fun x y => rk3 x ≤ rk3 y) := by decide +kernel
def pr3 (a1 a2 a3 : Addr) : List (Str × Addr) := [("m.f", a1), ("m.g", a2), ("m.h", a3)]
theorem pr3_fst (a1 a2 a3 : Addr) : (pr3 a1 a2 a3).map (·.1) = ks3 := rfl
theorem pr3_mem {a1 a2 a3 : Addr} {e : Str × Addr} (h : e ∈ pr3 a1 a2 a3) : e.1 ∈ ks3 := by
  rw [← pr3_fst a1 a2 a3]
  exact List.mem_map.mpr ⟨e, h, rfl⟩
theorem pr3_inj {a1 a2 a3 : Addr} {e f : Str × Addr} (he : e ∈ pr3 a1 a2 a3) (hf : f ∈ pr3 a1 a2 a3) (h : e.1 = f.1) : e = f := by
  obtain ⟨i, hi⟩ := List.mem_iff_getElem?.mp he
  obtain ⟨j, hj⟩ := List.mem_iff_getElem?.mp hf
  have h1 : ks3[i]? = some e.1 := by rw [← pr3_fst a1 a2 a3, List.getElem?_map, hi]; rfl
  have h2 : ks3[j]? = some e.1 := by rw [← pr3_fst a1 a2 a3, List.getElem?_map, hj, h]; rfl
  have ij : i = j := (List.getElem?_inj (List.getElem?_eq_some_iff.mp h1).1 keys3.1).mp (h1.trans h2.symm)
  rw [ij, hj] at hi
  exact (Option.some.inj hi).symm
section
variable {S : Stt} {c : Orc} {sc ss : Scope} {X : Cx}
theorem toldOk (C : Cok S c sc ss X) {a : AE} {o : Expr} {p1 p2 p3 p4 p5 : Pos} {apos : Pos} (ho : L2.PE X o (tEv X.K c a)) (nc : nCall o = true) (line : (apos.endLine == p3.line) = true)
    (g1 : Gl X "repr") (m1 : X.mg "repr" = none) (g2 : Gl X "sorted") (m2 : X.mg "sorted" = none) :
    L2.PE X (.Call (.Name "repr" p1) [.Call (.Name "sorted" p2) [.Call (.Attribute o "items" apos) [] [] p3] [] p4] [] p5) (tEv X.K c (.told a)) := by
  have e1 := pe_bm0 (apos := apos) (cpos := p3) PySem.F.plainAttrs_dict PySem.F.slot_dict_items PySem.F.type_dict_items mt_itemsK ho (noBase nc) line
  have e2 := callB (x := "sorted") (p := p2) (pos := p4) (cr_sortK C.calm C.hu64) g2 m2 (by decide +kernel) (pa_cons e1 pa_nil rfl) rfl rfl (by decide) (by decide)
  have e3 := callB (x := "repr") (p := p1) (pos := p5) (cr_repr C.gd C.hu64) g1 m1 (by decide +kernel) (pa_cons e2 pa_nil rfl) rfl rfl (by decide) (by decide)
  refine peW e3 fun σ H Q q => ?_
  obtain ⟨φ, env, ρ, μ, d, μ', en, sr, ev, q⟩ := q
  rw [evE, Option.bind_eq_some_iff] at ev
  obtain ⟨x1, ex, ev⟩ := ev
  rw [Option.map_eq_some_iff] at ev
  obtain ⟨t, ht, hz⟩ := ev
  cases hz
  refine seq1 en sr ex fun v H1 ρ1 x1' s1 r1 _ => ?_
  unfold toldR at ht
  split at ht
  case h_2 => cases ht
  rename_i n hn
  split at ht
  case h_2 => cases ht
  rename_i kvs hm
  rw [hn] at r1
  obtain ⟨b, vs, rfl, hb, h1, h2⟩ := atDct s1 r1 hm
  unfold toldD at ht
  split at ht
  case h_2 => cases ht
  rename_i k1 t1 k2 t2 k3 t3
  split at ht
  case isFalse => cases ht
  rename_i hk
  obtain ⟨rfl, rfl, rfl⟩ := hk
  simp only [Option.bind_eq_some_iff] at ht
  obtain ⟨y1, f1, y2, f2, y3, f3, ht⟩ := ht
  split at ht
  case isFalse => cases ht
  rename_i ok
  cases ht
  obtain ⟨ok1, ok2, ok3⟩ := ok
  obtain ⟨v1, v2, v3, rfl, w1, w2, w3⟩ : ∃ v1 v2 v3, vs = ([(Sum.inr ("m.f" : Str), v1), (Sum.inr ("m.g" : Str), v2), (Sum.inr ("m.h" : Str), v3)] : List (Key × V)) ∧ Rp ⟨X.K, φ⟩ H1 ρ1 v1 (.tup t1) ∧ Rp ⟨X.K, φ⟩ H1 ρ1 v2 (.tup t2) ∧ Rp ⟨X.K, φ⟩ H1 ρ1 v3 (.tup t3) := by
    match vs, h2 with
    | [(_, u1), (_, u2), (_, u3)], ⟨c1, q1, c2, q2, c3, q3, _⟩ =>
      subst c1 c2 c3
      exact ⟨u1, u2, u3, rfl, q1, q2, q3⟩
  obtain ⟨a1, rfl⟩ := tupRef w1
  obtain ⟨a2, rfl⟩ := tupRef w2
  obtain ⟨a3, rfl⟩ := tupRef w3
  obtain ⟨d1, n1⟩ := w1.dp _ _ f1
  obtain ⟨d2, n2⟩ := w2.dp _ _ f2
  obtain ⟨d3, n3⟩ := w3.dp _ _ f3
  refine ⟨.inr (.inr (.inl ⟨rfl, .inl ⟨_, h1⟩⟩)), b, [(Sum.inr ("m.f" : Str), V.ref a1), (Sum.inr ("m.g" : Str), V.ref a2), (Sum.inr ("m.h" : Str), V.ref a3)], rfl, rfl, h1, fun p hp => ?_⟩
  have grow0 : ∀ c o, H1 c = some o → upd H1 p (DX.itemsO p b) c = some o := fun c o e => by rw [upd_ne (ne_of_none e hp)]; exact e
  refine ⟨p, b, pr3 a1 a2 a3, rk3, rfl, upd_same, grow0 _ _ h1, (by show 3 < 64; decide), by rw [pr3_fst]; exact keys3.1, fun e he f hf => keys3.2.1 _ (pr3_mem he) _ (pr3_mem hf), fun H2 l ps grow perm order hl pairs => ?_⟩
  have eps : ps.map (·.2) = pr3 a1 a2 a3 := by
    refine List.Perm.eq_of_pairwise (le := fun e f : Str × Addr => rk3 e.1 ≤ rk3 f.1) (fun x y hx hy l1 l2 => ?_) order ?_ perm
    · exact pr3_inj (perm.mem_iff.mp hx) hy (keys3.2.2.1 _ (pr3_mem (perm.mem_iff.mp hx)) _ (pr3_mem hy) (by omega))
    · have := keys3.2.2.2
      rw [← pr3_fst a1 a2 a3, List.pairwise_map] at this
      exact this
  obtain ⟨z1, z2, z3, rfl, ez1, ez2, ez3⟩ : ∃ z1 z2 z3, ps = [z1, z2, z3] ∧ z1.2 = (("m.f" : Str), a1) ∧ z2.2 = (("m.g" : Str), a2) ∧ z3.2 = (("m.h" : Str), a3) := by
    have el : ps.length = 3 := by have := congrArg List.length eps; rw [List.length_map] at this; exact this
    match ps, el with
    | [z1, z2, z3], _ =>
      have e : [z1.2, z2.2, z3.2] = pr3 a1 a2 a3 := eps
      unfold pr3 at e
      injection e with e1 e
      injection e with e2 e
      injection e with e3 _
      exact ⟨z1, z2, z3, rfl, e1, e2, e3⟩
  have g1' : ∀ c o, H1 c = some o → H2 c = some o := fun c o e => grow c o (grow0 c o e)
  have k1 := pairs z1 (by simp)
  have k2 := pairs z2 (by simp)
  have k3 := pairs z3 (by simp)
  rw [ez1] at k1
  rw [ez2] at k2
  rw [ez3] at k3
  refine ⟨l, threePy y1 y2 y3, rfl, .lst (sqL hl) (.cons (.tup (sqT k1) (.cons (.str _) (.cons (dpMore g1' d1) .nil))) (.cons (.tup (sqT k2) (.cons (.str _) (.cons (dpMore g1' d2) .nil))) (.cons (.tup (sqT k3) (.cons (.str _) (.cons (dpMore g1' d3) .nil))) .nil))), ok1, ?_, ok2, ok3, q _ H2 ρ1 (x1'.trans (Ext.more g1')) (s1.more g1') (.str _)⟩
  simp [threePy, PyData.hasDict, PyData.hasDictAll, n1, n2, n3]
theorem zipOk (C : Cok S c sc ss X) {a b : AE} {x y : Expr} {p1 p2 p3 : Pos} {ts : List Expr} {k : Nat} (ha : L2.PE X x (tEv X.K c a)) (hb : L2.PE X y (tEv X.K c b)) (n1 : nStar x = true) (n2 : nStar y = true)
    (gl : Gl X "zip") (mg : X.mg "zip" = none) : L2.PI X (.Tuple ts k p1) (.Call (.Name "zip" p2) [x, y] [] p3) (tSr X.K c (.zip a b)) := by
  have st2 := starEach_cons (e := y) (es := []) (env := X.env) n2
  have st := starEach_cons (e := x) (es := [y]) (env := X.env) n1
  refine piW (pi_Z gl mg (pa_cons ha (pa_cons hb pa_nil st2) st) st (backTo_any.trans (by rw [st2]; rfl))) fun σ H R q => ?_
  obtain ⟨φ, env, ρ, μ, items, g, μ', en, sr, ev, q⟩ := q
  simp only [evSrc, Option.bind_eq_some_iff, Option.map_eq_some_iff] at ev
  obtain ⟨y1, e1, y2, e2, z, e3, e4⟩ := ev
  cases e4
  refine seq1 en sr e1 fun v H1 ρ1 g1 s1 r1 en1 => seq1 en1 s1 e2 fun u H2 ρ2 g2 s2 r2 en2 => ?_
  obtain ⟨xs, ys, hx, hy, rfl⟩ := zipD_is e3
  obtain ⟨t, a1, vs, rfl, z1, k1, m1⟩ := datK hx (r1.mono g2)
  obtain ⟨w, a2, us, rfl, z2, k2, m2⟩ := datK hy r2
  have l1 := k1.length
  have l2 := k2.length
  have here := (Ext.refl ρ2 H2).toH φ
  have hlen : ((xs.zip ys).map fun p => D.tup [p.1, p.2]).length = min vs.length us.length := by rw [List.length_map, List.length_zip]; omega
  refine ⟨t, w, a1, a2, vs, us, rfl, m1 _ _ here, m2 _ _ here, q (ItZ t w X.K a1 a2) (fun H => sqK t X.K H a1 vs ∧ sqK w X.K H a2 us) _ ρ2 H2 (g1.trans g2) s2 (by omega) (by rw [hlen]; exact walkZ) (fun φ2 H3 ρ3 μ3 x3 _ _ => ⟨m1 _ _ x3, m2 _ _ x3⟩) ?_⟩
  rintro φ2 i H3 ρ3 μ3 v H4 hi x3 s3 cv _ ⟨T, v1, v2, rfl, hT, rfl, f1, f2⟩
  obtain ⟨d1, e1', e2'⟩ := (RpL.conv (fun v d r => cv v d r) k1).of_get f1
  obtain ⟨d2, e3', e4'⟩ := (RpL.conv (fun v d r => cv v d r) k2).of_get f2
  refine ⟨.tup [d1, d2], ?_, Ext.new hT, s3.new hT, .tup upd_same (s3.nin hT) (by show 2 ≤ sizeLine; decide) (.cons (e2'.mono (Ext.new hT)) (.cons (e4'.mono (Ext.new hT)) .nil))⟩
  have both : (xs.zip ys)[i]? = some (d1, d2) := List.getElem?_zip_eq_some.mpr ⟨e1', e3'⟩
  rw [List.getElem?_map, both]
  rfl
end
theorem laterOk (S : Stt) (c : Orc) : Later S c := ⟨fun C _ _ _ _ _ _ _ _ _ ho nc line g1 m1 g2 m2 => toldOk C ho nc line g1 m1 g2 m2, fun C _ _ _ _ _ _ _ _ _ ha hb n1 n2 gl mg => zipOk C ha hb n1 n2 gl mg⟩
end Pl

namespace Pl
open PySem PySem.Spec PyProof.Rows L2

/-- a def's text has the form -/
structure RowOk (S : Stt) (x : Str) (st : Stmt) (d : PDef) : Prop where
  ex : ∃ N ps : List Str, FnScope N ps (defScope st) ∧ (∀ (kV doc pm : Value) (an : Option Addr) (cdv ct : Value) (us : List Value), us.length = ps.length →
    bindArgs (PySem.W.fnOf x x (defArgs st) (defBody st) (defScope st) .none kV doc pm an cdv ct) ⟨us, []⟩ = pure (ps.zip us)) ∧ ps.length = d.ar ∧ N.length = d.nl ∧ kSs (S.at N) (defScope st) d.body (defBody st) = true
abbrev DRow : Type := Str × Nat × PDef
def AllRows (S : Stt) (tp : Nat → Stmt) : List DRow → Prop
  | [] => True
  | r :: rs => RowOk S r.1 (tp r.2.1) r.2.2 ∧ AllRows S tp rs
theorem AllRows.at' {S : Stt} {tp : Nat → Stmt} : ∀ {rs : List DRow} {f : Nat} {r : DRow}, AllRows S tp rs → rs[f]? = some r → RowOk S r.1 (tp r.2.1) r.2.2
  | [], f, r, _, h => by simp at h
  | q :: rs, 0, r, a, h => by simp at h; subst h; exact a.1
  | q :: rs, f + 1, r, a, h => AllRows.at' (f := f) a.2 (by simpa using h)
def ddOf (tp : Nat → Stmt) (r : DRow) : He.DefD := ⟨(r.1, none), r.1, r.1, defArgs (tp r.2.1), defBody (tp r.2.1), defScope (tp r.2.1), [], []⟩
def faOf (S : Stt) : List He.Fa := S.fns.map .glo ++ (S.gt.map fun t => .glo t.1) ++ bltNames.map .free ++ S.gi.map fun p => .int p.1 p.2
def tsOf (S : Stt) : List He.Tab := S.gt.map fun t => (fun K => He.ga K t.1, t.2.map (·.1))
def exOf (S : Stt) (K : PySem.W.Frag) : Bool := S.gt.all fun t => He.valsB K (He.ga K t.1) (t.2.filterMap fun e => e.2.bind fun f => (S.fns[f]?).map fun y => (e.1, .glo y)) && t.2.all fun e => match e.2 with
  | some f => (S.fns[f]?).isSome
  | none => false
abbrev hkOf (S : Stt) (tp : Nat → Stmt) (rs : List DRow) : PySem.W.Hook := He.hookX 4 (faOf S) (rs.map (ddOf tp)) (tsOf S) [] (exOf S)
def obOf (S : Stt) (tp : Nat → Stmt) (rs : List DRow) (s : PySem.W.SharedT) : He.AlX := He.obsX 4 (faOf S) (rs.map (ddOf tp)) (tsOf S) [] (exOf S) (HandSHeadRun.getT s)
theorem obOf_eq (S : Stt) (tp : Nat → Stmt) (rs : List DRow) (s : PySem.W.SharedT) : obOf S tp rs s = (hkOf S tp rs).obs s.abs := He.obsX_eq (HandSHeadRun.getT_eq s)
theorem lookE_mem : ∀ {ents : List (Str × Option Nat)} {z : Str} {r : Option Nat}, lookE ents z = some r → (z, r) ∈ ents
  | [], _, _, h => by cases h
  | (x, f) :: es, z, r, h => by
    rw [lookE] at h
    split at h
    · rename_i e
      cases h
      rw [e]
      exact List.mem_cons_self
    · exact List.mem_cons_of_mem _ (lookE_mem h)
theorem lookup_mem' {α : Type} : ∀ {l : List (Str × α)} {x : Str} {a : α}, l.lookup x = some a → (x, a) ∈ l
  | [], _, _, h => by cases h
  | (y, b) :: r, x, a, h => by
    rw [List.lookup_cons] at h
    split at h
    · rename_i e
      cases h
      rw [eq_of_beq e]
      exact List.mem_cons_self
    · exact List.mem_cons_of_mem _ (lookup_mem' h)
theorem txtOf {S : Stt} {tp : Nat → Stmt} {rs : List DRow} {w : World} {h : Heap} {K : PySem.W.Frag} {mg : Str → Option Value} (hS : S.fns = rs.map (·.1)) (A : AllRows S tp rs) (X : K.In h) (G : h.Ns mainGlobals mg)
    (c : He.SaysX (faOf S) (rs.map (ddOf tp)) (tsOf S) [] (exOf S) w h K) : Txt S (rs.map (·.2.2)) w K mg where
  bn := fun x hx => He.free_ok X G (c.t.d.facts (f := .free x) (List.mem_append_left _ (List.mem_append_right _ (List.mem_map.mpr ⟨x, hx, rfl⟩))))
  gi := fun x n hx => He.int_ok X G (c.t.d.facts (f := .int x n) (List.mem_append_right _ (List.mem_map.mpr ⟨(x, n), lookup_mem' hx, rfl⟩)))
  gt := fun x ents hx => by
    have mem := lookup_mem' hx
    have m1 := He.glo_ok X G (c.t.d.facts (f := .glo x) (List.mem_append_left _ (List.mem_append_left _ (List.mem_append_right _ (List.mem_map.mpr ⟨(x, ents), mem, rfl⟩)))))
    obtain ⟨i, hi⟩ := List.mem_iff_getElem?.mp mem
    obtain ⟨es, n, kd⟩ := c.t.tab i (t := (fun K => He.ga K x, ents.map (·.1))) (by unfold tsOf; rw [List.getElem?_map, hi]; rfl)
    refine ⟨He.ga K x, es, n, m1, kd, fun z r hr => ?_⟩
    have hm := c.more
    unfold exOf at hm
    obtain ⟨h1, h2⟩ := Bool.and_eq_true_iff.mp (List.all_eq_true.mp hm _ mem)
    have hz := lookE_mem hr
    have h3 := List.all_eq_true.mp h2 _ hz
    cases r with
    | none => cases h3
    | some f =>
      obtain ⟨y, hy⟩ := Option.isSome_iff_exists.mp h3
      obtain ⟨u, hu, ru⟩ := He.valsB_ok h1 (q := (z, .glo y)) (List.mem_filterMap.mpr ⟨(z, some f), hz, by simp [hy]⟩)
      have hyf : y ∈ S.fns := List.mem_of_getElem? hy
      have m2 := He.glo_ok X G (c.t.d.facts (f := .glo y) (List.mem_append_left _ (List.mem_append_left _ (List.mem_append_left _ (List.mem_map.mpr ⟨y, hyf, rfl⟩)))))
      cases ru
      exact ⟨y, _, hy, m2, hu⟩
  dfs := fun f x hx => by
    rw [hS, List.getElem?_map, Option.map_eq_some_iff] at hx
    obtain ⟨r, hr, rfl⟩ := hx
    obtain ⟨N, ps, h1, h2, h3, h4, h5⟩ := (A.at' hr).ex
    obtain ⟨fd, F⟩ := c.t.d.defs (d := ddOf tp r) (List.mem_map.mpr ⟨r, List.mem_of_getElem? hr, rfl⟩)
    have mem : r.1 ∈ S.fns := by rw [hS]; exact List.mem_map.mpr ⟨r, List.mem_of_getElem? hr, rfl⟩
    have m := He.glo_ok X G (c.t.d.facts (f := .glo r.1) (List.mem_append_left _ (List.mem_append_left _ (List.mem_append_left _ (List.mem_map.mpr ⟨r.1, mem, rfl⟩)))))
    refine ⟨r.2.2, by rw [List.getElem?_map, hr]; rfl, r.1, tp r.2.1, He.ga K r.1, fd, N, ps, ?_, h1, ?_, m, h3, h4, h5⟩
    · obtain ⟨oc, od, dV, kV, doc, pm, an, cdv, ct, osl, e1, e2, e3, e4, _⟩ := F.ex
      rcases e4 with ⟨_, rfl⟩ | ⟨e, _⟩
      · exact ⟨⟨oc, od, kV, doc, pm, an, cdv, ct, osl, e1, e2, e3⟩, F.kp⟩
      · exact absurd rfl e
    · exact F.bindsN h2
section
variable {l : PySem.W.OpenLaw} {n k : Nat} {q : Program} {loose : List Str} {XP : (Str → Option Value) → Heap → Prop} {d : DefRec} {S : Stt} {P : List PDef} {f : Nat} {tp : Nat → Stmt} {rs : List DRow}
/-- THE END: a law from its plain claim -/
theorem endG (hn : l.most = some n) (hn2 : n ≤ sizeLine) (hdf : d.params.defaults = []) (hr : Room k callerA) (hf : S.fns[f]? = some d.name) (hS : S.fns = rs.map (·.1)) (A : AllRows S tp rs)
    (plain : ∀ ns : List Int, ns.length ≤ n → ∃ μ, callF (rs.map (·.2.2)) k f [.frz (ns.map .int)] [] = some (.bl true, μ)) :
    PySem.W.WalkO q loose XP (hkOf S tp rs).says l.row.toRowW d [] (fun f vs => PySem.call f vs) := by
  refine Att.attach_call hn hdf fun w s₀ s₁ mg mb fa o pm cd doc a vs ns G Y ho hd hcd hmg hobj hints hlen hg => ?_
  obtain ⟨K, kin, c⟩ := Y
  exact lawOf hr (fun n N => laterOk _ _) kin (txtOf hS A kin G.T.g c) G.T.g G.T.b G.T.builtins G.T.nolimit hg hobj hints (Nat.le_trans hlen hn2) hf hmg (plain ns hlen)
end
end Pl

namespace Pl
open PySem
def tab_RULES : List (Str × Option Nat) := [("known switch", some 14), ("value put in", some 15), ("left out", some 16), ("call put in", some 17), ("known function", some 18), ("number reckoned", some 19), ("let of let", some 20), ("switch of let", some 21), ("switch again", some 23)]
def b_strict_parts : ASs := (.cons (.asg (.nm 1) (.idx (.var 0) (.lit (.int 0)))) (.cons (.ife (.val (.cmp .In (.var 1) (.tup (.cons (.lit (.str "call")) (.cons (.lit (.str "data")) .nil))))) (.cons (.ret (.idx (.var 0) (.lit (.int 2)))) .nil) .nil) (.cons (.ife (.val (.cmp .Eq (.var 1) (.lit (.str "callby")))) (.cons (.ret (.bin .Add (.tup (.cons (.idx (.var 0) (.lit (.int 1))) .nil)) (.idx (.var 0) (.lit (.int 2))))) .nil) .nil) (.cons (.ife (.val (.cmp .Eq (.var 1) (.lit (.str "op")))) (.cons (.ret (.sl (.var 0) (.yes (.lit (.int 2))) (.yes (.lit (.int 4))))) .nil) .nil) (.cons (.ife (.val (.cmp .Eq (.var 1) (.lit (.str "write")))) (.cons (.ret (.sl (.var 0) (.yes (.lit (.int 1))) (.yes (.lit (.int 3))))) .nil) .nil) (.cons (.ret (.ife (.val (.cmp .In (.var 1) (.tup (.cons (.lit (.str "cell")) (.cons (.lit (.str "read")) (.cons (.lit (.str "print")) (.cons (.lit (.str "fail")) .nil))))))) (.tup (.cons (.idx (.var 0) (.lit (.int 1))) .nil)) (.tup .nil))) .nil))))))
def n_strict_parts : List Str := ["tree", "kind"]
def b_reckoned : ASs := (.cons (.ife (.val (.cmp .In (.var 0) (.tup (.cons (.lit (.str "<")) (.cons (.lit (.str "=")) .nil))))) (.cons (.ret (.tup (.cons (.lit (.str "data")) (.cons (.bi .int (.cons (.ife (.val (.cmp .Eq (.var 0) (.lit (.str "<")))) (.cmp .Lt (.var 1) (.var 2)) (.cmp .Eq (.var 1) (.var 2))) .nil)) (.cons (.tup .nil) .nil))))) .nil) .nil) (.cons (.ife (.val (.cmp .In (.var 0) (.tup (.cons (.lit (.str "/")) (.cons (.lit (.str "mod")) .nil))))) (.cons (.ife (.val (.cmp .Eq (.var 2) (.lit (.int 0)))) (.cons .nev .nil) .nil) (.cons (.asg (.nm 3) (.ife (.val (.cmp .Eq (.var 0) (.lit (.str "/")))) (.bin .FloorDiv (.var 1) (.var 2)) (.bin .Mod (.var 1) (.var 2)))) .nil)) (.cons (.ife (.val (.cmp .Eq (.var 0) (.lit (.str "*")))) (.cons (.asg (.nm 3) (.bin .Mult (.var 1) (.var 2))) .nil) (.cons (.asg (.nm 3) (.ife (.val (.cmp .Eq (.var 0) (.lit (.str "+")))) (.bin .Add (.var 1) (.var 2)) (.bin .Sub (.var 1) (.var 2)))) .nil)) .nil)) (.cons .nev (.cons (.ret (.tup (.cons (.lit (.str "number")) (.cons (.var 3) .nil)))) .nil))))
def n_reckoned : List Str := ["sign", "one", "other", "number"]
def b_parts : ASs := (.cons (.asg (.nm 1) (.idx (.var 0) (.lit (.int 0)))) (.cons (.ife (.val (.cmp .Eq (.var 1) (.lit (.str "let")))) (.cons (.ret (.sl (.var 0) (.yes (.lit (.int 2))) (.yes (.lit (.int 4))))) .nil) .nil) (.cons (.ife (.val (.cmp .Eq (.var 1) (.lit (.str "switch")))) (.cons (.ret (.bin .Add (.tup (.cons (.idx (.var 0) (.lit (.int 1))) .nil)) (.bi .tuple (.cons (.lc [2, 3] (.var 3) (.tp (.cons (.nm 2) (.cons (.nm 3) .nil))) (.it (.idx (.var 0) (.lit (.int 2)))) .nil) .nil)))) .nil) .nil) (.cons (.ret (.ife (.val (.cmp .Eq (.var 1) (.lit (.str "fn")))) (.tup (.cons (.idx (.var 0) (.lit (.int 2))) .nil)) (.call 0 (.cons (.var 0) .nil)))) .nil))))
def n_parts : List Str := ["tree", "kind", "_", "body"]
def b_with_part : ASs := (.cons (.asg (.nm 3) (.idx (.var 0) (.lit (.int 0)))) (.cons (.ife (.val (.cmp .Eq (.var 3) (.lit (.str "let")))) (.cons (.ret (.bin .Add (.bin .Add (.sl (.var 0) .no (.yes (.bin .Add (.lit (.int 2)) (.var 1)))) (.tup (.cons (.var 2) .nil))) (.sl (.var 0) (.yes (.bin .Add (.lit (.int 3)) (.var 1))) .no))) .nil) .nil) (.cons (.ife (.boo .And (.cons (.val (.cmp .Eq (.var 3) (.lit (.str "switch")))) (.cons (.val (.cmp .Gt (.var 1) (.lit (.int 0)))) .nil))) (.cons (.asg (.nm 4) (.idx (.idx (.idx (.var 0) (.lit (.int 2))) (.bin .Sub (.var 1) (.lit (.int 1)))) (.lit (.int 0)))) (.cons (.asg (.nm 5) (.bin .Add (.bin .Add (.sl (.idx (.var 0) (.lit (.int 2))) .no (.yes (.bin .Sub (.var 1) (.lit (.int 1))))) (.tup (.cons (.tup (.cons (.var 4) (.cons (.var 2) .nil))) .nil))) (.sl (.idx (.var 0) (.lit (.int 2))) (.yes (.var 1)) .no))) (.cons (.ret (.tup (.cons (.lit (.str "switch")) (.cons (.idx (.var 0) (.lit (.int 1))) (.cons (.var 5) (.cons (.idx (.var 0) (.lit (.int 3))) .nil)))))) .nil))) .nil) (.cons (.ife (.val (.cmp .Eq (.var 3) (.lit (.str "fn")))) (.cons (.ret (.tup (.cons (.lit (.str "fn")) (.cons (.idx (.var 0) (.lit (.int 1))) (.cons (.var 2) (.cons (.idx (.var 0) (.lit (.int 3))) .nil)))))) .nil) .nil) (.cons (.ife (.val (.cmp .In (.var 3) (.tup (.cons (.lit (.str "call")) (.cons (.lit (.str "data")) .nil))))) (.cons (.ret (.tup (.cons (.var 3) (.cons (.idx (.var 0) (.lit (.int 1))) (.cons (.bin .Add (.bin .Add (.sl (.idx (.var 0) (.lit (.int 2))) .no (.yes (.var 1))) (.tup (.cons (.var 2) .nil))) (.sl (.idx (.var 0) (.lit (.int 2))) (.yes (.bin .Add (.var 1) (.lit (.int 1)))) .no)) (.cons (.idx (.var 0) (.lit (.int 3))) .nil)))))) .nil) .nil) (.cons (.ife (.boo .And (.cons (.val (.cmp .Eq (.var 3) (.lit (.str "callby")))) (.cons (.val (.cmp .Gt (.var 1) (.lit (.int 0)))) .nil))) (.cons (.ret (.tup (.cons (.var 3) (.cons (.idx (.var 0) (.lit (.int 1))) (.cons (.bin .Add (.bin .Add (.sl (.idx (.var 0) (.lit (.int 2))) .no (.yes (.bin .Sub (.var 1) (.lit (.int 1))))) (.tup (.cons (.var 2) .nil))) (.sl (.idx (.var 0) (.lit (.int 2))) (.yes (.var 1)) .no)) (.cons (.idx (.var 0) (.lit (.int 3))) .nil)))))) .nil) .nil) (.cons (.ife (.val (.cmp .Eq (.var 3) (.lit (.str "op")))) (.cons (.ret (.bin .Add (.bin .Add (.sl (.var 0) .no (.yes (.bin .Add (.lit (.int 2)) (.var 1)))) (.tup (.cons (.var 2) .nil))) (.sl (.var 0) (.yes (.bin .Add (.lit (.int 3)) (.var 1))) .no))) .nil) .nil) (.cons (.ret (.bin .Add (.bin .Add (.sl (.var 0) .no (.yes (.bin .Add (.lit (.int 1)) (.var 1)))) (.tup (.cons (.var 2) .nil))) (.sl (.var 0) (.yes (.bin .Add (.lit (.int 2)) (.var 1))) .no))) .nil))))))))
def n_with_part : List Str := ["tree", "place", "part", "kind", "names", "branches"]
def b_at_path : ASs := (.cons (.for_ (.nm 2) (.it (.var 1)) (.cons (.asg (.nm 3) (.call 2 (.cons (.var 0) .nil))) (.cons (.ife (.not (.val (.cmp2 .LtE .Lt (.lit (.int 0)) (.var 2) (.bi .len (.cons (.var 3) .nil))))) (.cons (.ret (.lit .none)) .nil) .nil) (.cons (.asg (.nm 0) (.idx (.var 3) (.var 2))) .nil)))) (.cons (.ret (.var 0)) .nil))
def n_at_path : List Str := ["tree", "path", "place", "inner"]
def b_put_at : ASs := (.cons (.ife (.not (.val (.var 1))) (.cons (.ret (.var 2)) .nil) .nil) (.cons (.ret (.call 3 (.cons (.var 0) (.cons (.idx (.var 1) (.lit (.int 0))) (.cons (.call 5 (.cons (.idx (.call 2 (.cons (.var 0) .nil)) (.idx (.var 1) (.lit (.int 0)))) (.cons (.sl (.var 1) (.yes (.lit (.int 1))) .no) (.cons (.var 2) .nil)))) .nil))))) .nil))
def n_put_at : List Str := ["tree", "path", "part"]
def b_size : ASs := (.cons (.ret (.bin .Add (.lit (.int 1)) (.bi .sum (.cons (.lc [1] (.call 6 (.cons (.var 1) .nil)) (.nm 1) (.it (.call 2 (.cons (.var 0) .nil))) .nil) .nil)))) .nil)
def n_size : List Str := ["tree", "part"]
def b_uses : ASs := (.cons (.ife (.val (.cmp .Eq (.idx (.var 0) (.lit (.int 0))) (.lit (.str "local")))) (.cons (.ret (.bi .int (.cons (.cmp .Eq (.idx (.var 0) (.lit (.int 1))) (.var 1)) .nil))) .nil) .nil) (.cons (.ret (.bi .sum (.cons (.lc [2] (.call 7 (.cons (.var 2) (.cons (.var 1) .nil))) (.nm 2) (.it (.call 2 (.cons (.var 0) .nil))) .nil) .nil))) .nil))
def n_uses : List Str := ["tree", "name", "part"]
def b_replaced : ASs := (.cons (.ife (.val (.cmp .Eq (.idx (.var 0) (.lit (.int 0))) (.lit (.str "local")))) (.cons (.ret (.ife (.val (.cmp .Eq (.idx (.var 0) (.lit (.int 1))) (.var 1))) (.var 2) (.var 0))) .nil) .nil) (.cons (.for_ (.tp (.cons (.nm 3) (.cons (.nm 4) .nil))) (.enm (.call 2 (.cons (.var 0) .nil))) (.cons (.asg (.nm 0) (.call 3 (.cons (.var 0) (.cons (.var 3) (.cons (.call 8 (.cons (.var 4) (.cons (.var 1) (.cons (.var 2) .nil)))) .nil))))) .nil)) (.cons (.ret (.var 0)) .nil)))
def n_replaced : List Str := ["tree", "name", "value", "place", "part"]
def b_given : ASs := (.cons (.asg (.nm 1) (.ife (.val (.cmp .Eq (.idx (.var 0) (.lit (.int 0))) (.lit (.str "let")))) (.lst (.cons (.idx (.var 0) (.lit (.int 1))) .nil)) (.ife (.val (.cmp .Eq (.idx (.var 0) (.lit (.int 0))) (.lit (.str "fn")))) (.bi .list (.cons (.idx (.var 0) (.lit (.int 1))) .nil)) (.lst .nil)))) (.cons (.ife (.val (.cmp .Eq (.idx (.var 0) (.lit (.int 0))) (.lit (.str "switch")))) (.cons (.asgLc2 1 [4, 5, 2] [2] (.var 2) (.tp (.cons (.nm 4) (.cons (.nm 5) .nil))) (.it (.idx (.var 0) (.lit (.int 2)))) (.nm 2) (.it (.var 4))) .nil) .nil) (.cons (.ret (.bin .Add (.var 1) (.lc2 [3, 2] [2] (.var 2) (.nm 3) (.it (.call 2 (.cons (.var 0) .nil))) (.nm 2) (.it (.call 9 (.cons (.var 3) .nil)))))) .nil)))
def n_given : List Str := ["tree", "found", "name", "part", "names", "_"]
def b_renamed : ASs := (.cons (.asg (.nm 2) (.idx (.var 0) (.lit (.int 0)))) (.cons (.ife (.val (.cmp .Eq (.var 2) (.lit (.str "local")))) (.cons (.ret (.tup (.cons (.lit (.str "local")) (.cons (.get (.var 1) (.idx (.var 0) (.lit (.int 1))) (.idx (.var 0) (.lit (.int 1)))) (.cons (.idx (.var 0) (.lit (.int 2))) .nil))))) .nil) .nil) (.cons (.ife (.val (.cmp .Eq (.var 2) (.lit (.str "let")))) (.cons (.asg (.nm 0) (.bin .Add (.tup (.cons (.lit (.str "let")) (.cons (.get (.var 1) (.idx (.var 0) (.lit (.int 1))) (.idx (.var 0) (.lit (.int 1)))) .nil))) (.sl (.var 0) (.yes (.lit (.int 2))) .no))) .nil) (.cons (.ife (.val (.cmp .Eq (.var 2) (.lit (.str "fn")))) (.cons (.asg (.nm 0) (.bin .Add (.tup (.cons (.lit (.str "fn")) (.cons (.bi .tuple (.cons (.lc [8] (.get (.var 1) (.var 8) (.var 8)) (.nm 8) (.it (.idx (.var 0) (.lit (.int 1)))) .nil) .nil)) .nil))) (.sl (.var 0) (.yes (.lit (.int 2))) .no))) .nil) (.cons (.ife (.val (.cmp .Eq (.var 2) (.lit (.str "switch")))) (.cons (.asgLc 5 [6, 7] (.tup (.cons (.bi .tuple (.cons (.lc [8] (.get (.var 1) (.var 8) (.var 8)) (.nm 8) (.it (.var 6)) .nil) .nil)) (.cons (.var 7) .nil))) (.tp (.cons (.nm 6) (.cons (.nm 7) .nil))) (.it (.idx (.var 0) (.lit (.int 2)))) .nil) (.cons (.asg (.nm 0) (.tup (.cons (.lit (.str "switch")) (.cons (.idx (.var 0) (.lit (.int 1))) (.cons (.bi .tuple (.cons (.var 5) .nil)) (.cons (.idx (.var 0) (.lit (.int 3))) .nil)))))) .nil)) .nil) .nil)) .nil)) (.cons (.for_ (.tp (.cons (.nm 3) (.cons (.nm 4) .nil))) (.enm (.call 2 (.cons (.var 0) .nil))) (.cons (.asg (.nm 0) (.call 3 (.cons (.var 0) (.cons (.var 3) (.cons (.call 10 (.cons (.var 4) (.cons (.var 1) .nil))) .nil))))) .nil)) (.cons (.ret (.var 0)) .nil)))))
def n_renamed : List Str := ["tree", "names", "kind", "place", "part", "branches", "told", "body", "name"]
def b_lets : ASs := (.cons .nev (.cons (.ret (.var 2)) .nil))
def n_lets : List Str := ["names", "values", "body", "here", "name", "value"]
def b_is_value : ASs := (.cons (.ret (.boo .Or (.cons (.cmp .In (.idx (.var 0) (.lit (.int 0))) (.tup (.cons (.lit (.str "number")) (.cons (.lit (.str "local")) (.cons (.lit (.str "top")) (.cons (.lit (.str "fn")) .nil)))))) (.cons (.boo .And (.cons (.cmp .Eq (.idx (.var 0) (.lit (.int 0))) (.lit (.str "data"))) (.cons (.not (.idx (.var 0) (.lit (.int 2)))) .nil))) .nil)))) .nil)
def n_is_value : List Str := ["tree"]
def b_is_harmless : ASs := (.cons (.ife (.val (.cmp .In (.idx (.var 0) (.lit (.int 0))) (.tup (.cons (.lit (.str "data")) (.cons (.lit (.str "cell")) .nil))))) (.cons (.ret (.cmp .NotIn (.lit (.bool false)) (.lc [1] (.call 13 (.cons (.var 1) .nil)) (.nm 1) (.it (.call 0 (.cons (.var 0) .nil))) .nil))) .nil) .nil) (.cons (.ret (.call 12 (.cons (.var 0) .nil))) .nil))
def n_is_harmless : List Str := ["tree", "part"]
def b_known_switch : ASs := (.cons (.ife (.boo .And (.cons (.val (.cmp .Eq (.idx (.var 0) (.lit (.int 0))) (.lit (.str "switch")))) (.cons (.val (.cmp .Eq (.idx (.idx (.var 0) (.lit (.int 1))) (.lit (.int 0))) (.lit (.str "data")))) .nil))) (.cons (.asg (.tp (.cons (.nm 3) (.cons (.nm 4) .nil))) (.idx (.idx (.var 0) (.lit (.int 2))) (.idx (.idx (.var 0) (.lit (.int 1))) (.lit (.int 1))))) (.cons (.ret (.call 11 (.cons (.var 3) (.cons (.idx (.idx (.var 0) (.lit (.int 1))) (.lit (.int 2))) (.cons (.var 4) (.cons (.idx (.var 0) (.lit (.int 3))) .nil)))))) .nil)) .nil) (.cons (.ret (.lit .none)) .nil))
def n_known_switch : List Str := ["tree", "functions", "first", "names", "body"]
def b_value_put_in : ASs := (.cons (.ife (.boo .And (.cons (.val (.cmp .Eq (.idx (.var 0) (.lit (.int 0))) (.lit (.str "let")))) (.cons (.val (.call 12 (.cons (.idx (.var 0) (.lit (.int 2))) .nil))) (.cons (.boo .Or (.cons (.val (.cmp .NotEq (.idx (.idx (.var 0) (.lit (.int 2))) (.lit (.int 0))) (.lit (.str "fn")))) (.cons (.val (.cmp .Eq (.call 7 (.cons (.idx (.var 0) (.lit (.int 3))) (.cons (.idx (.var 0) (.lit (.int 1))) .nil))) (.lit (.int 1)))) .nil))) .nil)))) (.cons (.ret (.call 8 (.cons (.idx (.var 0) (.lit (.int 3))) (.cons (.idx (.var 0) (.lit (.int 1))) (.cons (.idx (.var 0) (.lit (.int 2))) .nil))))) .nil) .nil) (.cons (.ret (.lit .none)) .nil))
def n_value_put_in : List Str := ["tree", "functions", "first"]
def b_left_out : ASs := (.cons (.ife (.boo .And (.cons (.val (.cmp .Eq (.idx (.var 0) (.lit (.int 0))) (.lit (.str "let")))) (.cons (.val (.call 13 (.cons (.idx (.var 0) (.lit (.int 2))) .nil))) (.cons (.val (.cmp .Eq (.call 7 (.cons (.idx (.var 0) (.lit (.int 3))) (.cons (.idx (.var 0) (.lit (.int 1))) .nil))) (.lit (.int 0)))) .nil)))) (.cons (.ret (.idx (.var 0) (.lit (.int 3)))) .nil) .nil) (.cons (.ret (.lit .none)) .nil))
def n_left_out : List Str := ["tree", "functions", "first"]
def b_call_put_in : ASs := (.cons (.ife (.boo .Or (.cons (.val (.cmp .NotEq (.idx (.var 0) (.lit (.int 0))) (.lit (.str "call")))) (.cons (.val (.cmp .NotIn (.idx (.var 0) (.lit (.int 1))) (.var 1))) .nil))) (.cons (.ret (.lit .none)) .nil) .nil) (.cons (.asg (.tp (.cons (.nm 4) (.cons (.nm 5) .nil))) (.sl (.idx (.var 1) (.idx (.var 0) (.lit (.int 1)))) (.yes (.lit (.int 2))) (.yes (.lit (.int 4))))) (.cons .nev (.cons (.ret (.call 11 (.cons (.lc [7] (.idx (.var 3) (.var 7)) (.nm 7) (.it (.var 4)) .nil) (.cons (.idx (.var 0) (.lit (.int 2))) (.cons (.call 10 (.cons (.var 5) (.cons (.var 3) .nil))) (.cons (.idx (.var 0) (.lit (.int 3))) .nil)))))) .nil))))
def n_call_put_in : List Str := ["tree", "functions", "first", "names", "params", "body", "k", "name"]
def b_known_function : ASs := (.cons (.ife (.boo .And (.cons (.val (.cmp .Eq (.idx (.var 0) (.lit (.int 0))) (.lit (.str "callby")))) (.cons (.val (.cmp .Eq (.idx (.idx (.var 0) (.lit (.int 1))) (.lit (.int 0))) (.lit (.str "top")))) .nil))) (.cons (.ret (.tup (.cons (.lit (.str "call")) (.cons (.idx (.idx (.var 0) (.lit (.int 1))) (.lit (.int 1))) (.cons (.idx (.var 0) (.lit (.int 2))) (.cons (.idx (.var 0) (.lit (.int 3))) .nil)))))) .nil) .nil) (.cons (.ife (.boo .And (.cons (.val (.cmp .Eq (.idx (.var 0) (.lit (.int 0))) (.lit (.str "callby")))) (.cons (.val (.cmp .Eq (.idx (.idx (.var 0) (.lit (.int 1))) (.lit (.int 0))) (.lit (.str "fn")))) .nil))) (.cons (.ret (.call 11 (.cons (.idx (.idx (.var 0) (.lit (.int 1))) (.lit (.int 1))) (.cons (.idx (.var 0) (.lit (.int 2))) (.cons (.idx (.idx (.var 0) (.lit (.int 1))) (.lit (.int 2))) (.cons (.idx (.var 0) (.lit (.int 3))) .nil)))))) .nil) .nil) (.cons (.ret (.lit .none)) .nil)))
def n_known_function : List Str := ["tree", "functions", "first"]
def b_number_reckoned : ASs := (.cons (.ife (.boo .Or (.cons (.val (.cmp .NotEq (.idx (.var 0) (.lit (.int 0))) (.lit (.str "op")))) (.cons (.val (.cmp .NotEq (.idx (.idx (.var 0) (.lit (.int 2))) (.lit (.int 0))) (.lit (.str "number")))) (.cons (.val (.cmp .NotEq (.idx (.idx (.var 0) (.lit (.int 3))) (.lit (.int 0))) (.lit (.str "number")))) .nil)))) (.cons (.ret (.lit .none)) .nil) .nil) (.cons .nev .nil))
def n_number_reckoned : List Str := ["tree", "functions", "first"]
def b_let_of_let : ASs := (.cons (.ife (.boo .And (.cons (.val (.cmp .Eq (.idx (.var 0) (.lit (.int 0))) (.lit (.str "let")))) (.cons (.val (.cmp .Eq (.idx (.idx (.var 0) (.lit (.int 2))) (.lit (.int 0))) (.lit (.str "let")))) .nil))) (.cons (.asg (.nm 3) (.idx (.var 0) (.lit (.int 2)))) (.cons (.ret (.tup (.cons (.lit (.str "let")) (.cons (.idx (.var 3) (.lit (.int 1))) (.cons (.idx (.var 3) (.lit (.int 2))) (.cons (.tup (.cons (.lit (.str "let")) (.cons (.idx (.var 0) (.lit (.int 1))) (.cons (.idx (.var 3) (.lit (.int 3))) (.cons (.idx (.var 0) (.lit (.int 3))) (.cons (.idx (.var 0) (.lit (.int 4))) .nil)))))) (.cons (.idx (.var 3) (.lit (.int 4))) .nil))))))) .nil)) .nil) (.cons (.ret (.lit .none)) .nil))
def n_let_of_let : List Str := ["tree", "functions", "first", "inner"]
def b_switch_of_let : ASs := (.cons (.ife (.boo .And (.cons (.val (.cmp .Eq (.idx (.var 0) (.lit (.int 0))) (.lit (.str "switch")))) (.cons (.val (.cmp .Eq (.idx (.idx (.var 0) (.lit (.int 1))) (.lit (.int 0))) (.lit (.str "let")))) .nil))) (.cons (.asg (.nm 3) (.idx (.var 0) (.lit (.int 1)))) (.cons (.ret (.tup (.cons (.lit (.str "let")) (.cons (.idx (.var 3) (.lit (.int 1))) (.cons (.idx (.var 3) (.lit (.int 2))) (.cons (.tup (.cons (.lit (.str "switch")) (.cons (.idx (.var 3) (.lit (.int 3))) (.cons (.idx (.var 0) (.lit (.int 2))) (.cons (.idx (.var 0) (.lit (.int 3))) .nil))))) (.cons (.idx (.var 3) (.lit (.int 4))) .nil))))))) .nil)) .nil) (.cons (.ret (.lit .none)) .nil))
def n_switch_of_let : List Str := ["tree", "functions", "first", "inner"]
def b_again : ASs := (.cons (.ife (.boo .And (.cons (.val (.cmp .Eq (.idx (.var 0) (.lit (.int 0))) (.lit (.str "switch")))) (.cons (.val (.cmp .Eq (.sl (.idx (.var 0) (.lit (.int 1))) .no (.yes (.lit (.int 2)))) (.tup (.cons (.lit (.str "local")) (.cons (.var 1) .nil))))) .nil))) (.cons (.asg (.tp (.cons (.nm 7) (.cons (.nm 8) .nil))) (.idx (.idx (.var 0) (.lit (.int 2))) (.var 3))) (.cons (.asgLc 4 [9] (.tup (.cons (.lit (.str "local")) (.cons (.var 9) (.cons (.idx (.var 0) (.lit (.int 3))) .nil)))) (.nm 9) (.it (.var 2)) .nil) (.cons (.ret (.call 22 (.cons (.call 11 (.cons (.var 7) (.cons (.var 4) (.cons (.var 8) (.cons (.idx (.var 0) (.lit (.int 3))) .nil))))) (.cons (.var 1) (.cons (.var 2) (.cons (.var 3) .nil)))))) .nil))) .nil) (.cons (.for_ (.tp (.cons (.nm 5) (.cons (.nm 6) .nil))) (.enm (.call 2 (.cons (.var 0) .nil))) (.cons (.asg (.nm 0) (.call 3 (.cons (.var 0) (.cons (.var 5) (.cons (.call 22 (.cons (.var 6) (.cons (.var 1) (.cons (.var 2) (.cons (.var 3) .nil))))) .nil))))) .nil)) (.cons (.ret (.var 0)) .nil)))
def n_again : List Str := ["tree", "name", "names", "place", "values", "k", "part", "others", "body", "other"]
def b_switch_again : ASs := (.cons (.ife (.boo .Or (.cons (.val (.cmp .NotEq (.idx (.var 0) (.lit (.int 0))) (.lit (.str "switch")))) (.cons (.val (.cmp .NotEq (.idx (.idx (.var 0) (.lit (.int 1))) (.lit (.int 0))) (.lit (.str "local")))) .nil))) (.cons (.ret (.lit .none)) .nil) .nil) (.cons (.asg (.nm 3) (.idx (.idx (.var 0) (.lit (.int 1))) (.lit (.int 1)))) (.cons (.asgLc 4 [6, 7, 8] (.tup (.cons (.var 7) (.cons (.call 22 (.cons (.var 8) (.cons (.var 3) (.cons (.var 7) (.cons (.var 6) .nil))))) .nil))) (.tp (.cons (.nm 6) (.cons (.tp (.cons (.nm 7) (.cons (.nm 8) .nil))) .nil))) (.enm (.idx (.var 0) (.lit (.int 2)))) .nil) (.cons (.asg (.nm 5) (.tup (.cons (.lit (.str "switch")) (.cons (.idx (.var 0) (.lit (.int 1))) (.cons (.bi .tuple (.cons (.var 4) .nil)) (.cons (.idx (.var 0) (.lit (.int 3))) .nil)))))) (.cons (.ret (.ife (.val (.cmp .Eq (.var 5) (.var 0))) (.lit .none) (.var 5))) .nil)))))
def n_switch_again : List Str := ["tree", "functions", "first", "name", "branches", "told", "place", "names", "body"]
def b_first_free : ASs := (.cons (.ret (.bin .Add (.bi .max (.cons (.bin .Add (.bin .Add (.lst (.cons (.bin .Sub (.bi .len (.cons (.idx (.var 0) (.lit (.int 4))) .nil)) (.lit (.int 1))) .nil)) (.bi .list (.cons (.idx (.var 0) (.lit (.int 2))) .nil))) (.call 9 (.cons (.idx (.var 0) (.lit (.int 3))) .nil))) .nil)) (.lit (.int 1)))) .nil)
def n_first_free : List Str := ["function"]
def b_stepped : ASs := (.cons (.ife (.boo .Or (.cons (.not (.val (.isi "tuple" (.var 1)))) (.cons (.val (.cmp .NotEq (.bi .len (.cons (.var 1) .nil)) (.lit (.int 3)))) (.cons (.not (.val (.isi "str" (.idx (.var 1) (.lit (.int 0)))))) (.cons (.val (.cmp .NotIn (.idx (.var 1) (.lit (.int 0))) (.var 0))) .nil))))) (.cons (.ret (.lit .none)) .nil) .nil) (.cons (.asg (.tp (.cons (.nm 7) (.cons (.nm 8) (.cons (.nm 9) .nil)))) (.var 1)) (.cons (.ife (.boo .Or (.cons (.not (.val (.isi "tuple" (.var 8)))) (.cons (.val (.cmp .In (.lit (.bool true)) (.lc [10] (.isi "bool" (.var 10)) (.nm 10) (.it (.var 8)) .nil))) .nil))) (.cons (.ret (.lit .none)) .nil) .nil) (.cons (.ife (.val (.cmp .In (.lit (.bool false)) (.lc [10] (.boo .And (.cons (.isi "int" (.var 10)) (.cons (.cmp .GtE (.var 10) (.lit (.int 0))) .nil))) (.nm 10) (.it (.var 8)) .nil))) (.cons (.ret (.lit .none)) .nil) .nil) (.cons (.asg (.nm 2) (.idx (.var 0) (.var 7))) (.cons (.asg (.nm 3) (.call 4 (.cons (.idx (.var 2) (.lit (.int 3))) (.cons (.var 8) .nil)))) (.cons (.ife (.boo .Or (.cons (.val (.cmp .Is (.var 3) (.lit .none))) (.cons (.not (.val (.isi "str" (.var 9)))) (.cons (.val (.tin true "RULES" tab_RULES (.var 9))) .nil)))) (.cons (.ret (.lit .none)) .nil) .nil) (.cons (.asg (.nm 4) (.tab "RULES" tab_RULES (.var 9) (.cons (.var 3) (.cons (.var 0) (.cons (.call 24 (.cons (.var 2) .nil)) .nil))))) (.cons (.ife (.val (.cmp .Is (.var 4) (.lit .none))) (.cons (.ret (.lit .none)) .nil) .nil) (.cons (.asg (.nm 5) (.call 5 (.cons (.idx (.var 2) (.lit (.int 3))) (.cons (.var 8) (.cons (.var 4) .nil))))) (.cons (.ife (.val (.cmp .Gt (.call 6 (.cons (.var 5) .nil)) (.gint "MOST_PARTS" 400))) (.cons (.ret (.lit .none)) .nil) .nil) (.cons (.asg (.nm 6) (.bi .dict (.cons (.var 0) .nil))) (.cons (.set (.var 6) (.var 7) (.bin .Add (.bin .Add (.sl (.var 2) .no (.yes (.lit (.int 3)))) (.tup (.cons (.var 5) .nil))) (.sl (.var 2) (.yes (.lit (.int 4))) .no))) (.cons (.ret (.var 6)) .nil))))))))))))))
def n_stepped : List Str := ["functions", "step", "function", "part", "told", "body", "more", "name", "path", "rule", "place"]
def b__law_next : ASs := (.cons (.ife (.boo .And (.cons (.val (.cmp .Eq (.idx (.var 0) (.lit (.int 2))) (.lit (.int 0)))) (.cons (.val (.cmp .Lt (.idx (.var 0) (.lit (.int 1))) (.bi .len (.cons (.idx (.var 0) (.lit (.int 0))) .nil)))) .nil))) (.cons (.asg (.nm 2) (.idx (.idx (.var 0) (.lit (.int 0))) (.idx (.var 0) (.lit (.int 1))))) (.cons (.augI (.var 0) (.lit (.int 1)) .Add (.lit (.int 1))) (.cons (.ife (.val (.cmp .GtE (.var 2) (.bin .Pow (.lit (.int 10)) (.lit (.int 18))))) (.cons (.set (.var 0) (.lit (.int 2)) (.var 2)) .nil) (.cons (.set (.var 0) (.lit (.int 3)) (.bin .Mod (.bi .int (.cons (.bin .Add (.bin .Add (.bin .Mult (.idx (.var 0) (.lit (.int 3))) (.lit (.int 48271))) (.bin .Mod (.bi .int (.cons (.var 2) .nil)) (.lit (.int 2147483647)))) (.lit (.int 7))) .nil)) (.lit (.int 2147483647)))) .nil)) .nil))) .nil) (.cons (.ife (.val (.cmp .Gt (.idx (.var 0) (.lit (.int 2))) (.lit (.int 0)))) (.cons (.asg (.nm 3) (.bin .Mod (.bi .int (.cons (.idx (.var 0) (.lit (.int 2))) .nil)) (.var 1))) (.cons (.set (.var 0) (.lit (.int 2)) (.bin .FloorDiv (.idx (.var 0) (.lit (.int 2))) (.var 1))) (.cons (.ret (.var 3)) .nil))) .nil) (.cons (.set (.var 0) (.lit (.int 3)) (.bin .Mod (.bi .int (.cons (.bin .Add (.bin .Mult (.idx (.var 0) (.lit (.int 3))) (.lit (.int 69621))) (.lit (.int 12345))) .nil)) (.lit (.int 2147483647)))) (.cons (.ret (.bin .Mod (.bi .int (.cons (.bin .FloorDiv (.idx (.var 0) (.lit (.int 3))) (.lit (.int 7))) .nil)) (.var 1))) .nil))))
def n__law_next : List Str := ["state", "limit", "cell", "value"]
def b__law_here : ASs := (.cons (.augI (.var 0) (.lit (.str "at")) .Add (.lit (.int 1))) (.cons (.ret (.tup (.cons (.lit (.str "m.f")) (.cons (.idx (.var 0) (.lit (.str "at"))) .nil)))) .nil))
def n__law_here : List Str := ["bag"]
def b__law_new : ASs := (.cons (.augI (.var 0) (.lit (.str "count")) .Add (.lit (.int 1))) (.cons (.ret (.bin .Sub (.idx (.var 0) (.lit (.str "count"))) (.lit (.int 1)))) .nil))
def n__law_new : List Str := ["bag"]
def b__law_small : ASs := (.cons (.asgLc 4 [5, 6] (.var 5) (.tp (.cons (.nm 5) (.cons (.nm 6) .nil))) (.it (.var 2)) (.cons (.val (.cmp .Eq (.var 6) (.var 3))) .nil)) (.cons (.ife (.boo .And (.cons (.val (.cmp .NotEq (.var 4) (.lst .nil))) (.cons (.val (.cmp .Gt (.call 26 (.cons (.var 0) (.cons (.lit (.int 3)) .nil))) (.lit (.int 0)))) .nil))) (.cons (.ret (.tup (.cons (.lit (.str "local")) (.cons (.idx (.var 4) (.call 26 (.cons (.var 0) (.cons (.bi .len (.cons (.var 4) .nil)) .nil)))) (.cons (.call 27 (.cons (.var 1) .nil)) .nil))))) .nil) .nil) (.cons (.ife (.val (.cmp .Eq (.var 3) (.lit (.str "int")))) (.cons (.ret (.tup (.cons (.lit (.str "number")) (.cons (.idx (.lst (.cons (.lit (.int 0)) (.cons (.lit (.int 1)) (.cons (.lit (.int 2)) (.cons (.lit (.int 7)) (.cons (.neg (.lit (.int 3))) (.cons (.lit (.int 1073741823)) (.cons (.neg (.lit (.int 1073741824))) .nil)))))))) (.call 26 (.cons (.var 0) (.cons (.lit (.int 7)) .nil)))) (.cons (.call 27 (.cons (.var 1) .nil)) .nil))))) .nil) .nil) (.cons (.ife (.val (.cmp .Eq (.var 3) (.lit (.str "cell")))) (.cons (.ret (.tup (.cons (.lit (.str "cell")) (.cons (.tup (.cons (.lit (.str "number")) (.cons (.call 26 (.cons (.var 0) (.cons (.lit (.int 9)) .nil))) (.cons (.call 27 (.cons (.var 1) .nil)) .nil)))) (.cons (.call 27 (.cons (.var 1) .nil)) .nil))))) .nil) .nil) (.cons (.ife (.val (.cmp .Eq (.var 3) (.lit (.str "fn")))) (.cons (.ret (.tup (.cons (.lit (.str "top")) (.cons (.lit (.str "m.h")) (.cons (.call 27 (.cons (.var 1) .nil)) .nil))))) .nil) .nil) (.cons (.ret (.tup (.cons (.lit (.str "data")) (.cons (.ife (.val (.cmp .Eq (.var 3) (.lit (.str "bool")))) (.call 26 (.cons (.var 0) (.cons (.lit (.int 2)) .nil))) (.lit (.int 0))) (.cons (.tup .nil) (.cons (.call 27 (.cons (.var 1) .nil)) .nil)))))) .nil))))))
def n__law_small : List Str := ["state", "bag", "local", "kind", "names", "name", "told"]
def b__law_core : ASs := (.cons (.asg (.nm 5) (.call 26 (.cons (.var 0) (.cons (.lit (.int 8)) .nil)))) (.cons (.ife (.boo .Or (.cons (.val (.cmp .Eq (.var 4) (.lit (.int 0)))) (.cons (.val (.cmp .Eq (.var 5) (.lit (.int 0)))) .nil))) (.cons (.ret (.call 29 (.cons (.var 0) (.cons (.var 1) (.cons (.var 2) (.cons (.var 3) .nil)))))) .nil) .nil) (.cons (.ife (.val (.cmp .Eq (.var 5) (.lit (.int 1)))) (.cons (.asg (.nm 6) (.idx (.lst (.cons (.lit (.str "int")) (.cons (.lit (.str "bool")) (.cons (.lit (.str "list")) (.cons (.lit (.str "cell")) (.cons (.lit (.str "fn")) .nil)))))) (.call 26 (.cons (.var 0) (.cons (.lit (.int 5)) .nil))))) (.cons (.asg (.nm 7) (.call 30 (.cons (.var 0) (.cons (.var 1) (.cons (.var 2) (.cons (.var 6) (.cons (.bin .Sub (.var 4) (.lit (.int 1))) .nil))))))) (.cons (.asg (.nm 8) (.call 28 (.cons (.var 1) .nil))) (.cons (.ret (.tup (.cons (.lit (.str "let")) (.cons (.var 8) (.cons (.var 7) (.cons (.call 30 (.cons (.var 0) (.cons (.var 1) (.cons (.bin .Add (.var 2) (.lst (.cons (.tup (.cons (.var 8) (.cons (.var 6) .nil))) .nil))) (.cons (.var 3) (.cons (.bin .Sub (.var 4) (.lit (.int 1))) .nil)))))) (.cons (.call 27 (.cons (.var 1) .nil)) .nil))))))) .nil)))) .nil) (.cons (.ife (.val (.cmp .Eq (.var 5) (.lit (.int 2)))) (.cons (.asg (.nm 9) (.call 30 (.cons (.var 0) (.cons (.var 1) (.cons (.var 2) (.cons (.lit (.str "bool")) (.cons (.bin .Sub (.var 4) (.lit (.int 1))) .nil))))))) (.cons (.ret (.tup (.cons (.lit (.str "switch")) (.cons (.var 9) (.cons (.call 31 (.cons (.var 0) (.cons (.var 1) (.cons (.var 2) (.cons (.lit (.str "bool")) (.cons (.var 3) (.cons (.var 4) .nil))))))) (.cons (.call 27 (.cons (.var 1) .nil)) .nil)))))) .nil)) .nil) (.cons (.ife (.val (.cmp .Eq (.var 5) (.lit (.int 3)))) (.cons (.asg (.nm 9) (.call 30 (.cons (.var 0) (.cons (.var 1) (.cons (.var 2) (.cons (.lit (.str "list")) (.cons (.bin .Sub (.var 4) (.lit (.int 1))) .nil))))))) (.cons (.ret (.tup (.cons (.lit (.str "switch")) (.cons (.var 9) (.cons (.call 31 (.cons (.var 0) (.cons (.var 1) (.cons (.var 2) (.cons (.lit (.str "list")) (.cons (.var 3) (.cons (.var 4) .nil))))))) (.cons (.call 27 (.cons (.var 1) .nil)) .nil)))))) .nil)) .nil) (.cons (.ife (.val (.cmp .Eq (.var 5) (.lit (.int 4)))) (.cons (.asg (.nm 10) (.tup (.cons (.lit (.str "print")) (.cons (.call 30 (.cons (.var 0) (.cons (.var 1) (.cons (.var 2) (.cons (.lit (.str "int")) (.cons (.bin .Sub (.var 4) (.lit (.int 1))) .nil)))))) (.cons (.call 27 (.cons (.var 1) .nil)) .nil))))) (.cons (.ife (.val (.cmp .Eq (.call 26 (.cons (.var 0) (.cons (.lit (.int 2)) .nil))) (.lit (.int 0)))) (.cons (.asg (.nm 11) (.call 30 (.cons (.var 0) (.cons (.var 1) (.cons (.var 2) (.cons (.lit (.str "cell")) (.cons (.bin .Sub (.var 4) (.lit (.int 1))) .nil))))))) (.cons (.asg (.nm 10) (.tup (.cons (.lit (.str "write")) (.cons (.var 11) (.cons (.call 30 (.cons (.var 0) (.cons (.var 1) (.cons (.var 2) (.cons (.lit (.str "int")) (.cons (.bin .Sub (.var 4) (.lit (.int 1))) .nil)))))) (.cons (.call 27 (.cons (.var 1) .nil)) .nil)))))) .nil)) .nil) (.cons (.ret (.tup (.cons (.lit (.str "let")) (.cons (.call 28 (.cons (.var 1) .nil)) (.cons (.var 10) (.cons (.call 30 (.cons (.var 0) (.cons (.var 1) (.cons (.var 2) (.cons (.var 3) (.cons (.bin .Sub (.var 4) (.lit (.int 1))) .nil)))))) (.cons (.call 27 (.cons (.var 1) .nil)) .nil))))))) .nil))) .nil) (.cons (.ret (.call 32 (.cons (.var 0) (.cons (.var 1) (.cons (.var 2) (.cons (.var 3) (.cons (.var 4) .nil))))))) .nil)))))))
def n__law_core : List Str := ["state", "bag", "local", "kind", "depth", "pick", "other", "value", "name", "asked", "first", "one"]
def b__law_branches : ASs := (.cons (.asg (.nm 6) (.tup (.cons (.tup .nil) (.cons (.call 30 (.cons (.var 0) (.cons (.var 1) (.cons (.var 2) (.cons (.var 4) (.cons (.bin .Sub (.var 5) (.lit (.int 1))) .nil)))))) .nil)))) (.cons (.asg (.nm 7) (.ife (.val (.cmp .Eq (.var 3) (.lit (.str "bool")))) (.lst .nil) (.lst (.cons (.tup (.cons (.call 28 (.cons (.var 1) .nil)) (.cons (.lit (.str "int")) .nil))) (.cons (.tup (.cons (.call 28 (.cons (.var 1) .nil)) (.cons (.lit (.str "list")) .nil))) .nil))))) (.cons (.ret (.tup (.cons (.var 6) (.cons (.tup (.cons (.bi .tuple (.cons (.lc [8, 9] (.var 8) (.tp (.cons (.nm 8) (.cons (.nm 9) .nil))) (.it (.var 7)) .nil) .nil)) (.cons (.call 30 (.cons (.var 0) (.cons (.var 1) (.cons (.bin .Add (.var 2) (.var 7)) (.cons (.var 4) (.cons (.bin .Sub (.var 5) (.lit (.int 1))) .nil)))))) .nil))) .nil)))) .nil)))
def n__law_branches : List Str := ["state", "bag", "local", "asked", "kind", "depth", "first", "more", "name", "told"]
def b__law_made : ASs := (.cons (.ife (.val (.cmp .Eq (.var 3) (.lit (.str "bool")))) (.cons (.asg2 7 8 (.call 30 (.cons (.var 0) (.cons (.var 1) (.cons (.var 2) (.cons (.lit (.str "int")) (.cons (.bin .Sub (.var 4) (.lit (.int 1))) .nil)))))) (.call 30 (.cons (.var 0) (.cons (.var 1) (.cons (.var 2) (.cons (.lit (.str "int")) (.cons (.bin .Sub (.var 4) (.lit (.int 1))) .nil))))))) (.cons (.ret (.tup (.cons (.lit (.str "op")) (.cons (.idx (.lst (.cons (.lit (.str "<")) (.cons (.lit (.str "=")) .nil))) (.call 26 (.cons (.var 0) (.cons (.lit (.int 2)) .nil)))) (.cons (.var 7) (.cons (.var 8) (.cons (.call 27 (.cons (.var 1) .nil)) .nil))))))) .nil)) .nil) (.cons (.ife (.val (.cmp .Eq (.var 3) (.lit (.str "list")))) (.cons (.asg2 7 8 (.call 30 (.cons (.var 0) (.cons (.var 1) (.cons (.var 2) (.cons (.lit (.str "int")) (.cons (.bin .Sub (.var 4) (.lit (.int 1))) .nil)))))) (.call 30 (.cons (.var 0) (.cons (.var 1) (.cons (.var 2) (.cons (.lit (.str "list")) (.cons (.bin .Sub (.var 4) (.lit (.int 1))) .nil))))))) (.cons (.ret (.tup (.cons (.lit (.str "data")) (.cons (.lit (.int 1)) (.cons (.tup (.cons (.var 7) (.cons (.var 8) .nil))) (.cons (.call 27 (.cons (.var 1) .nil)) .nil)))))) .nil)) .nil) (.cons (.ife (.val (.cmp .Eq (.var 3) (.lit (.str "cell")))) (.cons (.ret (.tup (.cons (.lit (.str "cell")) (.cons (.call 30 (.cons (.var 0) (.cons (.var 1) (.cons (.var 2) (.cons (.lit (.str "int")) (.cons (.bin .Sub (.var 4) (.lit (.int 1))) .nil)))))) (.cons (.call 27 (.cons (.var 1) .nil)) .nil))))) .nil) .nil) (.cons (.ife (.val (.cmp .Eq (.var 3) (.lit (.str "fn")))) (.cons (.asg (.nm 6) (.call 28 (.cons (.var 1) .nil))) (.cons (.ret (.tup (.cons (.lit (.str "fn")) (.cons (.tup (.cons (.var 6) .nil)) (.cons (.call 30 (.cons (.var 0) (.cons (.var 1) (.cons (.bin .Add (.var 2) (.lst (.cons (.tup (.cons (.var 6) (.cons (.lit (.str "int")) .nil))) .nil))) (.cons (.lit (.str "int")) (.cons (.bin .Sub (.var 4) (.lit (.int 1))) .nil)))))) (.cons (.call 27 (.cons (.var 1) .nil)) .nil)))))) .nil)) .nil) (.cons (.asg (.nm 5) (.call 26 (.cons (.var 0) (.cons (.lit (.int 5)) .nil)))) (.cons (.ife (.val (.cmp .Eq (.var 5) (.lit (.int 0)))) (.cons (.ret (.tup (.cons (.lit (.str "read")) (.cons (.call 30 (.cons (.var 0) (.cons (.var 1) (.cons (.var 2) (.cons (.lit (.str "cell")) (.cons (.bin .Sub (.var 4) (.lit (.int 1))) .nil)))))) (.cons (.call 27 (.cons (.var 1) .nil)) .nil))))) .nil) .nil) (.cons (.ife (.val (.cmp .Eq (.var 5) (.lit (.int 1)))) (.cons (.asg (.nm 7) (.call 30 (.cons (.var 0) (.cons (.var 1) (.cons (.var 2) (.cons (.lit (.str "fn")) (.cons (.bin .Sub (.var 4) (.lit (.int 1))) .nil))))))) (.cons (.ret (.tup (.cons (.lit (.str "callby")) (.cons (.var 7) (.cons (.tup (.cons (.call 30 (.cons (.var 0) (.cons (.var 1) (.cons (.var 2) (.cons (.lit (.str "int")) (.cons (.bin .Sub (.var 4) (.lit (.int 1))) .nil)))))) .nil)) (.cons (.call 27 (.cons (.var 1) .nil)) .nil)))))) .nil)) .nil) (.cons (.ife (.val (.cmp .Eq (.var 5) (.lit (.int 2)))) (.cons (.asg2 7 8 (.call 30 (.cons (.var 0) (.cons (.var 1) (.cons (.var 2) (.cons (.lit (.str "int")) (.cons (.bin .Sub (.var 4) (.lit (.int 1))) .nil)))))) (.call 30 (.cons (.var 0) (.cons (.var 1) (.cons (.var 2) (.cons (.lit (.str "list")) (.cons (.bin .Sub (.var 4) (.lit (.int 1))) .nil))))))) (.cons (.ret (.tup (.cons (.lit (.str "call")) (.cons (.lit (.str "m.g")) (.cons (.tup (.cons (.var 7) (.cons (.var 8) .nil))) (.cons (.call 27 (.cons (.var 1) .nil)) .nil)))))) .nil)) .nil) (.cons (.asg2 7 8 (.call 30 (.cons (.var 0) (.cons (.var 1) (.cons (.var 2) (.cons (.lit (.str "int")) (.cons (.bin .Sub (.var 4) (.lit (.int 1))) .nil)))))) (.call 30 (.cons (.var 0) (.cons (.var 1) (.cons (.var 2) (.cons (.lit (.str "int")) (.cons (.bin .Sub (.var 4) (.lit (.int 1))) .nil))))))) (.cons (.ret (.tup (.cons (.lit (.str "op")) (.cons (.idx (.lst (.cons (.lit (.str "+")) (.cons (.lit (.str "-")) (.cons (.lit (.str "*")) (.cons (.lit (.str "/")) (.cons (.lit (.str "mod")) .nil)))))) (.call 26 (.cons (.var 0) (.cons (.lit (.int 5)) .nil)))) (.cons (.var 7) (.cons (.var 8) (.cons (.call 27 (.cons (.var 1) .nil)) .nil))))))) .nil))))))))))
def n__law_made : List Str := ["state", "bag", "local", "kind", "depth", "pick", "name", "one", "other"]
def b__law_around : ASs := (.cons (.ife (.val (.cmp .Eq (.var 4) (.lit (.int 0)))) (.cons (.set (.var 1) (.lit (.str "hole")) (.tup (.cons (.var 3) (.cons (.var 2) .nil)))) (.cons (.ret (.tup (.cons (.lit (.str "hole")) .nil))) .nil)) .nil) (.cons (.asg (.nm 5) (.call 26 (.cons (.var 0) (.cons (.lit (.int 6)) .nil)))) (.cons (.ife (.val (.cmp .Eq (.var 5) (.lit (.int 0)))) (.cons (.asg (.nm 6) (.idx (.lst (.cons (.lit (.str "int")) (.cons (.lit (.str "bool")) (.cons (.lit (.str "list")) (.cons (.lit (.str "fn")) .nil))))) (.call 26 (.cons (.var 0) (.cons (.lit (.int 4)) .nil))))) (.cons (.asg (.nm 7) (.call 33 (.cons (.var 0) (.cons (.var 1) (.cons (.var 2) (.cons (.var 6) (.cons (.bin .Sub (.var 4) (.lit (.int 1))) .nil))))))) (.cons (.asg (.nm 8) (.call 28 (.cons (.var 1) .nil))) (.cons (.ret (.tup (.cons (.lit (.str "let")) (.cons (.var 8) (.cons (.var 7) (.cons (.call 30 (.cons (.var 0) (.cons (.var 1) (.cons (.bin .Add (.var 2) (.lst (.cons (.tup (.cons (.var 8) (.cons (.var 6) .nil))) .nil))) (.cons (.var 3) (.cons (.lit (.int 2)) .nil)))))) (.cons (.call 27 (.cons (.var 1) .nil)) .nil))))))) .nil)))) .nil) (.cons (.ife (.val (.cmp .Eq (.var 5) (.lit (.int 1)))) (.cons (.asg (.nm 6) (.idx (.lst (.cons (.lit (.str "int")) (.cons (.lit (.str "bool")) (.cons (.lit (.str "list")) (.cons (.lit (.str "cell")) .nil))))) (.call 26 (.cons (.var 0) (.cons (.lit (.int 4)) .nil))))) (.cons (.asg (.nm 7) (.call 30 (.cons (.var 0) (.cons (.var 1) (.cons (.var 2) (.cons (.var 6) (.cons (.lit (.int 2)) .nil))))))) (.cons (.asg (.nm 8) (.call 28 (.cons (.var 1) .nil))) (.cons (.ret (.tup (.cons (.lit (.str "let")) (.cons (.var 8) (.cons (.var 7) (.cons (.call 33 (.cons (.var 0) (.cons (.var 1) (.cons (.bin .Add (.var 2) (.lst (.cons (.tup (.cons (.var 8) (.cons (.var 6) .nil))) .nil))) (.cons (.var 3) (.cons (.bin .Sub (.var 4) (.lit (.int 1))) .nil)))))) (.cons (.call 27 (.cons (.var 1) .nil)) .nil))))))) .nil)))) .nil) (.cons (.ife (.val (.cmp .Eq (.var 5) (.lit (.int 2)))) (.cons (.asg (.nm 9) (.idx (.lst (.cons (.lit (.str "bool")) (.cons (.lit (.str "list")) .nil))) (.call 26 (.cons (.var 0) (.cons (.lit (.int 2)) .nil))))) (.cons (.asg (.nm 7) (.call 33 (.cons (.var 0) (.cons (.var 1) (.cons (.var 2) (.cons (.var 9) (.cons (.bin .Sub (.var 4) (.lit (.int 1))) .nil))))))) (.cons (.ret (.tup (.cons (.lit (.str "switch")) (.cons (.var 7) (.cons (.call 31 (.cons (.var 0) (.cons (.var 1) (.cons (.var 2) (.cons (.var 9) (.cons (.var 3) (.cons (.lit (.int 2)) .nil))))))) (.cons (.call 27 (.cons (.var 1) .nil)) .nil)))))) .nil))) .nil) (.cons (.ife (.val (.cmp .Eq (.var 5) (.lit (.int 3)))) (.cons (.asg (.nm 9) (.call 30 (.cons (.var 0) (.cons (.var 1) (.cons (.var 2) (.cons (.lit (.str "list")) (.cons (.lit (.int 1)) .nil))))))) (.cons (.asg (.nm 10) (.lst (.cons (.tup (.cons (.call 28 (.cons (.var 1) .nil)) (.cons (.lit (.str "int")) .nil))) (.cons (.tup (.cons (.call 28 (.cons (.var 1) .nil)) (.cons (.lit (.str "list")) .nil))) .nil)))) (.cons (.asg (.nm 11) (.bi .tuple (.cons (.lc [8, 13] (.var 8) (.tp (.cons (.nm 8) (.cons (.nm 13) .nil))) (.it (.var 10)) .nil) .nil))) (.cons (.ife (.val (.cmp .Eq (.call 26 (.cons (.var 0) (.cons (.lit (.int 2)) .nil))) (.lit (.int 0)))) (.cons (.asg (.nm 12) (.tup (.cons (.tup .nil) (.cons (.call 33 (.cons (.var 0) (.cons (.var 1) (.cons (.var 2) (.cons (.var 3) (.cons (.bin .Sub (.var 4) (.lit (.int 1))) .nil)))))) .nil)))) (.cons (.ret (.tup (.cons (.lit (.str "switch")) (.cons (.var 9) (.cons (.tup (.cons (.var 12) (.cons (.tup (.cons (.var 11) (.cons (.call 30 (.cons (.var 0) (.cons (.var 1) (.cons (.bin .Add (.var 2) (.var 10)) (.cons (.var 3) (.cons (.lit (.int 1)) .nil)))))) .nil))) .nil))) (.cons (.call 27 (.cons (.var 1) .nil)) .nil)))))) .nil)) .nil) (.cons (.asg (.nm 12) (.tup (.cons (.tup .nil) (.cons (.call 30 (.cons (.var 0) (.cons (.var 1) (.cons (.var 2) (.cons (.var 3) (.cons (.lit (.int 1)) .nil)))))) .nil)))) (.cons (.ret (.tup (.cons (.lit (.str "switch")) (.cons (.var 9) (.cons (.tup (.cons (.var 12) (.cons (.tup (.cons (.var 11) (.cons (.call 33 (.cons (.var 0) (.cons (.var 1) (.cons (.bin .Add (.var 2) (.var 10)) (.cons (.var 3) (.cons (.bin .Sub (.var 4) (.lit (.int 1))) .nil)))))) .nil))) .nil))) (.cons (.call 27 (.cons (.var 1) .nil)) .nil)))))) .nil)))))) .nil) (.cons (.ret (.call 34 (.cons (.var 0) (.cons (.var 1) (.cons (.var 2) (.cons (.var 3) (.cons (.var 4) .nil))))))) .nil)))))))
def n__law_around : List Str := ["state", "bag", "local", "kind", "depth", "pick", "other", "value", "name", "asked", "more", "names", "first", "told"]
def b__law_around_made : ASs := (.cons (.ife (.val (.cmp .Eq (.var 3) (.lit (.str "bool")))) (.cons (.asg (.nm 6) (.call 33 (.cons (.var 0) (.cons (.var 1) (.cons (.var 2) (.cons (.lit (.str "int")) (.cons (.bin .Sub (.var 4) (.lit (.int 1))) .nil))))))) (.cons (.ret (.tup (.cons (.lit (.str "op")) (.cons (.lit (.str "<")) (.cons (.call 30 (.cons (.var 0) (.cons (.var 1) (.cons (.var 2) (.cons (.lit (.str "int")) (.cons (.lit (.int 1)) .nil)))))) (.cons (.var 6) (.cons (.call 27 (.cons (.var 1) .nil)) .nil))))))) .nil)) .nil) (.cons (.ife (.val (.cmp .Eq (.var 3) (.lit (.str "list")))) (.cons (.asg (.nm 6) (.call 33 (.cons (.var 0) (.cons (.var 1) (.cons (.var 2) (.cons (.lit (.str "int")) (.cons (.bin .Sub (.var 4) (.lit (.int 1))) .nil))))))) (.cons (.ret (.tup (.cons (.lit (.str "data")) (.cons (.lit (.int 1)) (.cons (.tup (.cons (.var 6) (.cons (.call 30 (.cons (.var 0) (.cons (.var 1) (.cons (.var 2) (.cons (.lit (.str "list")) (.cons (.lit (.int 1)) .nil)))))) .nil))) (.cons (.call 27 (.cons (.var 1) .nil)) .nil)))))) .nil)) .nil) (.cons (.ife (.val (.cmp .Eq (.var 3) (.lit (.str "cell")))) (.cons (.ret (.tup (.cons (.lit (.str "cell")) (.cons (.call 33 (.cons (.var 0) (.cons (.var 1) (.cons (.var 2) (.cons (.lit (.str "int")) (.cons (.bin .Sub (.var 4) (.lit (.int 1))) .nil)))))) (.cons (.call 27 (.cons (.var 1) .nil)) .nil))))) .nil) .nil) (.cons (.ife (.val (.cmp .Eq (.var 3) (.lit (.str "fn")))) (.cons (.asg (.nm 7) (.call 28 (.cons (.var 1) .nil))) (.cons (.ret (.tup (.cons (.lit (.str "fn")) (.cons (.tup (.cons (.var 7) .nil)) (.cons (.call 33 (.cons (.var 0) (.cons (.var 1) (.cons (.bin .Add (.var 2) (.lst (.cons (.tup (.cons (.var 7) (.cons (.lit (.str "int")) .nil))) .nil))) (.cons (.lit (.str "int")) (.cons (.bin .Sub (.var 4) (.lit (.int 1))) .nil)))))) (.cons (.call 27 (.cons (.var 1) .nil)) .nil)))))) .nil)) .nil) (.cons (.asg (.nm 5) (.call 26 (.cons (.var 0) (.cons (.lit (.int 4)) .nil)))) (.cons (.ife (.val (.cmp .Eq (.var 5) (.lit (.int 0)))) (.cons (.asg (.nm 6) (.call 33 (.cons (.var 0) (.cons (.var 1) (.cons (.var 2) (.cons (.lit (.str "list")) (.cons (.bin .Sub (.var 4) (.lit (.int 1))) .nil))))))) (.cons (.ret (.tup (.cons (.lit (.str "call")) (.cons (.lit (.str "m.g")) (.cons (.tup (.cons (.call 30 (.cons (.var 0) (.cons (.var 1) (.cons (.var 2) (.cons (.lit (.str "int")) (.cons (.lit (.int 1)) .nil)))))) (.cons (.var 6) .nil))) (.cons (.call 27 (.cons (.var 1) .nil)) .nil)))))) .nil)) .nil) (.cons (.ife (.val (.cmp .Eq (.var 5) (.lit (.int 1)))) (.cons (.asg (.nm 6) (.call 33 (.cons (.var 0) (.cons (.var 1) (.cons (.var 2) (.cons (.lit (.str "fn")) (.cons (.bin .Sub (.var 4) (.lit (.int 1))) .nil))))))) (.cons (.ret (.tup (.cons (.lit (.str "callby")) (.cons (.var 6) (.cons (.tup (.cons (.call 30 (.cons (.var 0) (.cons (.var 1) (.cons (.var 2) (.cons (.lit (.str "int")) (.cons (.lit (.int 1)) .nil)))))) .nil)) (.cons (.call 27 (.cons (.var 1) .nil)) .nil)))))) .nil)) .nil) (.cons (.ife (.val (.cmp .Eq (.var 5) (.lit (.int 2)))) (.cons (.ret (.tup (.cons (.lit (.str "read")) (.cons (.call 33 (.cons (.var 0) (.cons (.var 1) (.cons (.var 2) (.cons (.lit (.str "cell")) (.cons (.bin .Sub (.var 4) (.lit (.int 1))) .nil)))))) (.cons (.call 27 (.cons (.var 1) .nil)) .nil))))) .nil) .nil) (.cons (.asg (.nm 6) (.call 33 (.cons (.var 0) (.cons (.var 1) (.cons (.var 2) (.cons (.lit (.str "int")) (.cons (.bin .Sub (.var 4) (.lit (.int 1))) .nil))))))) (.cons (.ret (.tup (.cons (.lit (.str "op")) (.cons (.lit (.str "-")) (.cons (.var 6) (.cons (.call 30 (.cons (.var 0) (.cons (.var 1) (.cons (.var 2) (.cons (.lit (.str "int")) (.cons (.lit (.int 1)) .nil)))))) (.cons (.call 27 (.cons (.var 1) .nil)) .nil))))))) .nil))))))))))
def n__law_around_made : List Str := ["state", "bag", "local", "kind", "depth", "pick", "one", "name"]
def b__law_parts : ASs := (.cons (.asg (.nm 1) (.idx (.var 0) (.lit (.int 0)))) (.cons (.ife (.val (.cmp .In (.var 1) (.lst (.cons (.lit (.str "number")) (.cons (.lit (.str "local")) (.cons (.lit (.str "top")) (.cons (.lit (.str "hole")) .nil))))))) (.cons (.ret (.lst .nil)) .nil) .nil) (.cons (.ife (.val (.cmp .Eq (.var 1) (.lit (.str "let")))) (.cons (.ret (.lst (.cons (.idx (.var 0) (.lit (.int 2))) (.cons (.idx (.var 0) (.lit (.int 3))) .nil)))) .nil) .nil) (.cons (.ife (.val (.cmp .Eq (.var 1) (.lit (.str "switch")))) (.cons (.ret (.bin .Add (.lst (.cons (.idx (.var 0) (.lit (.int 1))) .nil)) (.lc [2, 3] (.var 3) (.tp (.cons (.nm 2) (.cons (.nm 3) .nil))) (.it (.idx (.var 0) (.lit (.int 2)))) .nil))) .nil) .nil) (.cons (.ife (.val (.cmp .Eq (.var 1) (.lit (.str "fn")))) (.cons (.ret (.lst (.cons (.idx (.var 0) (.lit (.int 2))) .nil))) .nil) .nil) (.cons (.ife (.val (.cmp .Eq (.var 1) (.lit (.str "callby")))) (.cons (.ret (.bin .Add (.lst (.cons (.idx (.var 0) (.lit (.int 1))) .nil)) (.bi .list (.cons (.idx (.var 0) (.lit (.int 2))) .nil)))) .nil) .nil) (.cons (.ife (.val (.cmp .In (.var 1) (.lst (.cons (.lit (.str "call")) (.cons (.lit (.str "data")) .nil))))) (.cons (.ret (.bi .list (.cons (.idx (.var 0) (.lit (.int 2))) .nil))) .nil) .nil) (.cons (.ife (.val (.cmp .Eq (.var 1) (.lit (.str "op")))) (.cons (.ret (.lst (.cons (.idx (.var 0) (.lit (.int 2))) (.cons (.idx (.var 0) (.lit (.int 3))) .nil)))) .nil) .nil) (.cons (.ret (.ife (.val (.cmp .Eq (.var 1) (.lit (.str "write")))) (.lst (.cons (.idx (.var 0) (.lit (.int 1))) (.cons (.idx (.var 0) (.lit (.int 2))) .nil))) (.lst (.cons (.idx (.var 0) (.lit (.int 1))) .nil)))) .nil)))))))))
def n__law_parts : List Str := ["tree", "kind", "names", "body"]
def b__law_with_parts : ASs := (.cons (.asg (.nm 2) (.idx (.var 0) (.lit (.int 0)))) (.cons (.ife (.val (.cmp .In (.var 2) (.lst (.cons (.lit (.str "number")) (.cons (.lit (.str "local")) (.cons (.lit (.str "top")) (.cons (.lit (.str "hole")) .nil))))))) (.cons (.ret (.var 0)) .nil) .nil) (.cons (.ife (.val (.cmp .Eq (.var 2) (.lit (.str "let")))) (.cons (.ret (.tup (.cons (.lit (.str "let")) (.cons (.idx (.var 0) (.lit (.int 1))) (.cons (.idx (.var 1) (.lit (.int 0))) (.cons (.idx (.var 1) (.lit (.int 1))) (.cons (.idx (.var 0) (.lit (.int 4))) .nil))))))) .nil) .nil) (.cons (.ife (.val (.cmp .Eq (.var 2) (.lit (.str "switch")))) (.cons (.asgLc 3 [4, 5, 6] (.tup (.cons (.var 5) (.cons (.var 4) .nil))) (.tp (.cons (.tp (.cons (.nm 5) (.cons (.nm 6) .nil))) (.cons (.nm 4) .nil))) (.zip (.idx (.var 0) (.lit (.int 2))) (.sl (.var 1) (.yes (.lit (.int 1))) .no)) .nil) (.cons (.ret (.tup (.cons (.lit (.str "switch")) (.cons (.idx (.var 1) (.lit (.int 0))) (.cons (.bi .tuple (.cons (.var 3) .nil)) (.cons (.idx (.var 0) (.lit (.int 3))) .nil)))))) .nil)) .nil) (.cons (.ife (.val (.cmp .Eq (.var 2) (.lit (.str "fn")))) (.cons (.ret (.tup (.cons (.lit (.str "fn")) (.cons (.idx (.var 0) (.lit (.int 1))) (.cons (.idx (.var 1) (.lit (.int 0))) (.cons (.idx (.var 0) (.lit (.int 3))) .nil)))))) .nil) .nil) (.cons (.ife (.val (.cmp .Eq (.var 2) (.lit (.str "callby")))) (.cons (.ret (.tup (.cons (.lit (.str "callby")) (.cons (.idx (.var 1) (.lit (.int 0))) (.cons (.bi .tuple (.cons (.sl (.var 1) (.yes (.lit (.int 1))) .no) .nil)) (.cons (.idx (.var 0) (.lit (.int 3))) .nil)))))) .nil) .nil) (.cons (.ife (.val (.cmp .In (.var 2) (.lst (.cons (.lit (.str "call")) (.cons (.lit (.str "data")) .nil))))) (.cons (.ret (.tup (.cons (.var 2) (.cons (.idx (.var 0) (.lit (.int 1))) (.cons (.bi .tuple (.cons (.var 1) .nil)) (.cons (.idx (.var 0) (.lit (.int 3))) .nil)))))) .nil) .nil) (.cons (.ife (.val (.cmp .Eq (.var 2) (.lit (.str "op")))) (.cons (.ret (.tup (.cons (.lit (.str "op")) (.cons (.idx (.var 0) (.lit (.int 1))) (.cons (.idx (.var 1) (.lit (.int 0))) (.cons (.idx (.var 1) (.lit (.int 1))) (.cons (.idx (.var 0) (.lit (.int 4))) .nil))))))) .nil) .nil) (.cons (.ret (.bin .Add (.bin .Add (.tup (.cons (.var 2) .nil)) (.bi .tuple (.cons (.var 1) .nil))) (.sl (.var 0) (.yes (.neg (.lit (.int 1)))) .no))) .nil)))))))))
def n__law_with_parts : List Str := ["tree", "found", "kind", "branches", "body", "names", "old"]
def b__law_filled : ASs := (.cons (.ife (.val (.cmp .Eq (.idx (.var 0) (.lit (.int 0))) (.lit (.str "hole")))) (.cons (.ret (.var 1)) .nil) .nil) (.cons (.ret (.call 36 (.cons (.var 0) (.cons (.lc [2] (.call 37 (.cons (.var 2) (.cons (.var 1) .nil))) (.nm 2) (.it (.call 35 (.cons (.var 0) .nil))) .nil) .nil)))) .nil))
def n__law_filled : List Str := ["tree", "part", "inner"]
def b__law_path : ASs := (.cons (.ife (.val (.cmp .Eq (.idx (.var 0) (.lit (.int 0))) (.lit (.str "hole")))) (.cons (.ret (.tup .nil)) .nil) .nil) (.cons (.for_ (.tp (.cons (.nm 1) (.cons (.nm 2) .nil))) (.enm (.call 35 (.cons (.var 0) .nil))) (.cons (.asg (.nm 3) (.call 38 (.cons (.var 2) .nil))) (.cons (.ife (.val (.cmp .IsNot (.var 3) (.lit .none))) (.cons (.ret (.bin .Add (.tup (.cons (.var 1) .nil)) (.var 3))) .nil) .nil) .nil))) (.cons (.ret (.lit .none)) .nil)))
def n__law_path : List Str := ["tree", "place", "inner", "told"]
def b__law_size : ASs := (.cons (.ret (.bin .Add (.lit (.int 1)) (.bi .sum (.cons (.lc [1] (.call 39 (.cons (.var 1) .nil)) (.nm 1) (.it (.call 35 (.cons (.var 0) .nil))) .nil) .nil)))) .nil)
def n__law_size : List Str := ["tree", "inner"]
def b__law_bag : ASs := (.cons (.ret (.ndc ["at", "count", "hole"] (.cons (.lit (.int 0)) (.cons (.lit (.int 2)) (.cons (.lit .none) .nil))))) .nil)
def n__law_bag : List Str := []
def b__law_functions_of : ASs := (.cons (.asg (.nm 2) (.bi .tuple (.cons (.lc [6] (.tup (.cons (.lit (.str "")) (.cons (.tup (.cons (.lit (.str "word")) (.cons (.lit (.str "int")) (.cons (.tup .nil) .nil)))) .nil))) (.nm 6) (.rng (.idx (.var 0) (.lit (.str "count")))) .nil) .nil))) (.cons (.asg (.nm 3) (.tup (.cons (.lit (.str "m.g")) (.cons (.lit (.int 1)) .nil)))) (.cons (.asg (.nm 4) (.tup (.cons (.lit (.str "op")) (.cons (.lit (.str "+")) (.cons (.tup (.cons (.lit (.str "local")) (.cons (.lit (.int 0)) (.cons (.var 3) .nil)))) (.cons (.tup (.cons (.lit (.str "number")) (.cons (.lit (.int 1)) (.cons (.tup (.cons (.lit (.str "m.g")) (.cons (.lit (.int 2)) .nil))) .nil)))) (.cons (.tup (.cons (.lit (.str "m.g")) (.cons (.lit (.int 3)) .nil))) .nil))))))) (.cons (.asg (.nm 5) (.ndc ["m.f", "m.g"] (.cons (.tup (.cons (.lit (.str "core")) (.cons (.lit (.str "m.f")) (.cons (.tup (.cons (.lit (.int 0)) (.cons (.lit (.int 1)) .nil))) (.cons (.var 1) (.cons (.var 2) .nil)))))) (.cons (.tup (.cons (.lit (.str "core")) (.cons (.lit (.str "m.g")) (.cons (.tup (.cons (.lit (.int 0)) (.cons (.lit (.int 1)) .nil))) (.cons (.var 4) (.cons (.sl (.var 2) .no (.yes (.lit (.int 2)))) .nil)))))) .nil)))) (.cons (.set (.var 5) (.lit (.str "m.h")) (.tup (.cons (.lit (.str "core")) (.cons (.lit (.str "m.h")) (.cons (.tup (.cons (.lit (.int 0)) .nil)) (.cons (.tup (.cons (.lit (.str "local")) (.cons (.lit (.int 0)) (.cons (.tup (.cons (.lit (.str "m.h")) (.cons (.lit (.int 1)) .nil))) .nil)))) (.cons (.sl (.var 2) .no (.yes (.lit (.int 1)))) .nil))))))) (.cons (.ret (.var 5)) .nil))))))
def n__law_functions_of : List Str := ["bag", "body", "told", "here", "plus", "found", "k"]
def b__law_told : ASs := (.cons (.ret (.ife (.val (.cmp .Is (.var 0) (.lit .none))) (.lit .none) (.told (.var 0)))) .nil)
def n__law_told : List Str := ["functions"]
def b__law_is_step : ASs := (.cons (.asg (.nm 5) (.lst (.cons (.lit (.str "known switch")) (.cons (.lit (.str "value put in")) (.cons (.lit (.str "left out")) (.cons (.lit (.str "call put in")) (.cons (.lit (.str "known function")) (.cons (.lit (.str "number reckoned")) (.cons (.lit (.str "let of let")) .nil))))))))) (.cons (.asg (.nm 6) (.call 42 (.cons (.var 0) .nil))) (.cons (.asg (.nm 7) (.lit .none)) (.cons (.ife (.boo .And (.cons (.val (.cmp .IsNot (.var 3) (.lit .none))) (.cons (.val (.cmp .LtE (.call 39 (.cons (.var 3) .nil)) (.lit (.int 400)))) .nil))) (.cons (.asg (.nm 7) (.bi .dict (.cons (.var 0) .nil))) (.cons (.set (.var 7) (.lit (.str "m.f")) (.bin .Add (.bin .Add (.sl (.idx (.var 0) (.lit (.str "m.f"))) .no (.yes (.lit (.int 3)))) (.tup (.cons (.var 3) .nil))) (.sl (.idx (.var 0) (.lit (.str "m.f"))) (.yes (.lit (.int 4))) .no))) .nil)) .nil) (.cons (.ife (.val (.cmp .NotEq (.call 42 (.cons (.call 25 (.cons (.var 0) (.cons (.tup (.cons (.lit (.str "m.f")) (.cons (.var 1) (.cons (.var 2) .nil)))) .nil))) .nil)) (.call 42 (.cons (.var 7) .nil)))) (.cons (.ret (.lit (.bool false))) .nil) .nil) (.cons (.for_ (.nm 8) (.it (.bin .Add (.var 5) (.lst (.cons (.lit (.str "switch of let")) (.cons (.lit (.str "switch again")) .nil))))) (.cons (.ife (.boo .And (.cons (.val (.cmp .NotEq (.var 8) (.var 2))) (.cons (.val (.cmp .NotIn (.var 8) (.var 4))) (.cons (.val (.cmp .IsNot (.call 25 (.cons (.var 0) (.cons (.tup (.cons (.lit (.str "m.f")) (.cons (.var 1) (.cons (.var 8) .nil)))) .nil))) (.lit .none))) .nil)))) (.cons (.ret (.lit (.bool false))) .nil) .nil) .nil)) (.cons (.ret (.cmp .Eq (.call 42 (.cons (.var 0) .nil)) (.var 6))) .nil)))))))
def n__law_is_step : List Str := ["functions", "path", "rule", "due", "also", "rules", "before", "more", "other"]
def Pc : List PDef := PDef.mk 1 2 b_strict_parts :: PDef.mk 3 4 b_reckoned :: PDef.mk 1 4 b_parts :: PDef.mk 3 6 b_with_part :: PDef.mk 2 4 b_at_path :: PDef.mk 3 3 b_put_at :: PDef.mk 1 2 b_size :: PDef.mk 2 3 b_uses :: PDef.mk 3 5 b_replaced :: PDef.mk 1 6 b_given :: PDef.mk 2 9 b_renamed :: PDef.mk 4 6 b_lets :: PDef.mk 1 1 b_is_value :: PDef.mk 1 2 b_is_harmless :: PDef.mk 3 5 b_known_switch :: PDef.mk 3 3 b_value_put_in :: PDef.mk 3 3 b_left_out :: PDef.mk 3 8 b_call_put_in :: PDef.mk 3 3 b_known_function :: PDef.mk 3 3 b_number_reckoned :: PDef.mk 3 4 b_let_of_let :: PDef.mk 3 4 b_switch_of_let :: PDef.mk 4 10 b_again :: PDef.mk 3 9 b_switch_again :: PDef.mk 1 1 b_first_free :: PDef.mk 2 11 b_stepped :: PDef.mk 2 4 b__law_next :: PDef.mk 1 1 b__law_here :: PDef.mk 1 1 b__law_new :: PDef.mk 4 7 b__law_small :: PDef.mk 5 12 b__law_core :: PDef.mk 6 10 b__law_branches :: PDef.mk 5 9 b__law_made :: PDef.mk 5 14 b__law_around :: PDef.mk 5 8 b__law_around_made :: PDef.mk 1 4 b__law_parts :: PDef.mk 2 7 b__law_with_parts :: PDef.mk 2 3 b__law_filled :: PDef.mk 1 4 b__law_path :: PDef.mk 1 2 b__law_size :: PDef.mk 0 0 b__law_bag :: PDef.mk 2 7 b__law_functions_of :: []
/-- with _law_told and _law_is_step behind them -/
def Rs (R : List PDef) : List PDef := PDef.mk 1 1 b__law_told :: PDef.mk 5 9 b__law_is_step :: R
end Pl

namespace Pl
open PySem
inductive L0 where
  | num (n h : Int) | loc (x h : Int) | top (h : Int) | hole | dat (n h : Int)
inductive L1 where
  | fn (x h : Int) | read (h : Int) | cell (h : Int) | print (h : Int)
inductive L2t where
  | lets (x h : Int) | callby (h : Int) | call (h : Int) | dat (h : Int) | op (s : Str) (h : Int) | write (h : Int)
inductive Nm where
  | z | one (a : Int) | two (a b : Int)
def Nm.list : Nm → List Int
  | .z => [] | .one a => [a] | .two a b => [a, b]
inductive L3 where
  | sw (n1 n2 : Nm) (h : Int)
inductive T where
  | n0 (l : L0) | n1 (l : L1) (a : T) | n2 (l : L2t) (a b : T) | n3 (l : L3) (a b c : T)
def at_ (h : Int) : D := .tup [.str "m.f", .int h]
def intsD (l : Nm) : D := .tup (l.list.map .int)
def enc0 : L0 → D
  | .num n h => .tup [.str "number", .int n, at_ h]
  | .loc x h => .tup [.str "local", .int x, at_ h]
  | .top h => .tup [.str "top", .str "m.h", at_ h]
  | .hole => .tup [.str "hole"]
  | .dat n h => .tup [.str "data", .int n, .tup [], at_ h]
def enc1 : L1 → D → D
  | .fn x h, a => .tup [.str "fn", .tup [.int x], a, at_ h]
  | .read h, a => .tup [.str "read", a, at_ h]
  | .cell h, a => .tup [.str "cell", a, at_ h]
  | .print h, a => .tup [.str "print", a, at_ h]
def enc2 : L2t → D → D → D
  | .lets x h, a, b => .tup [.str "let", .int x, a, b, at_ h]
  | .callby h, a, b => .tup [.str "callby", a, .tup [b], at_ h]
  | .call h, a, b => .tup [.str "call", .str "m.g", .tup [a, b], at_ h]
  | .dat h, a, b => .tup [.str "data", .int 1, .tup [a, b], at_ h]
  | .op s h, a, b => .tup [.str "op", .str s, a, b, at_ h]
  | .write h, a, b => .tup [.str "write", a, b, at_ h]
def enc3 : L3 → D → D → D → D
  | .sw n1 n2 h, a, b, c => .tup [.str "switch", a, .tup [.tup [intsD n1, b], .tup [intsD n2, c]], at_ h]
def enc : T → D
  | .n0 l => enc0 l
  | .n1 l a => enc1 l (enc a)
  | .n2 l a b => enc2 l (enc a) (enc b)
  | .n3 l a b c => enc3 l (enc a) (enc b) (enc c)
section
variable (R : List PDef) (n : Nat) (μ : Mu)
theorem parts0 (l : L0) : callF (Pc ++ R) (n + 2) 2 [enc0 l] μ = some (.tup [], μ) := by cases l <;> kernel_rfl
theorem parts1 (l : L1) (a : D) : callF (Pc ++ R) (n + 2) 2 [enc1 l a] μ = some (.tup [a], μ) := by cases l <;> kernel_rfl
theorem parts2 (l : L2t) (a b : D) : callF (Pc ++ R) (n + 2) 2 [enc2 l a b] μ = some (.tup [a, b], μ) := by cases l <;> kernel_rfl
theorem parts3 (l : L3) (a b c : D) : callF (Pc ++ R) (n + 2) 2 [enc3 l a b c] μ = some (.tup [a, b, c], μ) := by cases l <;> kernel_rfl
end
def T.ht : T → Nat
  | .n0 _ => 0
  | .n1 _ a => a.ht + 1
  | .n2 _ a b => max a.ht b.ht + 1
  | .n3 _ a b c => max a.ht (max b.ht c.ht) + 1
def T.size : T → Nat
  | .n0 _ => 1
  | .n1 _ a => a.size + 1
  | .n2 _ a b => a.size + b.size + 1
  | .n3 _ a b c => a.size + b.size + c.size + 1
def T.fill : T → T → T
  | .n0 .hole, s => s
  | .n0 l, _ => .n0 l
  | .n1 l a, s => .n1 l (a.fill s)
  | .n2 l a b, s => .n2 l (a.fill s) (b.fill s)
  | .n3 l a b c, s => .n3 l (a.fill s) (b.fill s) (c.fill s)
def T.holes : T → Nat
  | .n0 .hole => 1
  | .n0 _ => 0
  | .n1 _ a => a.holes
  | .n2 _ a b => a.holes + b.holes
  | .n3 _ a b c => a.holes + b.holes + c.holes
def orP (i : Nat) (o rest : Option (List Nat)) : Option (List Nat) := match o with
  | some p => some (i :: p)
  | none => rest
/-- the way to the first hole -/
def T.path : T → Option (List Nat)
  | .n0 .hole => some []
  | .n0 _ => none
  | .n1 _ a => a.path.map (0 :: ·)
  | .n2 _ a b => orP 0 a.path (b.path.map (1 :: ·))
  | .n3 _ a b c => orP 0 a.path (orP 1 b.path (c.path.map (2 :: ·)))
def T.at : T → List Nat → Option T
  | t, [] => some t
  | .n1 _ a, 0 :: p => a.at p
  | .n2 _ a _, 0 :: p => a.at p
  | .n2 _ _ b, 1 :: p => b.at p
  | .n3 _ a _ _, 0 :: p => a.at p
  | .n3 _ _ b _, 1 :: p => b.at p
  | .n3 _ _ _ c, 2 :: p => c.at p
  | _, _ => none
def T.put : T → List Nat → T → Option T
  | _, [], s => some s
  | .n1 l a, 0 :: p, s => (a.put p s).map (.n1 l)
  | .n2 l a b, 0 :: p, s => (a.put p s).map fun x => .n2 l x b
  | .n2 l a b, 1 :: p, s => (b.put p s).map fun x => .n2 l a x
  | .n3 l a b c, 0 :: p, s => (a.put p s).map fun x => .n3 l x b c
  | .n3 l a b c, 1 :: p, s => (b.put p s).map fun x => .n3 l a x c
  | .n3 l a b c, 2 :: p, s => (c.put p s).map fun x => .n3 l a b x
  | _, _, _ => none
abbrev RQ : Type := Option (D × Mu)
def retK (r : Fl × En × Mu) : RQ := match r.1 with
  | .nx => some (.non, r.2.2)
  | .rt v => some (v, r.2.2)
  | _ => none
theorem cf_strict_parts (R : List PDef) (n : Nat) (μ : Mu) (d0 : D) : callF (Pc ++ R) (n + 1) 0 [d0] μ = (evSs (callF (Pc ++ R) n) b_strict_parts [some d0, none] μ).bind retK := by kernel_rfl
theorem cf_reckoned (R : List PDef) (n : Nat) (μ : Mu) (d0 d1 d2 : D) : callF (Pc ++ R) (n + 1) 1 [d0, d1, d2] μ = (evSs (callF (Pc ++ R) n) b_reckoned [some d0, some d1, some d2, none] μ).bind retK := by kernel_rfl
theorem cf_parts (R : List PDef) (n : Nat) (μ : Mu) (d0 : D) : callF (Pc ++ R) (n + 1) 2 [d0] μ = (evSs (callF (Pc ++ R) n) b_parts [some d0, none, none, none] μ).bind retK := by kernel_rfl
theorem cf_with_part (R : List PDef) (n : Nat) (μ : Mu) (d0 d1 d2 : D) : callF (Pc ++ R) (n + 1) 3 [d0, d1, d2] μ = (evSs (callF (Pc ++ R) n) b_with_part [some d0, some d1, some d2, none, none, none] μ).bind retK := by kernel_rfl
theorem cf_at_path (R : List PDef) (n : Nat) (μ : Mu) (d0 d1 : D) : callF (Pc ++ R) (n + 1) 4 [d0, d1] μ = (evSs (callF (Pc ++ R) n) b_at_path [some d0, some d1, none, none] μ).bind retK := by kernel_rfl
theorem cf_put_at (R : List PDef) (n : Nat) (μ : Mu) (d0 d1 d2 : D) : callF (Pc ++ R) (n + 1) 5 [d0, d1, d2] μ = (evSs (callF (Pc ++ R) n) b_put_at [some d0, some d1, some d2] μ).bind retK := by kernel_rfl
theorem cf_size (R : List PDef) (n : Nat) (μ : Mu) (d0 : D) : callF (Pc ++ R) (n + 1) 6 [d0] μ = (evSs (callF (Pc ++ R) n) b_size [some d0, none] μ).bind retK := by kernel_rfl
theorem cf_uses (R : List PDef) (n : Nat) (μ : Mu) (d0 d1 : D) : callF (Pc ++ R) (n + 1) 7 [d0, d1] μ = (evSs (callF (Pc ++ R) n) b_uses [some d0, some d1, none] μ).bind retK := by kernel_rfl
theorem cf_replaced (R : List PDef) (n : Nat) (μ : Mu) (d0 d1 d2 : D) : callF (Pc ++ R) (n + 1) 8 [d0, d1, d2] μ = (evSs (callF (Pc ++ R) n) b_replaced [some d0, some d1, some d2, none, none] μ).bind retK := by kernel_rfl
theorem cf_given (R : List PDef) (n : Nat) (μ : Mu) (d0 : D) : callF (Pc ++ R) (n + 1) 9 [d0] μ = (evSs (callF (Pc ++ R) n) b_given [some d0, none, none, none, none, none] μ).bind retK := by kernel_rfl
theorem cf_renamed (R : List PDef) (n : Nat) (μ : Mu) (d0 d1 : D) : callF (Pc ++ R) (n + 1) 10 [d0, d1] μ = (evSs (callF (Pc ++ R) n) b_renamed [some d0, some d1, none, none, none, none, none, none, none] μ).bind retK := by kernel_rfl
theorem cf_lets (R : List PDef) (n : Nat) (μ : Mu) (d0 d1 d2 d3 : D) : callF (Pc ++ R) (n + 1) 11 [d0, d1, d2, d3] μ = (evSs (callF (Pc ++ R) n) b_lets [some d0, some d1, some d2, some d3, none, none] μ).bind retK := by kernel_rfl
theorem cf_is_value (R : List PDef) (n : Nat) (μ : Mu) (d0 : D) : callF (Pc ++ R) (n + 1) 12 [d0] μ = (evSs (callF (Pc ++ R) n) b_is_value [some d0] μ).bind retK := by kernel_rfl
theorem cf_is_harmless (R : List PDef) (n : Nat) (μ : Mu) (d0 : D) : callF (Pc ++ R) (n + 1) 13 [d0] μ = (evSs (callF (Pc ++ R) n) b_is_harmless [some d0, none] μ).bind retK := by kernel_rfl
theorem cf_known_switch (R : List PDef) (n : Nat) (μ : Mu) (d0 d1 d2 : D) : callF (Pc ++ R) (n + 1) 14 [d0, d1, d2] μ = (evSs (callF (Pc ++ R) n) b_known_switch [some d0, some d1, some d2, none, none] μ).bind retK := by kernel_rfl
theorem cf_value_put_in (R : List PDef) (n : Nat) (μ : Mu) (d0 d1 d2 : D) : callF (Pc ++ R) (n + 1) 15 [d0, d1, d2] μ = (evSs (callF (Pc ++ R) n) b_value_put_in [some d0, some d1, some d2] μ).bind retK := by kernel_rfl
theorem cf_left_out (R : List PDef) (n : Nat) (μ : Mu) (d0 d1 d2 : D) : callF (Pc ++ R) (n + 1) 16 [d0, d1, d2] μ = (evSs (callF (Pc ++ R) n) b_left_out [some d0, some d1, some d2] μ).bind retK := by kernel_rfl
theorem cf_call_put_in (R : List PDef) (n : Nat) (μ : Mu) (d0 d1 d2 : D) : callF (Pc ++ R) (n + 1) 17 [d0, d1, d2] μ = (evSs (callF (Pc ++ R) n) b_call_put_in [some d0, some d1, some d2, none, none, none, none, none] μ).bind retK := by kernel_rfl
theorem cf_known_function (R : List PDef) (n : Nat) (μ : Mu) (d0 d1 d2 : D) : callF (Pc ++ R) (n + 1) 18 [d0, d1, d2] μ = (evSs (callF (Pc ++ R) n) b_known_function [some d0, some d1, some d2] μ).bind retK := by kernel_rfl
theorem cf_number_reckoned (R : List PDef) (n : Nat) (μ : Mu) (d0 d1 d2 : D) : callF (Pc ++ R) (n + 1) 19 [d0, d1, d2] μ = (evSs (callF (Pc ++ R) n) b_number_reckoned [some d0, some d1, some d2] μ).bind retK := by kernel_rfl
theorem cf_let_of_let (R : List PDef) (n : Nat) (μ : Mu) (d0 d1 d2 : D) : callF (Pc ++ R) (n + 1) 20 [d0, d1, d2] μ = (evSs (callF (Pc ++ R) n) b_let_of_let [some d0, some d1, some d2, none] μ).bind retK := by kernel_rfl
theorem cf_switch_of_let (R : List PDef) (n : Nat) (μ : Mu) (d0 d1 d2 : D) : callF (Pc ++ R) (n + 1) 21 [d0, d1, d2] μ = (evSs (callF (Pc ++ R) n) b_switch_of_let [some d0, some d1, some d2, none] μ).bind retK := by kernel_rfl
theorem cf_again (R : List PDef) (n : Nat) (μ : Mu) (d0 d1 d2 d3 : D) : callF (Pc ++ R) (n + 1) 22 [d0, d1, d2, d3] μ = (evSs (callF (Pc ++ R) n) b_again [some d0, some d1, some d2, some d3, none, none, none, none, none, none] μ).bind retK := by kernel_rfl
theorem cf_switch_again (R : List PDef) (n : Nat) (μ : Mu) (d0 d1 d2 : D) : callF (Pc ++ R) (n + 1) 23 [d0, d1, d2] μ = (evSs (callF (Pc ++ R) n) b_switch_again [some d0, some d1, some d2, none, none, none, none, none, none] μ).bind retK := by kernel_rfl
theorem cf_first_free (R : List PDef) (n : Nat) (μ : Mu) (d0 : D) : callF (Pc ++ R) (n + 1) 24 [d0] μ = (evSs (callF (Pc ++ R) n) b_first_free [some d0] μ).bind retK := by kernel_rfl
theorem cf_stepped (R : List PDef) (n : Nat) (μ : Mu) (d0 d1 : D) : callF (Pc ++ R) (n + 1) 25 [d0, d1] μ = (evSs (callF (Pc ++ R) n) b_stepped [some d0, some d1, none, none, none, none, none, none, none, none, none] μ).bind retK := by kernel_rfl
theorem cf__law_next (R : List PDef) (n : Nat) (μ : Mu) (d0 d1 : D) : callF (Pc ++ R) (n + 1) 26 [d0, d1] μ = (evSs (callF (Pc ++ R) n) b__law_next [some d0, some d1, none, none] μ).bind retK := by kernel_rfl
theorem cf__law_here (R : List PDef) (n : Nat) (μ : Mu) (d0 : D) : callF (Pc ++ R) (n + 1) 27 [d0] μ = (evSs (callF (Pc ++ R) n) b__law_here [some d0] μ).bind retK := by kernel_rfl
theorem cf__law_new (R : List PDef) (n : Nat) (μ : Mu) (d0 : D) : callF (Pc ++ R) (n + 1) 28 [d0] μ = (evSs (callF (Pc ++ R) n) b__law_new [some d0] μ).bind retK := by kernel_rfl
theorem cf__law_small (R : List PDef) (n : Nat) (μ : Mu) (d0 d1 d2 d3 : D) : callF (Pc ++ R) (n + 1) 29 [d0, d1, d2, d3] μ = (evSs (callF (Pc ++ R) n) b__law_small [some d0, some d1, some d2, some d3, none, none, none] μ).bind retK := by kernel_rfl
theorem cf__law_core (R : List PDef) (n : Nat) (μ : Mu) (d0 d1 d2 d3 d4 : D) : callF (Pc ++ R) (n + 1) 30 [d0, d1, d2, d3, d4] μ = (evSs (callF (Pc ++ R) n) b__law_core [some d0, some d1, some d2, some d3, some d4, none, none, none, none, none, none, none] μ).bind retK := by kernel_rfl
theorem cf__law_branches (R : List PDef) (n : Nat) (μ : Mu) (d0 d1 d2 d3 d4 d5 : D) : callF (Pc ++ R) (n + 1) 31 [d0, d1, d2, d3, d4, d5] μ = (evSs (callF (Pc ++ R) n) b__law_branches [some d0, some d1, some d2, some d3, some d4, some d5, none, none, none, none] μ).bind retK := by kernel_rfl
theorem cf__law_made (R : List PDef) (n : Nat) (μ : Mu) (d0 d1 d2 d3 d4 : D) : callF (Pc ++ R) (n + 1) 32 [d0, d1, d2, d3, d4] μ = (evSs (callF (Pc ++ R) n) b__law_made [some d0, some d1, some d2, some d3, some d4, none, none, none, none] μ).bind retK := by kernel_rfl
theorem cf__law_around (R : List PDef) (n : Nat) (μ : Mu) (d0 d1 d2 d3 d4 : D) : callF (Pc ++ R) (n + 1) 33 [d0, d1, d2, d3, d4] μ = (evSs (callF (Pc ++ R) n) b__law_around [some d0, some d1, some d2, some d3, some d4, none, none, none, none, none, none, none, none, none] μ).bind retK := by kernel_rfl
theorem cf__law_around_made (R : List PDef) (n : Nat) (μ : Mu) (d0 d1 d2 d3 d4 : D) : callF (Pc ++ R) (n + 1) 34 [d0, d1, d2, d3, d4] μ = (evSs (callF (Pc ++ R) n) b__law_around_made [some d0, some d1, some d2, some d3, some d4, none, none, none] μ).bind retK := by kernel_rfl
theorem cf__law_parts (R : List PDef) (n : Nat) (μ : Mu) (d0 : D) : callF (Pc ++ R) (n + 1) 35 [d0] μ = (evSs (callF (Pc ++ R) n) b__law_parts [some d0, none, none, none] μ).bind retK := by kernel_rfl
theorem cf__law_with_parts (R : List PDef) (n : Nat) (μ : Mu) (d0 d1 : D) : callF (Pc ++ R) (n + 1) 36 [d0, d1] μ = (evSs (callF (Pc ++ R) n) b__law_with_parts [some d0, some d1, none, none, none, none, none] μ).bind retK := by kernel_rfl
theorem cf__law_filled (R : List PDef) (n : Nat) (μ : Mu) (d0 d1 : D) : callF (Pc ++ R) (n + 1) 37 [d0, d1] μ = (evSs (callF (Pc ++ R) n) b__law_filled [some d0, some d1, none] μ).bind retK := by kernel_rfl
theorem cf__law_path (R : List PDef) (n : Nat) (μ : Mu) (d0 : D) : callF (Pc ++ R) (n + 1) 38 [d0] μ = (evSs (callF (Pc ++ R) n) b__law_path [some d0, none, none, none] μ).bind retK := by kernel_rfl
theorem cf__law_size (R : List PDef) (n : Nat) (μ : Mu) (d0 : D) : callF (Pc ++ R) (n + 1) 39 [d0] μ = (evSs (callF (Pc ++ R) n) b__law_size [some d0, none] μ).bind retK := by kernel_rfl
theorem cf__law_bag (R : List PDef) (n : Nat) (μ : Mu) : callF (Pc ++ R) (n + 1) 40 [] μ = (evSs (callF (Pc ++ R) n) b__law_bag [] μ).bind retK := by kernel_rfl
theorem cf__law_functions_of (R : List PDef) (n : Nat) (μ : Mu) (d0 d1 : D) : callF (Pc ++ R) (n + 1) 41 [d0, d1] μ = (evSs (callF (Pc ++ R) n) b__law_functions_of [some d0, some d1, none, none, none, none, none] μ).bind retK := by kernel_rfl
theorem cf__law_told (R : List PDef) (n : Nat) (μ : Mu) (d0 : D) : callF (Pc ++ Rs R) (n + 1) 42 [d0] μ = (evSs (callF (Pc ++ Rs R) n) b__law_told [some d0] μ).bind retK := by kernel_rfl
theorem cf__law_is_step (R : List PDef) (n : Nat) (μ : Mu) (d0 d1 d2 d3 d4 : D) : callF (Pc ++ Rs R) (n + 1) 43 [d0, d1, d2, d3, d4] μ = (evSs (callF (Pc ++ Rs R) n) b__law_is_step [some d0, some d1, some d2, some d3, some d4, none, none, none, none] μ).bind retK := by kernel_rfl
section
variable (R : List PDef) (n : Nat) (μ : Mu)
theorem with1 (l : L1) (a x : D) : callF (Pc ++ R) (n + 1) 3 [enc1 l a, .int 0, x] μ = some (enc1 l x, μ) := by cases l <;> kernel_rfl
theorem with2a (l : L2t) (a b x : D) : callF (Pc ++ R) (n + 1) 3 [enc2 l a b, .int 0, x] μ = some (enc2 l x b, μ) := by cases l <;> kernel_rfl
theorem with2b (l : L2t) (a b x : D) : callF (Pc ++ R) (n + 1) 3 [enc2 l a b, .int 1, x] μ = some (enc2 l a x, μ) := by cases l <;> kernel_rfl
theorem with3a (l : L3) (a b c x : D) : callF (Pc ++ R) (n + 1) 3 [enc3 l a b c, .int 0, x] μ = some (enc3 l x b c, μ) := by cases l <;> kernel_rfl
theorem with3b (l : L3) (a b c x : D) : callF (Pc ++ R) (n + 1) 3 [enc3 l a b c, .int 1, x] μ = some (enc3 l a x c, μ) := by cases l <;> kernel_rfl
theorem with3c (l : L3) (a b c x : D) : callF (Pc ++ R) (n + 1) 3 [enc3 l a b c, .int 2, x] μ = some (enc3 l a b x, μ) := by cases l <;> kernel_rfl
theorem lp0 (l : L0) : callF (Pc ++ R) (n + 1) 35 [enc0 l] μ = some (.lst [], μ) := by cases l <;> kernel_rfl
theorem lp1 (l : L1) (a : D) : callF (Pc ++ R) (n + 1) 35 [enc1 l a] μ = some (.lst [a], μ) := by cases l <;> kernel_rfl
theorem lp2 (l : L2t) (a b : D) : callF (Pc ++ R) (n + 1) 35 [enc2 l a b] μ = some (.lst [a, b], μ) := by cases l <;> kernel_rfl
theorem lp3 (l : L3) (a b c : D) : callF (Pc ++ R) (n + 1) 35 [enc3 l a b c] μ = some (.lst [a, b, c], μ) := by cases l <;> kernel_rfl
theorem lw0 (l : L0) : callF (Pc ++ R) (n + 1) 36 [enc0 l, .lst []] μ = some (enc0 l, μ) := by cases l <;> kernel_rfl
theorem lw1 (l : L1) (a x : D) : callF (Pc ++ R) (n + 1) 36 [enc1 l a, .lst [x]] μ = some (enc1 l x, μ) := by cases l <;> kernel_rfl
theorem lw2 (l : L2t) (a b x y : D) : callF (Pc ++ R) (n + 1) 36 [enc2 l a b, .lst [x, y]] μ = some (enc2 l x y, μ) := by cases l <;> kernel_rfl
theorem lw3 (l : L3) (a b c x y z : D) : callF (Pc ++ R) (n + 1) 36 [enc3 l a b c, .lst [x, y, z]] μ = some (enc3 l x y z, μ) := by cases l <;> kernel_rfl
end
theorem size_b {c : Orc} {d : D} {xs : List D} {ns : List Int} {μ : Mu} (hp : c 2 [d] μ = some (.tup xs, μ)) (hl : lcLoop (fun d μ1 => Option.map (fun y => (some y.1, y.2)) (c 6 [d] μ1)) xs μ = some (ns.map .int, μ)) (hi : intsOf (ns.map .int) = some ns) :
    (evSs c b_size [some d, none] μ).bind retK = some (.int (1 + ns.sum), μ) := by
  simp [b_size, evSs, evS, evE, evEs, evV, evB, evBs, evO, evSrc, itemsD, okG, asgT, asgTs, wipeD, biD, binM, binD, litD, retK, truD, cmpD, idxD, slD, hp, hl, hi]
theorem lsize_b {c : Orc} {d : D} {xs : List D} {ns : List Int} {μ : Mu} (hp : c 35 [d] μ = some (.lst xs, μ)) (hl : lcLoop (fun d μ1 => Option.map (fun y => (some y.1, y.2)) (c 39 [d] μ1)) xs μ = some (ns.map .int, μ)) (hi : intsOf (ns.map .int) = some ns) :
    (evSs c b__law_size [some d, none] μ).bind retK = some (.int (1 + ns.sum), μ) := by
  simp [b__law_size, evSs, evS, evE, evEs, evV, evB, evBs, evO, evSrc, itemsD, okG, asgT, asgTs, wipeD, biD, binM, binD, litD, retK, truD, cmpD, idxD, slD, hp, hl, hi]
theorem size_ok (R : List PDef) (μ : Mu) : ∀ (t : T) (n : Nat), t.ht ≤ n → callF (Pc ++ R) (n + 3) 6 [enc t] μ = some (.int t.size, μ)
  | .n0 l, n, h => by
    rw [cf_size, enc, size_b (parts0 R n μ l) (ns := []) rfl rfl]
    rfl
  | .n1 l a, n, h => by
    obtain ⟨m, rfl⟩ : ∃ m, n = m + 1 := ⟨n - 1, by simp only [T.ht] at h; omega⟩
    simp only [T.ht] at h
    have i1 := size_ok R μ a m (by omega)
    rw [cf_size, enc, size_b (parts1 R (m + 1) μ l _) (ns := [(a.size : Int)]) (by simp [lcLoop, i1]) rfl]
    simp [T.size]; omega
  | .n2 l a b, n, h => by
    obtain ⟨m, rfl⟩ : ∃ m, n = m + 1 := ⟨n - 1, by simp only [T.ht] at h; omega⟩
    simp only [T.ht] at h
    have i1 := size_ok R μ a m (by omega)
    have i2 := size_ok R μ b m (by omega)
    rw [cf_size, enc, size_b (parts2 R (m + 1) μ l _ _) (ns := [(a.size : Int), (b.size : Int)]) (by simp [lcLoop, i1, i2]) rfl]
    simp [T.size]; omega
  | .n3 l a b c, n, h => by
    obtain ⟨m, rfl⟩ : ∃ m, n = m + 1 := ⟨n - 1, by simp only [T.ht] at h; omega⟩
    simp only [T.ht] at h
    have i1 := size_ok R μ a m (by omega)
    have i2 := size_ok R μ b m (by omega)
    have i3 := size_ok R μ c m (by omega)
    rw [cf_size, enc, size_b (parts3 R (m + 1) μ l _ _ _) (ns := [(a.size : Int), (b.size : Int), (c.size : Int)]) (by simp [lcLoop, i1, i2, i3]) rfl]
    simp [T.size]; omega
theorem lsize_ok (R : List PDef) (μ : Mu) : ∀ (t : T) (n : Nat), t.ht ≤ n → callF (Pc ++ R) (n + 3) 39 [enc t] μ = some (.int t.size, μ)
  | .n0 l, n, h => by
    rw [cf__law_size, enc, lsize_b (lp0 R (n + 1) μ l) (ns := []) rfl rfl]
    rfl
  | .n1 l a, n, h => by
    obtain ⟨m, rfl⟩ : ∃ m, n = m + 1 := ⟨n - 1, by simp only [T.ht] at h; omega⟩
    simp only [T.ht] at h
    have i1 := lsize_ok R μ a m (by omega)
    rw [cf__law_size, enc, lsize_b (lp1 R (m + 2) μ l _) (ns := [(a.size : Int)]) (by simp [lcLoop, i1]) rfl]
    simp [T.size]; omega
  | .n2 l a b, n, h => by
    obtain ⟨m, rfl⟩ : ∃ m, n = m + 1 := ⟨n - 1, by simp only [T.ht] at h; omega⟩
    simp only [T.ht] at h
    have i1 := lsize_ok R μ a m (by omega)
    have i2 := lsize_ok R μ b m (by omega)
    rw [cf__law_size, enc, lsize_b (lp2 R (m + 2) μ l _ _) (ns := [(a.size : Int), (b.size : Int)]) (by simp [lcLoop, i1, i2]) rfl]
    simp [T.size]; omega
  | .n3 l a b c, n, h => by
    obtain ⟨m, rfl⟩ : ∃ m, n = m + 1 := ⟨n - 1, by simp only [T.ht] at h; omega⟩
    simp only [T.ht] at h
    have i1 := lsize_ok R μ a m (by omega)
    have i2 := lsize_ok R μ b m (by omega)
    have i3 := lsize_ok R μ c m (by omega)
    rw [cf__law_size, enc, lsize_b (lp3 R (m + 2) μ l _ _ _) (ns := [(a.size : Int), (b.size : Int), (c.size : Int)]) (by simp [lcLoop, i1, i2, i3]) rfl]
    simp [T.size]; omega
theorem fill_b {c : Orc} {d q : D} {xs ys : List D} {k : Str} {r : D} {μ : Mu} (hx : idxD μ d (.int 0) = some (.str k)) (h0 : k ≠ "hole") (hp : c 35 [d] μ = some (.lst xs, μ)) (hl : lcLoop (fun d μ1 => Option.map (fun y => (some y.1, y.2)) (c 37 [d, q] μ1)) xs μ = some (ys, μ)) (hw : c 36 [d, .lst ys] μ = some (r, μ)) :
    (evSs c b__law_filled [some d, some q, none] μ).bind retK = some (r, μ) := by
  have e0 : cmpD μ .Eq (.str k) (.str "hole") = some false := by simp [cmpD, eqD, scalD, h0]
  simp [b__law_filled, evSs, evS, evE, evEs, evV, evB, evBs, evO, evSrc, itemsD, okG, asgT, asgTs, wipeD, biD, binM, binD, litD, retK, truD, hx, e0, hp, hl, hw]
def L0.kind : L0 → Str
  | .num .. => "number" | .loc .. => "local" | .top .. => "top" | .hole => "hole" | .dat .. => "data"
def L1.kind : L1 → Str
  | .fn .. => "fn" | .read .. => "read" | .cell .. => "cell" | .print .. => "print"
def L2t.kind : L2t → Str
  | .lets .. => "let" | .callby .. => "callby" | .call .. => "call" | .dat .. => "data" | .op .. => "op" | .write .. => "write"
def T.kind : T → Str
  | .n0 l => l.kind
  | .n1 l _ => l.kind
  | .n2 l _ _ => l.kind
  | .n3 .. => "switch"
theorem kind0 (l : L0) (μ : Mu) : idxD μ (enc0 l) (.int 0) = some (.str l.kind) := by cases l <;> rfl
theorem kind1 (l : L1) (a : D) (μ : Mu) : idxD μ (enc1 l a) (.int 0) = some (.str l.kind) := by cases l <;> rfl
theorem kind2 (l : L2t) (a b : D) (μ : Mu) : idxD μ (enc2 l a b) (.int 0) = some (.str l.kind) := by cases l <;> rfl
theorem kind3 (l : L3) (a b c : D) (μ : Mu) : idxD μ (enc3 l a b c) (.int 0) = some (.str "switch") := by cases l; rfl
theorem T.kind_at (t : T) (μ : Mu) : idxD μ (enc t) (.int 0) = some (.str t.kind) := by
  cases t
  · exact kind0 _ μ
  · exact kind1 _ _ μ
  · exact kind2 _ _ _ μ
  · exact kind3 _ _ _ _ μ
theorem nh1 (l : L1) : l.kind ≠ "hole" := by cases l <;> simp only [L1.kind] <;> decide +kernel
theorem nh2 (l : L2t) : l.kind ≠ "hole" := by cases l <;> simp only [L2t.kind] <;> decide +kernel
theorem nh3 : ("switch" : Str) ≠ "hole" := by decide +kernel
theorem fill_ok (R : List PDef) (μ : Mu) (s : T) : ∀ (t : T) (n : Nat), t.ht ≤ n → callF (Pc ++ R) (n + 2) 37 [enc t, enc s] μ = some (enc (t.fill s), μ)
  | .n0 l, n, h => by
    cases l
    case hole => kernel_rfl
    all_goals kernel_rfl
  | .n1 l a, n, h => by
    obtain ⟨m, rfl⟩ : ∃ m, n = m + 1 := ⟨n - 1, by simp only [T.ht] at h; omega⟩
    simp only [T.ht] at h
    have i1 := fill_ok R μ s a m (by omega)
    rw [cf__law_filled, enc, fill_b (kind1 l _ μ) (nh1 l) (lp1 R (m + 1) μ l _) (ys := [enc (a.fill s)]) (by simp [lcLoop, i1]) (lw1 R (m + 1) μ l _ _), T.fill, enc]
  | .n2 l a b, n, h => by
    obtain ⟨m, rfl⟩ : ∃ m, n = m + 1 := ⟨n - 1, by simp only [T.ht] at h; omega⟩
    simp only [T.ht] at h
    have i1 := fill_ok R μ s a m (by omega)
    have i2 := fill_ok R μ s b m (by omega)
    rw [cf__law_filled, enc, fill_b (kind2 l _ _ μ) (nh2 l) (lp2 R (m + 1) μ l _ _) (ys := [enc (a.fill s), enc (b.fill s)]) (by simp [lcLoop, i1, i2]) (lw2 R (m + 1) μ l _ _ _ _), T.fill, enc]
  | .n3 l a b c, n, h => by
    obtain ⟨m, rfl⟩ : ∃ m, n = m + 1 := ⟨n - 1, by simp only [T.ht] at h; omega⟩
    simp only [T.ht] at h
    have i1 := fill_ok R μ s a m (by omega)
    have i2 := fill_ok R μ s b m (by omega)
    have i3 := fill_ok R μ s c m (by omega)
    rw [cf__law_filled, enc, fill_b (kind3 l _ _ _ μ) nh3 (lp3 R (m + 1) μ l _ _ _) (ys := [enc (a.fill s), enc (b.fill s), enc (c.fill s)]) (by simp [lcLoop, i1, i2, i3]) (lw3 R (m + 1) μ l _ _ _ _ _ _), T.fill, enc]
end Pl

namespace Pl
open PySem
def natsD (p : List Nat) : D := .tup (p.map fun i => .int (i : Nat))
def optP : Option (List Nat) → D
  | none => .non
  | some p => natsD p
theorem path_len : ∀ {t : T} {p : List Nat}, t.path = some p → p.length ≤ t.ht
  | .n0 l, p, h => by
    cases l <;> simp [T.path] at h
    subst h; simp
  | .n1 l a, p, h => by
    simp only [T.path, Option.map_eq_some_iff] at h
    obtain ⟨q, h1, rfl⟩ := h
    have := path_len h1
    simp [T.ht]; omega
  | .n2 l a b, p, h => by
    simp only [T.path, orP] at h
    split at h
    · rename_i q h1
      cases h
      have := path_len h1
      simp [T.ht]; omega
    · simp only [Option.map_eq_some_iff] at h
      obtain ⟨q, h1, rfl⟩ := h
      have := path_len h1
      simp [T.ht]; omega
  | .n3 l a b c, p, h => by
    simp only [T.path, orP] at h
    split at h
    · rename_i q h1
      cases h
      have := path_len h1
      simp [T.ht]; omega
    · split at h
      · rename_i q h1
        cases h
        have := path_len h1
        simp [T.ht]; omega
      · simp only [Option.map_eq_some_iff] at h
        obtain ⟨q, h1, rfl⟩ := h
        have := path_len h1
        simp [T.ht]; omega
theorem cat_nats {i : Nat} {p : List Nat} {μ : Mu} (h : p.length ≤ 1000) : binM μ .Add (.tup [.int (i : Nat)]) (natsD p) = some (natsD (i :: p)) := by
  have : 1 + p.length ≤ sizeLine := by rw [sizeLine_eq]; omega
  simp [natsD, binM, binD, this]
theorem path1_b {c : Orc} {d x : D} {k : Str} {o0 : Option (List Nat)} {μ : Mu} (hx : idxD μ d (.int 0) = some (.str k)) (hk : k ≠ "hole") (hp : c 35 [d] μ = some (.lst [x], μ)) (h0 : c 38 [x] μ = some (optP o0, μ)) (l0 : ∀ p, o0 = some p → p.length ≤ 1000) :
    (evSs c b__law_path [some d, none, none, none] μ).bind retK = some (optP (o0.map (0 :: ·)), μ) := by
  have e0 : eqD μ (.str k) (.str "hole") = some false := by simp [eqD, scalD, hk]
  cases o0 with
  | some p =>
    have e1 := cat_nats (i := 0) (μ := μ) (l0 p rfl)
    simp only [natsD, List.map_cons] at e1
    simp at e1
    simp [b__law_path, evSs, evS, evE, evEs, evV, evB, evBs, evO, evSrc, itemsD, okG, asgT, asgTs, wipeD, biD, litD, retK, truD, cmpD, hx, e0, hp, h0, forLoop, pairs, optP, orP, natsD, e1]
  | none =>
    simp [b__law_path, evSs, evS, evE, evEs, evV, evB, evBs, evO, evSrc, itemsD, okG, asgT, asgTs, wipeD, biD, litD, retK, truD, cmpD, hx, e0, hp, h0, forLoop, pairs, optP, orP]
theorem path2_b {c : Orc} {d x y : D} {k : Str} {o0 o1 : Option (List Nat)} {μ : Mu} (hx : idxD μ d (.int 0) = some (.str k)) (hk : k ≠ "hole") (hp : c 35 [d] μ = some (.lst [x, y], μ)) (h0 : c 38 [x] μ = some (optP o0, μ)) (l0 : ∀ p, o0 = some p → p.length ≤ 1000) (h1 : c 38 [y] μ = some (optP o1, μ)) (l1 : ∀ p, o1 = some p → p.length ≤ 1000) :
    (evSs c b__law_path [some d, none, none, none] μ).bind retK = some (optP (orP 0 o0 (o1.map (1 :: ·))), μ) := by
  have e0 : eqD μ (.str k) (.str "hole") = some false := by simp [eqD, scalD, hk]
  cases o0 with
  | some p =>
    have e1 := cat_nats (i := 0) (μ := μ) (l0 p rfl)
    simp only [natsD, List.map_cons] at e1
    simp at e1
    simp [b__law_path, evSs, evS, evE, evEs, evV, evB, evBs, evO, evSrc, itemsD, okG, asgT, asgTs, wipeD, biD, litD, retK, truD, cmpD, hx, e0, hp, h0, forLoop, pairs, optP, orP, natsD, e1]
  | none =>
    cases o1 with
    | some p =>
      have e1 := cat_nats (i := 1) (μ := μ) (l1 p rfl)
      simp only [natsD, List.map_cons] at e1
      simp at e1
      simp [b__law_path, evSs, evS, evE, evEs, evV, evB, evBs, evO, evSrc, itemsD, okG, asgT, asgTs, wipeD, biD, litD, retK, truD, cmpD, hx, e0, hp, h0, h1, forLoop, pairs, optP, orP, natsD, e1]
    | none =>
      simp [b__law_path, evSs, evS, evE, evEs, evV, evB, evBs, evO, evSrc, itemsD, okG, asgT, asgTs, wipeD, biD, litD, retK, truD, cmpD, hx, e0, hp, h0, h1, forLoop, pairs, optP, orP]
theorem path3_b {c : Orc} {d x y z : D} {k : Str} {o0 o1 o2 : Option (List Nat)} {μ : Mu} (hx : idxD μ d (.int 0) = some (.str k)) (hk : k ≠ "hole") (hp : c 35 [d] μ = some (.lst [x, y, z], μ)) (h0 : c 38 [x] μ = some (optP o0, μ)) (l0 : ∀ p, o0 = some p → p.length ≤ 1000) (h1 : c 38 [y] μ = some (optP o1, μ)) (l1 : ∀ p, o1 = some p → p.length ≤ 1000) (h2 : c 38 [z] μ = some (optP o2, μ)) (l2 : ∀ p, o2 = some p → p.length ≤ 1000) :
    (evSs c b__law_path [some d, none, none, none] μ).bind retK = some (optP (orP 0 o0 (orP 1 o1 (o2.map (2 :: ·)))), μ) := by
  have e0 : eqD μ (.str k) (.str "hole") = some false := by simp [eqD, scalD, hk]
  cases o0 with
  | some p =>
    have e1 := cat_nats (i := 0) (μ := μ) (l0 p rfl)
    simp only [natsD, List.map_cons] at e1
    simp at e1
    simp [b__law_path, evSs, evS, evE, evEs, evV, evB, evBs, evO, evSrc, itemsD, okG, asgT, asgTs, wipeD, biD, litD, retK, truD, cmpD, hx, e0, hp, h0, forLoop, pairs, optP, orP, natsD, e1]
  | none =>
    cases o1 with
    | some p =>
      have e1 := cat_nats (i := 1) (μ := μ) (l1 p rfl)
      simp only [natsD, List.map_cons] at e1
      simp at e1
      simp [b__law_path, evSs, evS, evE, evEs, evV, evB, evBs, evO, evSrc, itemsD, okG, asgT, asgTs, wipeD, biD, litD, retK, truD, cmpD, hx, e0, hp, h0, h1, forLoop, pairs, optP, orP, natsD, e1]
    | none =>
      cases o2 with
      | some p =>
        have e1 := cat_nats (i := 2) (μ := μ) (l2 p rfl)
        simp only [natsD, List.map_cons] at e1
        simp at e1
        simp [b__law_path, evSs, evS, evE, evEs, evV, evB, evBs, evO, evSrc, itemsD, okG, asgT, asgTs, wipeD, biD, litD, retK, truD, cmpD, hx, e0, hp, h0, h1, h2, forLoop, pairs, optP, orP, natsD, e1]
      | none =>
        simp [b__law_path, evSs, evS, evE, evEs, evV, evB, evBs, evO, evSrc, itemsD, okG, asgT, asgTs, wipeD, biD, litD, retK, truD, cmpD, hx, e0, hp, h0, h1, h2, forLoop, pairs, optP, orP]
theorem path_ok (R : List PDef) (μ : Mu) : ∀ (t : T) (n : Nat), t.ht ≤ n → t.ht ≤ 1000 → callF (Pc ++ R) (n + 2) 38 [enc t] μ = some (optP t.path, μ)
  | .n0 l, n, h, _ => by cases l <;> kernel_rfl
  | .n1 l a, n, h, hz => by
    obtain ⟨m, rfl⟩ : ∃ m, n = m + 1 := ⟨n - 1, by simp only [T.ht] at h; omega⟩
    simp only [T.ht] at h hz
    rw [cf__law_path, enc, path1_b (kind1 l _ μ) (nh1 l) (lp1 R (m + 1) μ l _) (path_ok R μ a m (by omega) (by omega)) (fun p hp => by have := path_len hp; omega), T.path]
  | .n2 l a b, n, h, hz => by
    obtain ⟨m, rfl⟩ : ∃ m, n = m + 1 := ⟨n - 1, by simp only [T.ht] at h; omega⟩
    simp only [T.ht] at h hz
    rw [cf__law_path, enc, path2_b (kind2 l _ _ μ) (nh2 l) (lp2 R (m + 1) μ l _ _) (path_ok R μ a m (by omega) (by omega)) (fun p hp => by have := path_len hp; omega) (path_ok R μ b m (by omega) (by omega)) (fun p hp => by have := path_len hp; omega), T.path]
  | .n3 l a b c, n, h, hz => by
    obtain ⟨m, rfl⟩ : ∃ m, n = m + 1 := ⟨n - 1, by simp only [T.ht] at h; omega⟩
    simp only [T.ht] at h hz
    rw [cf__law_path, enc, path3_b (kind3 l _ _ _ μ) nh3 (lp3 R (m + 1) μ l _ _ _) (path_ok R μ a m (by omega) (by omega)) (fun p hp => by have := path_len hp; omega) (path_ok R μ b m (by omega) (by omega)) (fun p hp => by have := path_len hp; omega) (path_ok R μ c m (by omega) (by omega)) (fun p hp => by have := path_len hp; omega), T.path]
def forB : ASs → ASs
  | .cons (.for_ _ _ b) _ => b
  | _ => .nil
def atL (R : List PDef) (n : Nat) (items : List D) (env : En) (μ : Mu) : Option (Fl × En × Mu) := forLoop none (.nm 2) (fun e m => evSs (callF (Pc ++ R) n) (forB b_at_path) e m) items env μ
section
variable (R : List PDef) (n : Nat) (μ : Mu) (q : D) (e2 e3 : Option D) (r : List D)
theorem at1 (l : L1) (a : D) : atL R (n + 2) (.int 0 :: r) [some (enc1 l a), some q, e2, e3] μ = atL R (n + 2) r [some a, some q, some (.int 0), some (.tup [a])] μ := by cases l <;> kernel_rfl
theorem at2a (l : L2t) (a b : D) : atL R (n + 2) (.int 0 :: r) [some (enc2 l a b), some q, e2, e3] μ = atL R (n + 2) r [some a, some q, some (.int 0), some (.tup [a, b])] μ := by cases l <;> kernel_rfl
theorem at2b (l : L2t) (a b : D) : atL R (n + 2) (.int 1 :: r) [some (enc2 l a b), some q, e2, e3] μ = atL R (n + 2) r [some b, some q, some (.int 1), some (.tup [a, b])] μ := by cases l <;> kernel_rfl
theorem at3a (l : L3) (a b c : D) : atL R (n + 2) (.int 0 :: r) [some (enc3 l a b c), some q, e2, e3] μ = atL R (n + 2) r [some a, some q, some (.int 0), some (.tup [a, b, c])] μ := by cases l <;> kernel_rfl
theorem at3b (l : L3) (a b c : D) : atL R (n + 2) (.int 1 :: r) [some (enc3 l a b c), some q, e2, e3] μ = atL R (n + 2) r [some b, some q, some (.int 1), some (.tup [a, b, c])] μ := by cases l <;> kernel_rfl
theorem at3c (l : L3) (a b c : D) : atL R (n + 2) (.int 2 :: r) [some (enc3 l a b c), some q, e2, e3] μ = atL R (n + 2) r [some c, some q, some (.int 2), some (.tup [a, b, c])] μ := by cases l <;> kernel_rfl
end
theorem atL_ok (R : List PDef) (n : Nat) (μ : Mu) (q : D) (s : T) : ∀ (t : T) (p : List Nat) (e2 e3 : Option D), t.at p = some s → ∃ f2 f3, atL R (n + 2) (p.map fun i => .int (i : Nat)) [some (enc t), some q, e2, e3] μ = some (.nx, [some (enc s), some q, f2, f3], μ)
  | t, [], e2, e3, h => by
    have : t = s := by cases t <;> simpa [T.at] using h
    subst this
    exact ⟨e2, e3, rfl⟩
  | .n0 l, i :: p, e2, e3, h => by simp [T.at] at h
  | .n1 l a, 0 :: p, e2, e3, h => by
    have ih := fun f2 f3 => atL_ok R n μ q s a p f2 f3 (by simpa [T.at] using h)
    have z := at1 R n μ q e2 e3 (p.map fun i => .int (i : Nat)) l (enc a)
    rw [List.map_cons, enc]
    exact z ▸ ih _ _
  | .n1 l a, (i + 1) :: p, e2, e3, h => by simp [T.at] at h
  | .n2 l a b, 0 :: p, e2, e3, h => by
    have ih := fun f2 f3 => atL_ok R n μ q s a p f2 f3 (by simpa [T.at] using h)
    have z := at2a R n μ q e2 e3 (p.map fun i => .int (i : Nat)) l (enc a) (enc b)
    rw [List.map_cons, enc]
    exact z ▸ ih _ _
  | .n2 l a b, 1 :: p, e2, e3, h => by
    have ih := fun f2 f3 => atL_ok R n μ q s b p f2 f3 (by simpa [T.at] using h)
    have z := at2b R n μ q e2 e3 (p.map fun i => .int (i : Nat)) l (enc a) (enc b)
    rw [List.map_cons, enc]
    exact z ▸ ih _ _
  | .n2 l a b, (i + 2) :: p, e2, e3, h => by simp [T.at] at h
  | .n3 l a b c, 0 :: p, e2, e3, h => by
    have ih := fun f2 f3 => atL_ok R n μ q s a p f2 f3 (by simpa [T.at] using h)
    have z := at3a R n μ q e2 e3 (p.map fun i => .int (i : Nat)) l (enc a) (enc b) (enc c)
    rw [List.map_cons, enc]
    exact z ▸ ih _ _
  | .n3 l a b c, 1 :: p, e2, e3, h => by
    have ih := fun f2 f3 => atL_ok R n μ q s b p f2 f3 (by simpa [T.at] using h)
    have z := at3b R n μ q e2 e3 (p.map fun i => .int (i : Nat)) l (enc a) (enc b) (enc c)
    rw [List.map_cons, enc]
    exact z ▸ ih _ _
  | .n3 l a b c, 2 :: p, e2, e3, h => by
    have ih := fun f2 f3 => atL_ok R n μ q s c p f2 f3 (by simpa [T.at] using h)
    have z := at3c R n μ q e2 e3 (p.map fun i => .int (i : Nat)) l (enc a) (enc b) (enc c)
    rw [List.map_cons, enc]
    exact z ▸ ih _ _
  | .n3 l a b c, (i + 3) :: p, e2, e3, h => by simp [T.at] at h
theorem at_b (R : List PDef) (n : Nat) (μ : Mu) (d : D) (xs : List D) : callF (Pc ++ R) (n + 1) 4 [d, .tup xs] μ = ((atL R n xs [some d, some (.tup xs), none, none] μ).bind fun r => match r.1 with
    | .nx => evSs (callF (Pc ++ R) n) (.cons (.ret (.var 0)) .nil) r.2.1 r.2.2
    | _ => some r).bind retK := by kernel_rfl
theorem at_ok (R : List PDef) (n : Nat) (μ : Mu) {t s : T} {p : List Nat} (h : t.at p = some s) : callF (Pc ++ R) (n + 3) 4 [enc t, natsD p] μ = some (enc s, μ) := by
  obtain ⟨f2, f3, e⟩ := atL_ok R n μ (natsD p) s t p none none h
  unfold natsD at e ⊢
  rw [at_b, e]
  rfl
end Pl

namespace Pl
open PySem L2
theorem nats_tru (μ : Mu) (i : Nat) (p : List Nat) : truD μ (natsD (i :: p)) = some true := rfl
theorem nats_nil (μ : Mu) : truD μ (natsD []) = some false := rfl
theorem nats_hd (μ : Mu) (i : Nat) (p : List Nat) : idxD μ (natsD (i :: p)) (.int 0) = some (.int (i : Nat)) := by
  unfold natsD idxD
  exact atI_nat (j := 0) rfl
theorem nats_tl (μ : Mu) (i : Nat) (p : List Nat) : slD μ (some 1) none (natsD (i :: p)) = some (natsD p) := by
  have : ∀ (xs : List D) (x : D), cutL (x :: xs) (some 1) none = xs := fun xs x => by
    unfold cutL HT.sIx
    simp
  unfold natsD slD
  simp only [List.map_cons, this]
theorem idx_tup {μ : Mu} {xs : List D} {i : Nat} {x : D} (h : xs[i]? = some x) : idxD μ (.tup xs) (.int (i : Nat)) = some x := atI_nat h
theorem put_b {c : Orc} {d q x y r : D} {xs : List D} {i : Nat} {p : List Nat} {μ : Mu} (hp : c 2 [d] μ = some (.tup xs, μ)) (hx : xs[i]? = some x) (h5 : c 5 [x, natsD p, q] μ = some (y, μ)) (h3 : c 3 [d, .int (i : Nat), y] μ = some (r, μ)) :
    (evSs c b_put_at [some d, some (natsD (i :: p)), some q] μ).bind retK = some (r, μ) := by
  have e1 := nats_tru μ i p
  have e2 := nats_hd μ i p
  have e3 := nats_tl μ i p
  have e4 := idx_tup (μ := μ) hx
  simp [b_put_at, evSs, evS, evE, evEs, evB, evBs, evO, litD, retK, e1, e2, e3, e4, hp, h5, h3]
theorem put_nil {c : Orc} {d q : D} {μ : Mu} : (evSs c b_put_at [some d, some (natsD []), some q] μ).bind retK = some (q, μ) := by
  have e1 := nats_nil μ
  simp [b_put_at, evSs, evS, evE, evEs, evB, evBs, evO, litD, retK, e1]
theorem put_ok (R : List PDef) (μ : Mu) (s : T) : ∀ (p : List Nat) (t u : T) (n : Nat), p.length ≤ n → t.put p s = some u → callF (Pc ++ R) (n + 3) 5 [enc t, natsD p, enc s] μ = some (enc u, μ)
  | [], t, u, n, _, h => by
    have : s = u := by cases t <;> simpa [T.put] using h
    rw [cf_put_at, put_nil, this]
  | i :: p, t, u, n, hn, h => by
    obtain ⟨m, rfl⟩ : ∃ m, n = m + 1 := ⟨n - 1, by simp at hn; omega⟩
    have ih := fun t' u' => put_ok R μ s p t' u' m (by simp at hn; omega)
    rw [cf_put_at]
    cases t with
    | n0 l => simp [T.put] at h
    | n1 l a =>
      match i, h with
      | 0, h =>
        simp only [T.put, Option.map_eq_some_iff] at h
        obtain ⟨v, h1, rfl⟩ := h
        exact put_b (parts1 R (m + 1) μ l _) rfl (ih _ _ h1) (with1 R (m + 2) μ l _ _)
      | i + 1, h => simp [T.put] at h
    | n2 l a b =>
      match i, h with
      | 0, h =>
        simp only [T.put, Option.map_eq_some_iff] at h
        obtain ⟨v, h1, rfl⟩ := h
        exact put_b (parts2 R (m + 1) μ l _ _) rfl (ih _ _ h1) (with2a R (m + 2) μ l _ _ _)
      | 1, h =>
        simp only [T.put, Option.map_eq_some_iff] at h
        obtain ⟨v, h1, rfl⟩ := h
        exact put_b (parts2 R (m + 1) μ l _ _) rfl (ih _ _ h1) (with2b R (m + 2) μ l _ _ _)
      | i + 2, h => simp [T.put] at h
    | n3 l a b c =>
      match i, h with
      | 0, h =>
        simp only [T.put, Option.map_eq_some_iff] at h
        obtain ⟨v, h1, rfl⟩ := h
        exact put_b (parts3 R (m + 1) μ l _ _ _) rfl (ih _ _ h1) (with3a R (m + 2) μ l _ _ _ _)
      | 1, h =>
        simp only [T.put, Option.map_eq_some_iff] at h
        obtain ⟨v, h1, rfl⟩ := h
        exact put_b (parts3 R (m + 1) μ l _ _ _) rfl (ih _ _ h1) (with3b R (m + 2) μ l _ _ _ _)
      | 2, h =>
        simp only [T.put, Option.map_eq_some_iff] at h
        obtain ⟨v, h1, rfl⟩ := h
        exact put_b (parts3 R (m + 1) μ l _ _ _) rfl (ih _ _ h1) (with3c R (m + 2) μ l _ _ _ _)
      | i + 3, h => simp [T.put] at h
theorem fill_none {s : T} : ∀ {t : T}, t.holes = 0 → t.fill s = t
  | .n0 l, h => by cases l <;> first | rfl | (simp [T.holes] at h)
  | .n1 l a, h => by simp only [T.holes] at h; rw [T.fill, fill_none h]
  | .n2 l a b, h => by simp only [T.holes] at h; rw [T.fill, fill_none (by omega), fill_none (by omega)]
  | .n3 l a b c, h => by simp only [T.holes] at h; rw [T.fill, fill_none (by omega), fill_none (by omega), fill_none (by omega)]
theorem path_none : ∀ {t : T}, t.holes = 0 → t.path = none
  | .n0 l, h => by cases l <;> first | rfl | (simp [T.holes] at h)
  | .n1 l a, h => by simp only [T.holes] at h; rw [T.path, path_none h]; rfl
  | .n2 l a b, h => by simp only [T.holes] at h; rw [T.path, path_none (by omega), path_none (by omega)]; rfl
  | .n3 l a b c, h => by simp only [T.holes] at h; rw [T.path, path_none (by omega), path_none (by omega), path_none (by omega)]; rfl
/-- one hole: its way leads to what fills it, and what is put there fills it -/
theorem hole1 : ∀ {t : T}, t.holes = 1 → ∃ p, t.path = some p ∧ ∀ s q, (t.fill s).at (p ++ q) = s.at q ∧ ∀ u, (t.fill s).put (p ++ q) u = (s.put q u).map t.fill
  | .n0 l, h => by
    cases l <;> simp [T.holes] at h
    refine ⟨[], rfl, fun s q => ⟨rfl, fun u => ?_⟩⟩
    simp only [List.nil_append, T.fill]
    cases s.put q u <;> rfl
  | .n1 l a, h => by
    simp only [T.holes] at h
    obtain ⟨p, h1, h2⟩ := hole1 h
    refine ⟨0 :: p, by rw [T.path, h1]; rfl, fun s q => ⟨by simpa [T.fill, T.at] using (h2 s q).1, fun u => ?_⟩⟩
    simp only [T.fill, List.cons_append, T.put, (h2 s q).2 u, Option.map_map]
    rfl
  | .n2 l a b, h => by
    simp only [T.holes] at h
    by_cases ha : a.holes = 0
    · obtain ⟨p, h1, h2⟩ := hole1 (t := b) (by omega)
      refine ⟨1 :: p, by rw [T.path, path_none ha, h1]; rfl, fun s q => ⟨by simpa [T.fill, T.at] using (h2 s q).1, fun u => ?_⟩⟩
      simp only [T.fill, List.cons_append, T.put, (h2 s q).2 u, Option.map_map, fill_none ha]
      congr 1 <;> (funext x; simp [T.fill, fill_none ha])
    · obtain ⟨p, h1, h2⟩ := hole1 (t := a) (by omega)
      have hb : b.holes = 0 := by omega
      refine ⟨0 :: p, by rw [T.path, h1]; rfl, fun s q => ⟨by simpa [T.fill, T.at] using (h2 s q).1, fun u => ?_⟩⟩
      simp only [T.fill, List.cons_append, T.put, (h2 s q).2 u, Option.map_map, fill_none hb]
      congr 1 <;> (funext x; simp [T.fill, fill_none hb])
  | .n3 l a b c, h => by
    simp only [T.holes] at h
    by_cases ha : a.holes = 0
    · by_cases hb : b.holes = 0
      · obtain ⟨p, h1, h2⟩ := hole1 (t := c) (by omega)
        refine ⟨2 :: p, by rw [T.path, path_none ha, path_none hb, h1]; rfl, fun s q => ⟨by simpa [T.fill, T.at] using (h2 s q).1, fun u => ?_⟩⟩
        simp only [T.fill, List.cons_append, T.put, (h2 s q).2 u, Option.map_map, fill_none ha, fill_none hb]
        congr 1 <;> (funext x; simp [T.fill, fill_none ha, fill_none hb])
      · obtain ⟨p, h1, h2⟩ := hole1 (t := b) (by omega)
        have hc : c.holes = 0 := by omega
        refine ⟨1 :: p, by rw [T.path, path_none ha, h1]; rfl, fun s q => ⟨by simpa [T.fill, T.at] using (h2 s q).1, fun u => ?_⟩⟩
        simp only [T.fill, List.cons_append, T.put, (h2 s q).2 u, Option.map_map, fill_none ha, fill_none hc]
        congr 1 <;> (funext x; simp [T.fill, fill_none ha, fill_none hc])
    · obtain ⟨p, h1, h2⟩ := hole1 (t := a) (by omega)
      have hb : b.holes = 0 := by omega
      have hc : c.holes = 0 := by omega
      refine ⟨0 :: p, by rw [T.path, h1]; rfl, fun s q => ⟨by simpa [T.fill, T.at] using (h2 s q).1, fun u => ?_⟩⟩
      simp only [T.fill, List.cons_append, T.put, (h2 s q).2 u, Option.map_map, fill_none hb, fill_none hc]
      congr 1 <;> (funext x; simp [T.fill, fill_none hb, fill_none hc])
end Pl

namespace Pl
open PySem L2
def own0 : L0 → List Int := fun _ => []
def own1 : L1 → List Int
  | .fn x _ => [x]
  | _ => []
def own2 : L2t → List Int
  | .lets x _ => [x]
  | _ => []
def own3 : L3 → List Int
  | .sw a b _ => a.list ++ b.list
def T.given : T → List Int
  | .n0 _ => []
  | .n1 l a => own1 l ++ a.given
  | .n2 l a b => own2 l ++ (a.given ++ b.given)
  | .n3 l a b c => own3 l ++ (a.given ++ (b.given ++ c.given))
def dropS : Nat → ASs → ASs
  | 0, s => s
  | n + 1, .cons _ r => dropS n r
  | _ + 1, .nil => .nil
section
variable (R : List PDef) (n : Nat) (μ : Mu)
theorem gv0 (l : L0) : ∃ e, evSs (callF (Pc ++ R) n) b_given [some (enc0 l), none, none, none, none, none] μ = evSs (callF (Pc ++ R) n) (dropS 2 b_given) [some (enc0 l), some (.lst []), none, none, e, e] μ := by
  cases l <;> exact ⟨none, by kernel_rfl⟩
theorem gv1 (l : L1) (a : D) : evSs (callF (Pc ++ R) n) b_given [some (enc1 l a), none, none, none, none, none] μ = evSs (callF (Pc ++ R) n) (dropS 2 b_given) [some (enc1 l a), some (.lst ((own1 l).map .int)), none, none, none, none] μ := by
  cases l <;> kernel_rfl
theorem gv2 (l : L2t) (a b : D) : evSs (callF (Pc ++ R) n) b_given [some (enc2 l a b), none, none, none, none, none] μ = evSs (callF (Pc ++ R) n) (dropS 2 b_given) [some (enc2 l a b), some (.lst ((own2 l).map .int)), none, none, none, none] μ := by
  cases l <;> kernel_rfl
theorem gv3 (l : L3) (a b c : D) : evSs (callF (Pc ++ R) n) b_given [some (enc3 l a b c), none, none, none, none, none] μ = evSs (callF (Pc ++ R) n) (dropS 2 b_given) [some (enc3 l a b c), some (.lst ((own3 l).map .int)), none, none, none, none] μ := by
  obtain ⟨n1, n2, h⟩ := l
  cases n1 <;> cases n2 <;> kernel_rfl
end
theorem lc_id (μ : Mu) : ∀ (xs : List D), lcLoop (fun d m => some (some d, m)) xs μ = some (xs, μ)
  | [] => rfl
  | x :: xs => by simp [lcLoop, lc_id μ xs]
theorem given_b {c : Orc} {d : D} {xs : List D} {own l : List Int} {μ : Mu} (hp : c 2 [d] μ = some (.tup xs, μ)) (hl : l.length ≤ 1000000) (ho : own.length ≤ 4)
    (hg : ∀ f : D → Mu → Option (List D × Mu), (∀ x y : D, ∀ ys, c 9 [x] μ = some (.lst ys, μ) → f x μ = some (ys, μ)) → lc2Loop f xs μ = some (l.map .int, μ)) :
    (evSs c (dropS 2 b_given) [some d, some (.lst (own.map .int)), none, none, none, none] μ).bind retK = some (.lst ((own ++ l).map .int), μ) := by
  have e1 : l.length ≤ sizeLine := by rw [sizeLine_eq]; omega
  have e2 : own.length + l.length ≤ sizeLine := by rw [sizeLine_eq]; omega
  simp [b_given, dropS, evSs, evS, evE, evEs, evSrc, itemsD, okG, asgT, wipeD, retK, hp]
  rw [hg]
  · simp [e1, e2, binM, binD]
    rfl
  · intro x y ys hx
    simp [hx, itemsD, lc_id]
theorem given_ok (R : List PDef) (μ : Mu) : ∀ (t : T) (n : Nat), t.ht ≤ n → t.given.length ≤ 1000000 → callF (Pc ++ R) (n + 3) 9 [enc t] μ = some (.lst (t.given.map .int), μ)
  | .n0 l, n, h, _ => by
    obtain ⟨e, z⟩ := gv0 R (n + 2) μ l
    rw [cf_given, enc, z]
    cases l <;> kernel_rfl
  | .n1 l a, n, h, hz => by
    obtain ⟨m, rfl⟩ : ∃ m, n = m + 1 := ⟨n - 1, by simp only [T.ht] at h; omega⟩
    simp only [T.ht] at h
    simp only [T.given, List.length_append] at hz
    have i1 := given_ok R μ a m (by omega) (by omega)
    have ho : (own1 l).length ≤ 4 := by cases l <;> simp [own1]
    rw [cf_given, enc, gv1, given_b (parts1 R (m + 1) μ l _) (l := a.given) (by omega) ho (fun f hf => by simp [lc2Loop, hf _ .non _ i1])]
    rfl
  | .n2 l a b, n, h, hz => by
    obtain ⟨m, rfl⟩ : ∃ m, n = m + 1 := ⟨n - 1, by simp only [T.ht] at h; omega⟩
    simp only [T.ht] at h
    simp only [T.given, List.length_append] at hz
    have i1 := given_ok R μ a m (by omega) (by omega)
    have i2 := given_ok R μ b m (by omega) (by omega)
    have ho : (own2 l).length ≤ 4 := by cases l <;> simp [own2]
    rw [cf_given, enc, gv2, given_b (parts2 R (m + 1) μ l _ _) (l := a.given ++ b.given) (by simp; omega) ho (fun f hf => by simp [lc2Loop, hf _ .non _ i1, hf _ .non _ i2])]
    rfl
  | .n3 l a b c, n, h, hz => by
    obtain ⟨m, rfl⟩ : ∃ m, n = m + 1 := ⟨n - 1, by simp only [T.ht] at h; omega⟩
    simp only [T.ht] at h
    simp only [T.given, List.length_append] at hz
    have i1 := given_ok R μ a m (by omega) (by omega)
    have i2 := given_ok R μ b m (by omega) (by omega)
    have i3 := given_ok R μ c m (by omega) (by omega)
    have ho : (own3 l).length ≤ 4 := by obtain ⟨a, b, h⟩ := l; cases a <;> cases b <;> simp [own3, Nm.list]
    rw [cf_given, enc, gv3, given_b (parts3 R (m + 1) μ l _ _ _) (l := a.given ++ (b.given ++ c.given)) (by simp; omega) ho (fun f hf => by simp [lc2Loop, hf _ .non _ i1, hf _ .non _ i2, hf _ .non _ i3])]
    rfl
theorem given_size : ∀ t : T, t.given.length ≤ 4 * t.size
  | .n0 l => by simp [T.given]
  | .n1 l a => by
    have := given_size a
    have ho : (own1 l).length ≤ 4 := by cases l <;> simp [own1]
    simp only [T.given, T.size, List.length_append]; omega
  | .n2 l a b => by
    have := given_size a
    have := given_size b
    have ho : (own2 l).length ≤ 4 := by cases l <;> simp [own2]
    simp only [T.given, T.size, List.length_append]; omega
  | .n3 l a b c => by
    have := given_size a
    have := given_size b
    have := given_size c
    have ho : (own3 l).length ≤ 4 := by obtain ⟨a, b, h⟩ := l; cases a <;> cases b <;> simp [own3, Nm.list]
    simp only [T.given, T.size, List.length_append]; omega
end Pl

namespace Pl
open PySem L2
def entW : D := .tup [.str "", .tup [.str "word", .str "int", .tup []]]
def hereG (k : Int) : D := .tup [.str "m.g", .int k]
def plusD : D := .tup [.str "op", .str "+", .tup [.str "local", .int 0, hereG 1], .tup [.str "number", .int 1, hereG 2], hereG 3]
def fD (b : D) (tl : List D) : D := .tup [.str "core", .str "m.f", .tup [.int 0, .int 1], b, .tup tl]
def gD (tl : List D) : D := .tup [.str "core", .str "m.g", .tup [.int 0, .int 1], plusD, .tup (tl.take 2)]
def hD (tl : List D) : D := .tup [.str "core", .str "m.h", .tup [.int 0], .tup [.str "local", .int 0, .tup [.str "m.h", .int 1]], .tup (tl.take 1)]
def fns3 (b : D) (tl : List D) : Ob := .dct [(.inr "m.f", fD b tl), (.inr "m.g", gD tl), (.inr "m.h", hD tl)]
theorem intsOf_map : ∀ l : List Int, intsOf (l.map .int) = some l
  | [] => rfl
  | i :: l => by simp [intsOf, intsOf_map l]
theorem first_free_ok (R : List PDef) (μ : Mu) (t : T) (tl : List D) (n : Nat) (h : t.ht ≤ n) (hz : t.size ≤ 100000) : ∃ v, callF (Pc ++ R) (n + 4) 24 [fD (enc t) tl] μ = some (.int v, μ) := by
  have gz := given_size t
  have e0 := given_ok R μ t n h (by omega)
  have z : 3 + t.given.length ≤ sizeLine := by rw [sizeLine_eq]; omega
  refine ⟨maxI ((tl.length : Int) - 1) (0 :: 1 :: t.given) + 1, ?_⟩
  rw [cf_first_free]
  have e1 : idxD μ (fD (enc t) tl) (.int 4) = some (.tup tl) := rfl
  have e2 : idxD μ (fD (enc t) tl) (.int 2) = some (.tup [.int 0, .int 1]) := rfl
  have e3 : idxD μ (fD (enc t) tl) (.int 3) = some (enc t) := rfl
  have s3 : (3 : Nat) ≤ sizeLine := by rw [sizeLine_eq]; omega
  have e4 : intsOf (.int ((tl.length : Int) - 1) :: .int 0 :: .int 1 :: t.given.map .int) = some (((tl.length : Int) - 1) :: 0 :: 1 :: t.given) := by simp [intsOf, intsOf_map]
  simp [b_first_free, evSs, evS, evE, evEs, litD, itemsD, biD, binM, binD, e1, e2, e3, e0, s3, z, e4, retK]
  trace_state
end Pl

namespace Pl
open PySem L2
def Ok {α : Type} (x : Option α) (Q : α → Prop) : Prop := ∃ a, x = some a ∧ Q a
section
variable {α β : Type} {x y : Option α} {a : α} {Q Q' : α → Prop}
theorem ok_some (h : Q a) : Ok (some a) Q := ⟨a, rfl, h⟩
theorem ok_eq (e : x = some a) (h : Q a) : Ok x Q := ⟨a, e, h⟩
theorem ok_bind {f : α → Option β} {Q : β → Prop} (h : Ok x fun a => Ok (f a) Q) : Ok (x.bind f) Q := by
  obtain ⟨a, rfl, b, h1, h2⟩ := h
  exact ⟨b, h1, h2⟩
theorem ok_map {f : α → β} {Q : β → Prop} (h : Ok x fun a => Q (f a)) : Ok (x.map f) Q := by
  obtain ⟨a, rfl, h1⟩ := h
  exact ⟨_, rfl, h1⟩
theorem ok_yes {c : Prop} [Decidable c] (hc : c) (h : Ok x Q) : Ok (if c then x else y) Q := by rw [if_pos hc]; exact h
theorem ok_no {c : Prop} [Decidable c] (hc : ¬ c) (h : Ok y Q) : Ok (if c then x else y) Q := by rw [if_neg hc]; exact h
theorem ok_w (h : Ok x Q) (w : ∀ a, Q a → Q' a) : Ok x Q' := by
  obtain ⟨a, e, h⟩ := h
  exact ⟨a, e, w a h⟩
theorem ok_is (h : Ok x fun b => b = a) : x = some a := by
  obtain ⟨b, e, rfl⟩ := h
  exact e
end
def two (t : Bool) (A B : Prop) : Prop := match t with
  | true => A
  | false => B
theorem two_t {A B : Prop} (h : A) : two true A B := h
theorem two_f {A B : Prop} (h : B) : two false A B := h
theorem two_nt {A B : Prop} (h : B) : two (!true) A B := h
theorem two_nf {A B : Prop} (h : A) : two (!false) A B := h
section
variable {c : Orc} {env : En} {μ : Mu}
theorem r_val {e : AE} {Q : Bool × Mu → Prop} (h : Ok (evE c e env μ) fun x => Ok (truD x.2 x.1) fun b => Q (b, x.2)) : Ok (evB c (.val e) env μ) Q := ok_bind (ok_w h fun _ h => ok_map h)
theorem r_not {b : AB} {Q : Bool × Mu → Prop} (h : Ok (evB c b env μ) fun x => Q (!x.1, x.2)) : Ok (evB c (.not b) env μ) Q := ok_map h
theorem r_boo {o : BoolOp} {bs : ABs} {Q : Bool × Mu → Prop} (h : Ok (evBs c o bs env μ) Q) : Ok (evB c (.boo o bs) env μ) Q := h
theorem r_nilB {o : BoolOp} {Q : Bool × Mu → Prop} (h : Q (o == .And, μ)) : Ok (evBs c o .nil env μ) Q := ok_some h
theorem r_or {b : AB} {bs : ABs} {Q : Bool × Mu → Prop} (h : Ok (evB c b env μ) fun x => two x.1 (Q (true, x.2)) (Ok (evBs c .Or bs env x.2) Q)) : Ok (evBs c .Or (.cons b bs) env μ) Q :=
  ok_bind (ok_w h fun x h => by
    obtain ⟨t, m⟩ := x
    cases t
    · exact h
    · exact ok_some h)
theorem r_and {b : AB} {bs : ABs} {Q : Bool × Mu → Prop} (h : Ok (evB c b env μ) fun x => two x.1 (Ok (evBs c .And bs env x.2) Q) (Q (false, x.2))) : Ok (evBs c .And (.cons b bs) env μ) Q :=
  ok_bind (ok_w h fun x h => by
    obtain ⟨t, m⟩ := x
    cases t
    · exact ok_some h
    · exact h)
theorem r_cmp {o : CmpOp} {a b : AE} {Q : D × Mu → Prop} (h : Ok (evE c a env μ) fun x => Ok (evE c b env x.2) fun y => Ok (cmpD y.2 o x.1 y.1) fun z => Q (.bl z, y.2)) : Ok (evE c (.cmp o a b) env μ) Q :=
  ok_bind (ok_w h fun _ h => ok_bind (ok_w h fun _ h => ok_map h))
theorem r_tru {t : Bool} {Q : Bool → Prop} (h : Q t) : Ok (truD μ (.bl t)) Q := ok_some h
theorem r_isT {xs : List D} {Q : Bool → Prop} (h : Q true) : Ok (isiD "tuple" (.tup xs)) Q := ok_some h
theorem r_isS {x : Str} {Q : Bool → Prop} (h : Q true) : Ok (isiD "str" (.str x)) Q := ok_some h
theorem r_isI {i : Int} {Q : Bool → Prop} (h : Q true) : Ok (isiD "int" (.int i)) Q := ok_some h
theorem r_isB {i : Int} {Q : Bool → Prop} (h : Q false) : Ok (isiD "bool" (.int i)) Q := ok_some h
theorem r_if {b : AB} {x y : ASs} {Q : Fl × En × Mu → Prop} (h : Ok (evB c b env μ) fun t => two t.1 (Ok (evSs c x env t.2) Q) (Ok (evSs c y env t.2) Q)) : Ok (evS c (.ife b x y) env μ) Q :=
  ok_bind (ok_w h fun t h => by
    obtain ⟨t, m⟩ := t
    cases t
    · exact ok_no Bool.false_ne_true h
    · exact ok_yes rfl h)
end
theorem lc_const (μ : Mu) (b : D) (g : D → Mu → Option (Option D × Mu)) (h : ∀ i : Nat, g (.int (i : Nat)) μ = some (some b, μ)) : ∀ (p : List Nat), lcLoop g (p.map fun i => .int (i : Nat)) μ = some (p.map fun _ => b, μ)
  | [] => rfl
  | i :: p => by simp [lcLoop, h, lc_const μ b g h p]
theorem in_none (μ : Mu) (p : List Nat) : inD μ (.bl true) (.lst (p.map fun _ => .bl false)) = some false := by
  simp [inD, itemsD, flatD, flatEq]
theorem in_all (μ : Mu) (p : List Nat) : inD μ (.bl false) (.lst (p.map fun _ => .bl true)) = some false := by
  simp [inD, itemsD, flatD, flatEq]
theorem in_f (μ : Mu) {i : Nat} {b : D} {tl : List D} (h : μ[i]? = some (fns3 b tl)) : inD μ (.str "m.f") (.ref i) = some true := by
  unfold inD itemsD
  simp [h, fns3, keyD, valD]
theorem idx_f (μ : Mu) {i : Nat} {b : D} {tl : List D} (h : μ[i]? = some (fns3 b tl)) : idxD μ (.ref i) (.str "m.f") = some (fD b tl) := by
  unfold idxD
  simp [h, fns3, valD]
theorem stepped_no {c : Orc} {i f : Nat} {b x : D} {tl : List D} {p : List Nat} {v : Int} {rule : Str} {μ : Mu} (hf : μ[i]? = some (fns3 b tl)) (ha : c 4 [b, natsD p] μ = some (x, μ)) (hn : x ≠ .non) (hr : lookE tab_RULES rule = some (some f)) (hv : c 24 [fD b tl] μ = some (.int v, μ)) (hc : c f [x, .ref i, .int v] μ = some (.non, μ)) :
    Ok ((evSs c b_stepped [some (.ref i), some (.tup [.str "m.f", natsD p, .str rule]), none, none, none, none, none, none, none, none, none] μ).bind retK) (fun r => r = (.non, μ)) := by
  have e1 : cmpD μ .NotIn (.str "m.f") (.ref i) = some false := by show (inD μ _ _).map _ = _; rw [in_f μ hf]; rfl
  have e2 := idx_f μ hf
  have e4 : cmpD μ .In (.bl true) (.lst (p.map fun _ => .bl false)) = some false := in_none μ p
  have e5 : cmpD μ .In (.bl false) (.lst (p.map fun _ => .bl true)) = some false := in_all μ p
  have e7 : cmpD μ .Is x .non = some false := by cases x <;> first | rfl | exact absurd rfl hn
  have L1 := fun g h => lc_const μ (.bl false) g h p
  have L2 := fun g h => lc_const μ (.bl true) g h p
  repeat (first | (with_reducible refine ok_eq e1 ?_; try dsimp only [Bool.not_true, Bool.not_false]) | (with_reducible refine ok_eq e2 ?_; try dsimp only [Bool.not_true, Bool.not_false]) | (with_reducible refine ok_eq e4 ?_; try dsimp only [Bool.not_true, Bool.not_false]) | (with_reducible refine ok_eq e5 ?_; try dsimp only [Bool.not_true, Bool.not_false]) | (with_reducible refine ok_eq ha ?_; try dsimp only [Bool.not_true, Bool.not_false]) | (with_reducible refine ok_eq hr ?_; try dsimp only [Bool.not_true, Bool.not_false]) | (with_reducible refine ok_eq hv ?_; try dsimp only [Bool.not_true, Bool.not_false]) | (with_reducible refine ok_eq hc ?_; try dsimp only [Bool.not_true, Bool.not_false]) | (with_reducible refine ok_eq e7 ?_; try dsimp only [Bool.not_true, Bool.not_false]) | (with_reducible refine r_if ?_) | (with_reducible refine r_boo ?_) | (with_reducible refine r_or ?_) | (with_reducible refine r_and ?_) | (with_reducible refine r_not ?_) | (with_reducible refine r_val ?_) | (with_reducible refine r_cmp ?_) | (with_reducible refine r_nilB ?_) | (with_reducible refine r_tru ?_; try dsimp only [Bool.not_true, Bool.not_false]) | (with_reducible refine r_isT ?_; try dsimp only [Bool.not_true, Bool.not_false]) | (with_reducible refine r_isS ?_; try dsimp only [Bool.not_true, Bool.not_false]) | (with_reducible refine r_isI ?_) | (with_reducible refine r_isB ?_) | (refine ok_eq (a := true) rfl ?_; try dsimp only [Bool.not_true, Bool.not_false]) | (refine ok_eq (a := false) rfl ?_; try dsimp only [Bool.not_true, Bool.not_false]) | (with_reducible refine two_t ?_) | (with_reducible refine two_f ?_) | (with_reducible refine two_nt ?_) | (with_reducible refine two_nf ?_) | (refine ok_bind ?_; try dsimp only) | (refine ok_map ?_; try dsimp only) | (refine ok_some ?_; try dsimp only [Bool.not_true, Bool.not_false]))
  refine ok_eq (L1 _ fun i => ok_is ?_) ?_
  · repeat (first | (with_reducible refine r_if ?_) | (with_reducible refine r_boo ?_) | (with_reducible refine r_or ?_) | (with_reducible refine r_and ?_) | (with_reducible refine r_not ?_) | (with_reducible refine r_val ?_) | (with_reducible refine r_cmp ?_) | (with_reducible refine r_nilB ?_) | (with_reducible refine r_tru ?_; try dsimp only [Bool.not_true, Bool.not_false]) | (with_reducible refine r_isT ?_; try dsimp only [Bool.not_true, Bool.not_false]) | (with_reducible refine r_isS ?_; try dsimp only [Bool.not_true, Bool.not_false]) | (with_reducible refine r_isI ?_) | (with_reducible refine r_isB ?_) | (refine ok_eq (a := true) rfl ?_; try dsimp only [Bool.not_true, Bool.not_false]) | (refine ok_eq (a := false) rfl ?_; try dsimp only [Bool.not_true, Bool.not_false]) | (with_reducible refine two_t ?_) | (with_reducible refine two_f ?_) | (with_reducible refine two_nt ?_) | (with_reducible refine two_nf ?_) | (refine ok_bind ?_; try dsimp only) | (refine ok_map ?_; try dsimp only) | (refine ok_some ?_; try dsimp only [Bool.not_true, Bool.not_false]))
    try rfl
  dsimp only
  repeat (first | (with_reducible refine ok_eq e1 ?_; try dsimp only [Bool.not_true, Bool.not_false]) | (with_reducible refine ok_eq e2 ?_; try dsimp only [Bool.not_true, Bool.not_false]) | (with_reducible refine ok_eq e4 ?_; try dsimp only [Bool.not_true, Bool.not_false]) | (with_reducible refine ok_eq e5 ?_; try dsimp only [Bool.not_true, Bool.not_false]) | (with_reducible refine ok_eq ha ?_; try dsimp only [Bool.not_true, Bool.not_false]) | (with_reducible refine ok_eq hr ?_; try dsimp only [Bool.not_true, Bool.not_false]) | (with_reducible refine ok_eq hv ?_; try dsimp only [Bool.not_true, Bool.not_false]) | (with_reducible refine ok_eq hc ?_; try dsimp only [Bool.not_true, Bool.not_false]) | (with_reducible refine ok_eq e7 ?_; try dsimp only [Bool.not_true, Bool.not_false]) | (with_reducible refine r_if ?_) | (with_reducible refine r_boo ?_) | (with_reducible refine r_or ?_) | (with_reducible refine r_and ?_) | (with_reducible refine r_not ?_) | (with_reducible refine r_val ?_) | (with_reducible refine r_cmp ?_) | (with_reducible refine r_nilB ?_) | (with_reducible refine r_tru ?_; try dsimp only [Bool.not_true, Bool.not_false]) | (with_reducible refine r_isT ?_; try dsimp only [Bool.not_true, Bool.not_false]) | (with_reducible refine r_isS ?_; try dsimp only [Bool.not_true, Bool.not_false]) | (with_reducible refine r_isI ?_) | (with_reducible refine r_isB ?_) | (refine ok_eq (a := true) rfl ?_; try dsimp only [Bool.not_true, Bool.not_false]) | (refine ok_eq (a := false) rfl ?_; try dsimp only [Bool.not_true, Bool.not_false]) | (with_reducible refine two_t ?_) | (with_reducible refine two_f ?_) | (with_reducible refine two_nt ?_) | (with_reducible refine two_nf ?_) | (refine ok_bind ?_; try dsimp only) | (refine ok_map ?_; try dsimp only) | (refine ok_some ?_; try dsimp only [Bool.not_true, Bool.not_false]))
  refine ok_eq (L2 _ fun i => ok_is ?_) ?_
  · repeat (first | (with_reducible refine r_if ?_) | (with_reducible refine r_boo ?_) | (with_reducible refine r_or ?_) | (with_reducible refine r_and ?_) | (with_reducible refine r_not ?_) | (with_reducible refine r_val ?_) | (with_reducible refine r_cmp ?_) | (with_reducible refine r_nilB ?_) | (with_reducible refine r_tru ?_; try dsimp only [Bool.not_true, Bool.not_false]) | (with_reducible refine r_isT ?_; try dsimp only [Bool.not_true, Bool.not_false]) | (with_reducible refine r_isS ?_; try dsimp only [Bool.not_true, Bool.not_false]) | (with_reducible refine r_isI ?_) | (with_reducible refine r_isB ?_) | (refine ok_eq (a := true) rfl ?_; try dsimp only [Bool.not_true, Bool.not_false]) | (refine ok_eq (a := false) rfl ?_; try dsimp only [Bool.not_true, Bool.not_false]) | (with_reducible refine two_t ?_) | (with_reducible refine two_f ?_) | (with_reducible refine two_nt ?_) | (with_reducible refine two_nf ?_) | (refine ok_bind ?_; try dsimp only) | (refine ok_map ?_; try dsimp only) | (refine ok_some ?_; try dsimp only [Bool.not_true, Bool.not_false]))
    try simp
  dsimp only
  repeat (first | (with_reducible refine ok_eq e1 ?_; try dsimp only [Bool.not_true, Bool.not_false]) | (with_reducible refine ok_eq e2 ?_; try dsimp only [Bool.not_true, Bool.not_false]) | (with_reducible refine ok_eq e4 ?_; try dsimp only [Bool.not_true, Bool.not_false]) | (with_reducible refine ok_eq e5 ?_; try dsimp only [Bool.not_true, Bool.not_false]) | (with_reducible refine ok_eq ha ?_; try dsimp only [Bool.not_true, Bool.not_false]) | (with_reducible refine ok_eq hr ?_; try dsimp only [Bool.not_true, Bool.not_false]) | (with_reducible refine ok_eq hv ?_; try dsimp only [Bool.not_true, Bool.not_false]) | (with_reducible refine ok_eq hc ?_; try dsimp only [Bool.not_true, Bool.not_false]) | (with_reducible refine ok_eq e7 ?_; try dsimp only [Bool.not_true, Bool.not_false]) | (with_reducible refine r_if ?_) | (with_reducible refine r_boo ?_) | (with_reducible refine r_or ?_) | (with_reducible refine r_and ?_) | (with_reducible refine r_not ?_) | (with_reducible refine r_val ?_) | (with_reducible refine r_cmp ?_) | (with_reducible refine r_nilB ?_) | (with_reducible refine r_tru ?_; try dsimp only [Bool.not_true, Bool.not_false]) | (with_reducible refine r_isT ?_; try dsimp only [Bool.not_true, Bool.not_false]) | (with_reducible refine r_isS ?_; try dsimp only [Bool.not_true, Bool.not_false]) | (with_reducible refine r_isI ?_) | (with_reducible refine r_isB ?_) | (refine ok_eq (a := true) rfl ?_; try dsimp only [Bool.not_true, Bool.not_false]) | (refine ok_eq (a := false) rfl ?_; try dsimp only [Bool.not_true, Bool.not_false]) | (with_reducible refine two_t ?_) | (with_reducible refine two_f ?_) | (with_reducible refine two_nt ?_) | (with_reducible refine two_nf ?_) | (refine ok_bind ?_; try dsimp only) | (refine ok_map ?_; try dsimp only) | (refine ok_some ?_; try dsimp only [Bool.not_true, Bool.not_false]))
  rw [hr]
  dsimp only
  repeat (first | (with_reducible refine ok_eq e1 ?_; try dsimp only [Bool.not_true, Bool.not_false]) | (with_reducible refine ok_eq e2 ?_; try dsimp only [Bool.not_true, Bool.not_false]) | (with_reducible refine ok_eq e4 ?_; try dsimp only [Bool.not_true, Bool.not_false]) | (with_reducible refine ok_eq e5 ?_; try dsimp only [Bool.not_true, Bool.not_false]) | (with_reducible refine ok_eq ha ?_; try dsimp only [Bool.not_true, Bool.not_false]) | (with_reducible refine ok_eq hr ?_; try dsimp only [Bool.not_true, Bool.not_false]) | (with_reducible refine ok_eq hv ?_; try dsimp only [Bool.not_true, Bool.not_false]) | (with_reducible refine ok_eq hc ?_; try dsimp only [Bool.not_true, Bool.not_false]) | (with_reducible refine ok_eq e7 ?_; try dsimp only [Bool.not_true, Bool.not_false]) | (with_reducible refine r_if ?_) | (with_reducible refine r_boo ?_) | (with_reducible refine r_or ?_) | (with_reducible refine r_and ?_) | (with_reducible refine r_not ?_) | (with_reducible refine r_val ?_) | (with_reducible refine r_cmp ?_) | (with_reducible refine r_nilB ?_) | (with_reducible refine r_tru ?_; try dsimp only [Bool.not_true, Bool.not_false]) | (with_reducible refine r_isT ?_; try dsimp only [Bool.not_true, Bool.not_false]) | (with_reducible refine r_isS ?_; try dsimp only [Bool.not_true, Bool.not_false]) | (with_reducible refine r_isI ?_) | (with_reducible refine r_isB ?_) | (refine ok_eq (a := true) rfl ?_; try dsimp only [Bool.not_true, Bool.not_false]) | (refine ok_eq (a := false) rfl ?_; try dsimp only [Bool.not_true, Bool.not_false]) | (with_reducible refine two_t ?_) | (with_reducible refine two_f ?_) | (with_reducible refine two_nt ?_) | (with_reducible refine two_nf ?_) | (refine ok_bind ?_; try dsimp only) | (refine ok_map ?_; try dsimp only) | (refine ok_some ?_; try dsimp only [Bool.not_true, Bool.not_false]))
  try rfl
theorem cut3 (μ : Mu) (b : D) (tl : List D) : slD μ none (some 3) (fD b tl) = some (.tup [.str "core", .str "m.f", .tup [.int 0, .int 1]]) := rfl
theorem cut4 (μ : Mu) (b : D) (tl : List D) : slD μ (some 4) none (fD b tl) = some (.tup [.tup tl]) := rfl
theorem idx3 (μ : Mu) (b : D) (tl : List D) : idxD μ (fD b tl) (.int 3) = some b := rfl
theorem put_f {μ : Mu} {b b' : D} {tl : List D} : setD (μ ++ [fns3 b tl]) (.ref μ.length) (.str "m.f") (fD b' tl) = some (μ ++ [fns3 b' tl]) := by
  have : 3 < sizeLine := by rw [sizeLine_eq]; omega
  have k1 : ¬ (("m.g" : Str) = "m.f") := by decide +kernel
  have k2 : ¬ (("m.h" : Str) = "m.f") := by decide +kernel
  unfold setD
  simp [fns3, putD, this, k1, k2]
theorem stepped_yes {c : Orc} {i f : Nat} {b x y b' : D} {tl : List D} {p : List Nat} {v z : Int} {rule : Str} {μ : Mu} (hf : μ[i]? = some (fns3 b tl)) (ha : c 4 [b, natsD p] μ = some (x, μ)) (hn : x ≠ .non) (hr : lookE tab_RULES rule = some (some f)) (hv : c 24 [fD b tl] μ = some (.int v, μ)) (hc : c f [x, .ref i, .int v] μ = some (y, μ)) (hy : y ≠ .non)
    (h5 : c 5 [b, natsD p, y] μ = some (b', μ)) (h6 : c 6 [b'] μ = some (.int z, μ)) :
    Ok ((evSs c b_stepped [some (.ref i), some (.tup [.str "m.f", natsD p, .str rule]), none, none, none, none, none, none, none, none, none] μ).bind retK) (fun r => r = if z ≤ 400 then (.ref μ.length, μ ++ [fns3 b' tl]) else (.non, μ)) := by
  have e8 : cmpD μ .Is y .non = some false := by cases y <;> first | rfl | exact absurd rfl hy
  have s4 : (4 : Nat) ≤ sizeLine := by rw [sizeLine_eq]; omega
  have s5 : (5 : Nat) ≤ sizeLine := by rw [sizeLine_eq]; omega
  have d1 : biD μ .dict [.ref i] = some (.ref μ.length, μ ++ [fns3 b tl]) := by
    unfold biD
    simp [hf, fns3]
  have e9 := put_f (μ := μ) (b := b) (b' := b') (tl := tl)
  have e10 : binM (μ ++ [fns3 b tl]) .Add (.tup [.str "core", .str "m.f", .tup [.int 0, .int 1], b']) (.tup [.tup tl]) = some (fD b' tl) := by
    simp [binM, binD, s5, fD]
  have e11 : binM (μ ++ [fns3 b tl]) .Add (.tup [.str "core", .str "m.f", .tup [.int 0, .int 1]]) (.tup [b']) = some (.tup [.str "core", .str "m.f", .tup [.int 0, .int 1], b']) := by
    simp [binM, binD, s4]
  have c3 := cut3 (μ ++ [fns3 b tl]) b tl
  have c4 := cut4 (μ ++ [fns3 b tl]) b tl
  have c5 := idx3 μ b tl
  by_cases hz : z ≤ 400
  · rw [if_pos hz]
    have e12 : cmpD μ .Gt (.int z) (.int 400) = some false := by simp [cmpD]; omega
    have e1 : cmpD μ .NotIn (.str "m.f") (.ref i) = some false := by show (inD μ _ _).map _ = _; rw [in_f μ hf]; rfl
    have e2 := idx_f μ hf
    have e4 : cmpD μ .In (.bl true) (.lst (p.map fun _ => .bl false)) = some false := in_none μ p
    have e5 : cmpD μ .In (.bl false) (.lst (p.map fun _ => .bl true)) = some false := in_all μ p
    have e7 : cmpD μ .Is x .non = some false := by cases x <;> first | rfl | exact absurd rfl hn
    have L1 := fun g h => lc_const μ (.bl false) g h p
    have L2 := fun g h => lc_const μ (.bl true) g h p
    repeat (first | (with_reducible refine ok_eq e1 ?_; try dsimp only [Bool.not_true, Bool.not_false]) | (with_reducible refine ok_eq e2 ?_; try dsimp only [Bool.not_true, Bool.not_false]) | (with_reducible refine ok_eq e4 ?_; try dsimp only [Bool.not_true, Bool.not_false]) | (with_reducible refine ok_eq e5 ?_; try dsimp only [Bool.not_true, Bool.not_false]) | (with_reducible refine ok_eq ha ?_; try dsimp only [Bool.not_true, Bool.not_false]) | (with_reducible refine ok_eq hr ?_; try dsimp only [Bool.not_true, Bool.not_false]) | (with_reducible refine ok_eq hv ?_; try dsimp only [Bool.not_true, Bool.not_false]) | (with_reducible refine ok_eq hc ?_; try dsimp only [Bool.not_true, Bool.not_false]) | (with_reducible refine ok_eq e7 ?_; try dsimp only [Bool.not_true, Bool.not_false]) | (with_reducible refine ok_eq e8 ?_; try dsimp only [Bool.not_true, Bool.not_false]) | (with_reducible refine ok_eq h5 ?_; try dsimp only [Bool.not_true, Bool.not_false]) | (with_reducible refine ok_eq h6 ?_; try dsimp only [Bool.not_true, Bool.not_false]) | (with_reducible refine ok_eq e12 ?_; try dsimp only [Bool.not_true, Bool.not_false]) | (with_reducible refine ok_eq d1 ?_; try dsimp only [Bool.not_true, Bool.not_false]) | (with_reducible refine ok_eq e9 ?_; try dsimp only [Bool.not_true, Bool.not_false]) | (with_reducible refine ok_eq e10 ?_; try dsimp only [Bool.not_true, Bool.not_false]) | (with_reducible refine ok_eq e11 ?_; try dsimp only [Bool.not_true, Bool.not_false]) | (with_reducible refine ok_eq c3 ?_; try dsimp only [Bool.not_true, Bool.not_false]) | (with_reducible refine ok_eq c4 ?_; try dsimp only [Bool.not_true, Bool.not_false]) | (with_reducible refine ok_eq c5 ?_; try dsimp only [Bool.not_true, Bool.not_false]) | (with_reducible refine r_if ?_) | (with_reducible refine r_boo ?_) | (with_reducible refine r_or ?_) | (with_reducible refine r_and ?_) | (with_reducible refine r_not ?_) | (with_reducible refine r_val ?_) | (with_reducible refine r_cmp ?_) | (with_reducible refine r_nilB ?_) | (with_reducible refine r_tru ?_; try dsimp only [Bool.not_true, Bool.not_false]) | (with_reducible refine r_isT ?_; try dsimp only [Bool.not_true, Bool.not_false]) | (with_reducible refine r_isS ?_; try dsimp only [Bool.not_true, Bool.not_false]) | (with_reducible refine r_isI ?_) | (with_reducible refine r_isB ?_) | (refine ok_eq (a := true) rfl ?_; try dsimp only [Bool.not_true, Bool.not_false]) | (refine ok_eq (a := false) rfl ?_; try dsimp only [Bool.not_true, Bool.not_false]) | (with_reducible refine two_t ?_) | (with_reducible refine two_f ?_) | (with_reducible refine two_nt ?_) | (with_reducible refine two_nf ?_) | (refine ok_bind ?_; try dsimp only) | (refine ok_map ?_; try dsimp only) | (refine ok_some ?_; try dsimp only [Bool.not_true, Bool.not_false]))
    refine ok_eq (L1 _ fun i => ok_is ?_) ?_
    · repeat (first | (with_reducible refine r_if ?_) | (with_reducible refine r_boo ?_) | (with_reducible refine r_or ?_) | (with_reducible refine r_and ?_) | (with_reducible refine r_not ?_) | (with_reducible refine r_val ?_) | (with_reducible refine r_cmp ?_) | (with_reducible refine r_nilB ?_) | (with_reducible refine r_tru ?_; try dsimp only [Bool.not_true, Bool.not_false]) | (with_reducible refine r_isT ?_; try dsimp only [Bool.not_true, Bool.not_false]) | (with_reducible refine r_isS ?_; try dsimp only [Bool.not_true, Bool.not_false]) | (with_reducible refine r_isI ?_) | (with_reducible refine r_isB ?_) | (refine ok_eq (a := true) rfl ?_; try dsimp only [Bool.not_true, Bool.not_false]) | (refine ok_eq (a := false) rfl ?_; try dsimp only [Bool.not_true, Bool.not_false]) | (with_reducible refine two_t ?_) | (with_reducible refine two_f ?_) | (with_reducible refine two_nt ?_) | (with_reducible refine two_nf ?_) | (refine ok_bind ?_; try dsimp only) | (refine ok_map ?_; try dsimp only) | (refine ok_some ?_; try dsimp only [Bool.not_true, Bool.not_false]))
      try rfl
    dsimp only
    repeat (first | (with_reducible refine ok_eq e1 ?_; try dsimp only [Bool.not_true, Bool.not_false]) | (with_reducible refine ok_eq e2 ?_; try dsimp only [Bool.not_true, Bool.not_false]) | (with_reducible refine ok_eq e4 ?_; try dsimp only [Bool.not_true, Bool.not_false]) | (with_reducible refine ok_eq e5 ?_; try dsimp only [Bool.not_true, Bool.not_false]) | (with_reducible refine ok_eq ha ?_; try dsimp only [Bool.not_true, Bool.not_false]) | (with_reducible refine ok_eq hr ?_; try dsimp only [Bool.not_true, Bool.not_false]) | (with_reducible refine ok_eq hv ?_; try dsimp only [Bool.not_true, Bool.not_false]) | (with_reducible refine ok_eq hc ?_; try dsimp only [Bool.not_true, Bool.not_false]) | (with_reducible refine ok_eq e7 ?_; try dsimp only [Bool.not_true, Bool.not_false]) | (with_reducible refine ok_eq e8 ?_; try dsimp only [Bool.not_true, Bool.not_false]) | (with_reducible refine ok_eq h5 ?_; try dsimp only [Bool.not_true, Bool.not_false]) | (with_reducible refine ok_eq h6 ?_; try dsimp only [Bool.not_true, Bool.not_false]) | (with_reducible refine ok_eq e12 ?_; try dsimp only [Bool.not_true, Bool.not_false]) | (with_reducible refine ok_eq d1 ?_; try dsimp only [Bool.not_true, Bool.not_false]) | (with_reducible refine ok_eq e9 ?_; try dsimp only [Bool.not_true, Bool.not_false]) | (with_reducible refine ok_eq e10 ?_; try dsimp only [Bool.not_true, Bool.not_false]) | (with_reducible refine ok_eq e11 ?_; try dsimp only [Bool.not_true, Bool.not_false]) | (with_reducible refine ok_eq c3 ?_; try dsimp only [Bool.not_true, Bool.not_false]) | (with_reducible refine ok_eq c4 ?_; try dsimp only [Bool.not_true, Bool.not_false]) | (with_reducible refine ok_eq c5 ?_; try dsimp only [Bool.not_true, Bool.not_false]) | (with_reducible refine r_if ?_) | (with_reducible refine r_boo ?_) | (with_reducible refine r_or ?_) | (with_reducible refine r_and ?_) | (with_reducible refine r_not ?_) | (with_reducible refine r_val ?_) | (with_reducible refine r_cmp ?_) | (with_reducible refine r_nilB ?_) | (with_reducible refine r_tru ?_; try dsimp only [Bool.not_true, Bool.not_false]) | (with_reducible refine r_isT ?_; try dsimp only [Bool.not_true, Bool.not_false]) | (with_reducible refine r_isS ?_; try dsimp only [Bool.not_true, Bool.not_false]) | (with_reducible refine r_isI ?_) | (with_reducible refine r_isB ?_) | (refine ok_eq (a := true) rfl ?_; try dsimp only [Bool.not_true, Bool.not_false]) | (refine ok_eq (a := false) rfl ?_; try dsimp only [Bool.not_true, Bool.not_false]) | (with_reducible refine two_t ?_) | (with_reducible refine two_f ?_) | (with_reducible refine two_nt ?_) | (with_reducible refine two_nf ?_) | (refine ok_bind ?_; try dsimp only) | (refine ok_map ?_; try dsimp only) | (refine ok_some ?_; try dsimp only [Bool.not_true, Bool.not_false]))
    refine ok_eq (L2 _ fun i => ok_is ?_) ?_
    · repeat (first | (with_reducible refine r_if ?_) | (with_reducible refine r_boo ?_) | (with_reducible refine r_or ?_) | (with_reducible refine r_and ?_) | (with_reducible refine r_not ?_) | (with_reducible refine r_val ?_) | (with_reducible refine r_cmp ?_) | (with_reducible refine r_nilB ?_) | (with_reducible refine r_tru ?_; try dsimp only [Bool.not_true, Bool.not_false]) | (with_reducible refine r_isT ?_; try dsimp only [Bool.not_true, Bool.not_false]) | (with_reducible refine r_isS ?_; try dsimp only [Bool.not_true, Bool.not_false]) | (with_reducible refine r_isI ?_) | (with_reducible refine r_isB ?_) | (refine ok_eq (a := true) rfl ?_; try dsimp only [Bool.not_true, Bool.not_false]) | (refine ok_eq (a := false) rfl ?_; try dsimp only [Bool.not_true, Bool.not_false]) | (with_reducible refine two_t ?_) | (with_reducible refine two_f ?_) | (with_reducible refine two_nt ?_) | (with_reducible refine two_nf ?_) | (refine ok_bind ?_; try dsimp only) | (refine ok_map ?_; try dsimp only) | (refine ok_some ?_; try dsimp only [Bool.not_true, Bool.not_false]))
      try simp
    dsimp only
    repeat (first | (with_reducible refine ok_eq e1 ?_; try dsimp only [Bool.not_true, Bool.not_false]) | (with_reducible refine ok_eq e2 ?_; try dsimp only [Bool.not_true, Bool.not_false]) | (with_reducible refine ok_eq e4 ?_; try dsimp only [Bool.not_true, Bool.not_false]) | (with_reducible refine ok_eq e5 ?_; try dsimp only [Bool.not_true, Bool.not_false]) | (with_reducible refine ok_eq ha ?_; try dsimp only [Bool.not_true, Bool.not_false]) | (with_reducible refine ok_eq hr ?_; try dsimp only [Bool.not_true, Bool.not_false]) | (with_reducible refine ok_eq hv ?_; try dsimp only [Bool.not_true, Bool.not_false]) | (with_reducible refine ok_eq hc ?_; try dsimp only [Bool.not_true, Bool.not_false]) | (with_reducible refine ok_eq e7 ?_; try dsimp only [Bool.not_true, Bool.not_false]) | (with_reducible refine ok_eq e8 ?_; try dsimp only [Bool.not_true, Bool.not_false]) | (with_reducible refine ok_eq h5 ?_; try dsimp only [Bool.not_true, Bool.not_false]) | (with_reducible refine ok_eq h6 ?_; try dsimp only [Bool.not_true, Bool.not_false]) | (with_reducible refine ok_eq e12 ?_; try dsimp only [Bool.not_true, Bool.not_false]) | (with_reducible refine ok_eq d1 ?_; try dsimp only [Bool.not_true, Bool.not_false]) | (with_reducible refine ok_eq e9 ?_; try dsimp only [Bool.not_true, Bool.not_false]) | (with_reducible refine ok_eq e10 ?_; try dsimp only [Bool.not_true, Bool.not_false]) | (with_reducible refine ok_eq e11 ?_; try dsimp only [Bool.not_true, Bool.not_false]) | (with_reducible refine ok_eq c3 ?_; try dsimp only [Bool.not_true, Bool.not_false]) | (with_reducible refine ok_eq c4 ?_; try dsimp only [Bool.not_true, Bool.not_false]) | (with_reducible refine ok_eq c5 ?_; try dsimp only [Bool.not_true, Bool.not_false]) | (with_reducible refine r_if ?_) | (with_reducible refine r_boo ?_) | (with_reducible refine r_or ?_) | (with_reducible refine r_and ?_) | (with_reducible refine r_not ?_) | (with_reducible refine r_val ?_) | (with_reducible refine r_cmp ?_) | (with_reducible refine r_nilB ?_) | (with_reducible refine r_tru ?_; try dsimp only [Bool.not_true, Bool.not_false]) | (with_reducible refine r_isT ?_; try dsimp only [Bool.not_true, Bool.not_false]) | (with_reducible refine r_isS ?_; try dsimp only [Bool.not_true, Bool.not_false]) | (with_reducible refine r_isI ?_) | (with_reducible refine r_isB ?_) | (refine ok_eq (a := true) rfl ?_; try dsimp only [Bool.not_true, Bool.not_false]) | (refine ok_eq (a := false) rfl ?_; try dsimp only [Bool.not_true, Bool.not_false]) | (with_reducible refine two_t ?_) | (with_reducible refine two_f ?_) | (with_reducible refine two_nt ?_) | (with_reducible refine two_nf ?_) | (refine ok_bind ?_; try dsimp only) | (refine ok_map ?_; try dsimp only) | (refine ok_some ?_; try dsimp only [Bool.not_true, Bool.not_false]))
    rw [hr]
    dsimp only
    repeat (first | (with_reducible refine ok_eq e1 ?_; try dsimp only [Bool.not_true, Bool.not_false]) | (with_reducible refine ok_eq e2 ?_; try dsimp only [Bool.not_true, Bool.not_false]) | (with_reducible refine ok_eq e4 ?_; try dsimp only [Bool.not_true, Bool.not_false]) | (with_reducible refine ok_eq e5 ?_; try dsimp only [Bool.not_true, Bool.not_false]) | (with_reducible refine ok_eq ha ?_; try dsimp only [Bool.not_true, Bool.not_false]) | (with_reducible refine ok_eq hr ?_; try dsimp only [Bool.not_true, Bool.not_false]) | (with_reducible refine ok_eq hv ?_; try dsimp only [Bool.not_true, Bool.not_false]) | (with_reducible refine ok_eq hc ?_; try dsimp only [Bool.not_true, Bool.not_false]) | (with_reducible refine ok_eq e7 ?_; try dsimp only [Bool.not_true, Bool.not_false]) | (with_reducible refine ok_eq e8 ?_; try dsimp only [Bool.not_true, Bool.not_false]) | (with_reducible refine ok_eq h5 ?_; try dsimp only [Bool.not_true, Bool.not_false]) | (with_reducible refine ok_eq h6 ?_; try dsimp only [Bool.not_true, Bool.not_false]) | (with_reducible refine ok_eq e12 ?_; try dsimp only [Bool.not_true, Bool.not_false]) | (with_reducible refine ok_eq d1 ?_; try dsimp only [Bool.not_true, Bool.not_false]) | (with_reducible refine ok_eq e9 ?_; try dsimp only [Bool.not_true, Bool.not_false]) | (with_reducible refine ok_eq e10 ?_; try dsimp only [Bool.not_true, Bool.not_false]) | (with_reducible refine ok_eq e11 ?_; try dsimp only [Bool.not_true, Bool.not_false]) | (with_reducible refine ok_eq c3 ?_; try dsimp only [Bool.not_true, Bool.not_false]) | (with_reducible refine ok_eq c4 ?_; try dsimp only [Bool.not_true, Bool.not_false]) | (with_reducible refine ok_eq c5 ?_; try dsimp only [Bool.not_true, Bool.not_false]) | (with_reducible refine r_if ?_) | (with_reducible refine r_boo ?_) | (with_reducible refine r_or ?_) | (with_reducible refine r_and ?_) | (with_reducible refine r_not ?_) | (with_reducible refine r_val ?_) | (with_reducible refine r_cmp ?_) | (with_reducible refine r_nilB ?_) | (with_reducible refine r_tru ?_; try dsimp only [Bool.not_true, Bool.not_false]) | (with_reducible refine r_isT ?_; try dsimp only [Bool.not_true, Bool.not_false]) | (with_reducible refine r_isS ?_; try dsimp only [Bool.not_true, Bool.not_false]) | (with_reducible refine r_isI ?_) | (with_reducible refine r_isB ?_) | (refine ok_eq (a := true) rfl ?_; try dsimp only [Bool.not_true, Bool.not_false]) | (refine ok_eq (a := false) rfl ?_; try dsimp only [Bool.not_true, Bool.not_false]) | (with_reducible refine two_t ?_) | (with_reducible refine two_f ?_) | (with_reducible refine two_nt ?_) | (with_reducible refine two_nf ?_) | (refine ok_bind ?_; try dsimp only) | (refine ok_map ?_; try dsimp only) | (refine ok_some ?_; try dsimp only [Bool.not_true, Bool.not_false]))
    try rfl
    refine ok_eq e9 ?_
    repeat (first | (with_reducible refine r_if ?_) | (with_reducible refine r_boo ?_) | (with_reducible refine r_or ?_) | (with_reducible refine r_and ?_) | (with_reducible refine r_not ?_) | (with_reducible refine r_val ?_) | (with_reducible refine r_cmp ?_) | (with_reducible refine r_nilB ?_) | (with_reducible refine r_tru ?_; try dsimp only [Bool.not_true, Bool.not_false]) | (with_reducible refine r_isT ?_; try dsimp only [Bool.not_true, Bool.not_false]) | (with_reducible refine r_isS ?_; try dsimp only [Bool.not_true, Bool.not_false]) | (with_reducible refine r_isI ?_) | (with_reducible refine r_isB ?_) | (refine ok_eq (a := true) rfl ?_; try dsimp only [Bool.not_true, Bool.not_false]) | (refine ok_eq (a := false) rfl ?_; try dsimp only [Bool.not_true, Bool.not_false]) | (with_reducible refine two_t ?_) | (with_reducible refine two_f ?_) | (with_reducible refine two_nt ?_) | (with_reducible refine two_nf ?_) | (refine ok_bind ?_; try dsimp only) | (refine ok_map ?_; try dsimp only) | (refine ok_some ?_; try dsimp only [Bool.not_true, Bool.not_false]))
    try rfl
  · rw [if_neg hz]
    have e12 : cmpD μ .Gt (.int z) (.int 400) = some true := by simp [cmpD]; omega
    have e1 : cmpD μ .NotIn (.str "m.f") (.ref i) = some false := by show (inD μ _ _).map _ = _; rw [in_f μ hf]; rfl
    have e2 := idx_f μ hf
    have e4 : cmpD μ .In (.bl true) (.lst (p.map fun _ => .bl false)) = some false := in_none μ p
    have e5 : cmpD μ .In (.bl false) (.lst (p.map fun _ => .bl true)) = some false := in_all μ p
    have e7 : cmpD μ .Is x .non = some false := by cases x <;> first | rfl | exact absurd rfl hn
    have L1 := fun g h => lc_const μ (.bl false) g h p
    have L2 := fun g h => lc_const μ (.bl true) g h p
    repeat (first | (with_reducible refine ok_eq e1 ?_; try dsimp only [Bool.not_true, Bool.not_false]) | (with_reducible refine ok_eq e2 ?_; try dsimp only [Bool.not_true, Bool.not_false]) | (with_reducible refine ok_eq e4 ?_; try dsimp only [Bool.not_true, Bool.not_false]) | (with_reducible refine ok_eq e5 ?_; try dsimp only [Bool.not_true, Bool.not_false]) | (with_reducible refine ok_eq ha ?_; try dsimp only [Bool.not_true, Bool.not_false]) | (with_reducible refine ok_eq hr ?_; try dsimp only [Bool.not_true, Bool.not_false]) | (with_reducible refine ok_eq hv ?_; try dsimp only [Bool.not_true, Bool.not_false]) | (with_reducible refine ok_eq hc ?_; try dsimp only [Bool.not_true, Bool.not_false]) | (with_reducible refine ok_eq e7 ?_; try dsimp only [Bool.not_true, Bool.not_false]) | (with_reducible refine ok_eq e8 ?_; try dsimp only [Bool.not_true, Bool.not_false]) | (with_reducible refine ok_eq h5 ?_; try dsimp only [Bool.not_true, Bool.not_false]) | (with_reducible refine ok_eq h6 ?_; try dsimp only [Bool.not_true, Bool.not_false]) | (with_reducible refine ok_eq e12 ?_; try dsimp only [Bool.not_true, Bool.not_false]) | (with_reducible refine ok_eq c5 ?_; try dsimp only [Bool.not_true, Bool.not_false]) | (with_reducible refine r_if ?_) | (with_reducible refine r_boo ?_) | (with_reducible refine r_or ?_) | (with_reducible refine r_and ?_) | (with_reducible refine r_not ?_) | (with_reducible refine r_val ?_) | (with_reducible refine r_cmp ?_) | (with_reducible refine r_nilB ?_) | (with_reducible refine r_tru ?_; try dsimp only [Bool.not_true, Bool.not_false]) | (with_reducible refine r_isT ?_; try dsimp only [Bool.not_true, Bool.not_false]) | (with_reducible refine r_isS ?_; try dsimp only [Bool.not_true, Bool.not_false]) | (with_reducible refine r_isI ?_) | (with_reducible refine r_isB ?_) | (refine ok_eq (a := true) rfl ?_; try dsimp only [Bool.not_true, Bool.not_false]) | (refine ok_eq (a := false) rfl ?_; try dsimp only [Bool.not_true, Bool.not_false]) | (with_reducible refine two_t ?_) | (with_reducible refine two_f ?_) | (with_reducible refine two_nt ?_) | (with_reducible refine two_nf ?_) | (refine ok_bind ?_; try dsimp only) | (refine ok_map ?_; try dsimp only) | (refine ok_some ?_; try dsimp only [Bool.not_true, Bool.not_false]))
    refine ok_eq (L1 _ fun i => ok_is ?_) ?_
    · repeat (first | (with_reducible refine r_if ?_) | (with_reducible refine r_boo ?_) | (with_reducible refine r_or ?_) | (with_reducible refine r_and ?_) | (with_reducible refine r_not ?_) | (with_reducible refine r_val ?_) | (with_reducible refine r_cmp ?_) | (with_reducible refine r_nilB ?_) | (with_reducible refine r_tru ?_; try dsimp only [Bool.not_true, Bool.not_false]) | (with_reducible refine r_isT ?_; try dsimp only [Bool.not_true, Bool.not_false]) | (with_reducible refine r_isS ?_; try dsimp only [Bool.not_true, Bool.not_false]) | (with_reducible refine r_isI ?_) | (with_reducible refine r_isB ?_) | (refine ok_eq (a := true) rfl ?_; try dsimp only [Bool.not_true, Bool.not_false]) | (refine ok_eq (a := false) rfl ?_; try dsimp only [Bool.not_true, Bool.not_false]) | (with_reducible refine two_t ?_) | (with_reducible refine two_f ?_) | (with_reducible refine two_nt ?_) | (with_reducible refine two_nf ?_) | (refine ok_bind ?_; try dsimp only) | (refine ok_map ?_; try dsimp only) | (refine ok_some ?_; try dsimp only [Bool.not_true, Bool.not_false]))
      try rfl
    dsimp only
    repeat (first | (with_reducible refine ok_eq e1 ?_; try dsimp only [Bool.not_true, Bool.not_false]) | (with_reducible refine ok_eq e2 ?_; try dsimp only [Bool.not_true, Bool.not_false]) | (with_reducible refine ok_eq e4 ?_; try dsimp only [Bool.not_true, Bool.not_false]) | (with_reducible refine ok_eq e5 ?_; try dsimp only [Bool.not_true, Bool.not_false]) | (with_reducible refine ok_eq ha ?_; try dsimp only [Bool.not_true, Bool.not_false]) | (with_reducible refine ok_eq hr ?_; try dsimp only [Bool.not_true, Bool.not_false]) | (with_reducible refine ok_eq hv ?_; try dsimp only [Bool.not_true, Bool.not_false]) | (with_reducible refine ok_eq hc ?_; try dsimp only [Bool.not_true, Bool.not_false]) | (with_reducible refine ok_eq e7 ?_; try dsimp only [Bool.not_true, Bool.not_false]) | (with_reducible refine ok_eq e8 ?_; try dsimp only [Bool.not_true, Bool.not_false]) | (with_reducible refine ok_eq h5 ?_; try dsimp only [Bool.not_true, Bool.not_false]) | (with_reducible refine ok_eq h6 ?_; try dsimp only [Bool.not_true, Bool.not_false]) | (with_reducible refine ok_eq e12 ?_; try dsimp only [Bool.not_true, Bool.not_false]) | (with_reducible refine ok_eq c5 ?_; try dsimp only [Bool.not_true, Bool.not_false]) | (with_reducible refine r_if ?_) | (with_reducible refine r_boo ?_) | (with_reducible refine r_or ?_) | (with_reducible refine r_and ?_) | (with_reducible refine r_not ?_) | (with_reducible refine r_val ?_) | (with_reducible refine r_cmp ?_) | (with_reducible refine r_nilB ?_) | (with_reducible refine r_tru ?_; try dsimp only [Bool.not_true, Bool.not_false]) | (with_reducible refine r_isT ?_; try dsimp only [Bool.not_true, Bool.not_false]) | (with_reducible refine r_isS ?_; try dsimp only [Bool.not_true, Bool.not_false]) | (with_reducible refine r_isI ?_) | (with_reducible refine r_isB ?_) | (refine ok_eq (a := true) rfl ?_; try dsimp only [Bool.not_true, Bool.not_false]) | (refine ok_eq (a := false) rfl ?_; try dsimp only [Bool.not_true, Bool.not_false]) | (with_reducible refine two_t ?_) | (with_reducible refine two_f ?_) | (with_reducible refine two_nt ?_) | (with_reducible refine two_nf ?_) | (refine ok_bind ?_; try dsimp only) | (refine ok_map ?_; try dsimp only) | (refine ok_some ?_; try dsimp only [Bool.not_true, Bool.not_false]))
    refine ok_eq (L2 _ fun i => ok_is ?_) ?_
    · repeat (first | (with_reducible refine r_if ?_) | (with_reducible refine r_boo ?_) | (with_reducible refine r_or ?_) | (with_reducible refine r_and ?_) | (with_reducible refine r_not ?_) | (with_reducible refine r_val ?_) | (with_reducible refine r_cmp ?_) | (with_reducible refine r_nilB ?_) | (with_reducible refine r_tru ?_; try dsimp only [Bool.not_true, Bool.not_false]) | (with_reducible refine r_isT ?_; try dsimp only [Bool.not_true, Bool.not_false]) | (with_reducible refine r_isS ?_; try dsimp only [Bool.not_true, Bool.not_false]) | (with_reducible refine r_isI ?_) | (with_reducible refine r_isB ?_) | (refine ok_eq (a := true) rfl ?_; try dsimp only [Bool.not_true, Bool.not_false]) | (refine ok_eq (a := false) rfl ?_; try dsimp only [Bool.not_true, Bool.not_false]) | (with_reducible refine two_t ?_) | (with_reducible refine two_f ?_) | (with_reducible refine two_nt ?_) | (with_reducible refine two_nf ?_) | (refine ok_bind ?_; try dsimp only) | (refine ok_map ?_; try dsimp only) | (refine ok_some ?_; try dsimp only [Bool.not_true, Bool.not_false]))
      try simp
    dsimp only
    repeat (first | (with_reducible refine ok_eq e1 ?_; try dsimp only [Bool.not_true, Bool.not_false]) | (with_reducible refine ok_eq e2 ?_; try dsimp only [Bool.not_true, Bool.not_false]) | (with_reducible refine ok_eq e4 ?_; try dsimp only [Bool.not_true, Bool.not_false]) | (with_reducible refine ok_eq e5 ?_; try dsimp only [Bool.not_true, Bool.not_false]) | (with_reducible refine ok_eq ha ?_; try dsimp only [Bool.not_true, Bool.not_false]) | (with_reducible refine ok_eq hr ?_; try dsimp only [Bool.not_true, Bool.not_false]) | (with_reducible refine ok_eq hv ?_; try dsimp only [Bool.not_true, Bool.not_false]) | (with_reducible refine ok_eq hc ?_; try dsimp only [Bool.not_true, Bool.not_false]) | (with_reducible refine ok_eq e7 ?_; try dsimp only [Bool.not_true, Bool.not_false]) | (with_reducible refine ok_eq e8 ?_; try dsimp only [Bool.not_true, Bool.not_false]) | (with_reducible refine ok_eq h5 ?_; try dsimp only [Bool.not_true, Bool.not_false]) | (with_reducible refine ok_eq h6 ?_; try dsimp only [Bool.not_true, Bool.not_false]) | (with_reducible refine ok_eq e12 ?_; try dsimp only [Bool.not_true, Bool.not_false]) | (with_reducible refine ok_eq c5 ?_; try dsimp only [Bool.not_true, Bool.not_false]) | (with_reducible refine r_if ?_) | (with_reducible refine r_boo ?_) | (with_reducible refine r_or ?_) | (with_reducible refine r_and ?_) | (with_reducible refine r_not ?_) | (with_reducible refine r_val ?_) | (with_reducible refine r_cmp ?_) | (with_reducible refine r_nilB ?_) | (with_reducible refine r_tru ?_; try dsimp only [Bool.not_true, Bool.not_false]) | (with_reducible refine r_isT ?_; try dsimp only [Bool.not_true, Bool.not_false]) | (with_reducible refine r_isS ?_; try dsimp only [Bool.not_true, Bool.not_false]) | (with_reducible refine r_isI ?_) | (with_reducible refine r_isB ?_) | (refine ok_eq (a := true) rfl ?_; try dsimp only [Bool.not_true, Bool.not_false]) | (refine ok_eq (a := false) rfl ?_; try dsimp only [Bool.not_true, Bool.not_false]) | (with_reducible refine two_t ?_) | (with_reducible refine two_f ?_) | (with_reducible refine two_nt ?_) | (with_reducible refine two_nf ?_) | (refine ok_bind ?_; try dsimp only) | (refine ok_map ?_; try dsimp only) | (refine ok_some ?_; try dsimp only [Bool.not_true, Bool.not_false]))
    rw [hr]
    dsimp only
    repeat (first | (with_reducible refine ok_eq e1 ?_; try dsimp only [Bool.not_true, Bool.not_false]) | (with_reducible refine ok_eq e2 ?_; try dsimp only [Bool.not_true, Bool.not_false]) | (with_reducible refine ok_eq e4 ?_; try dsimp only [Bool.not_true, Bool.not_false]) | (with_reducible refine ok_eq e5 ?_; try dsimp only [Bool.not_true, Bool.not_false]) | (with_reducible refine ok_eq ha ?_; try dsimp only [Bool.not_true, Bool.not_false]) | (with_reducible refine ok_eq hr ?_; try dsimp only [Bool.not_true, Bool.not_false]) | (with_reducible refine ok_eq hv ?_; try dsimp only [Bool.not_true, Bool.not_false]) | (with_reducible refine ok_eq hc ?_; try dsimp only [Bool.not_true, Bool.not_false]) | (with_reducible refine ok_eq e7 ?_; try dsimp only [Bool.not_true, Bool.not_false]) | (with_reducible refine ok_eq e8 ?_; try dsimp only [Bool.not_true, Bool.not_false]) | (with_reducible refine ok_eq h5 ?_; try dsimp only [Bool.not_true, Bool.not_false]) | (with_reducible refine ok_eq h6 ?_; try dsimp only [Bool.not_true, Bool.not_false]) | (with_reducible refine ok_eq e12 ?_; try dsimp only [Bool.not_true, Bool.not_false]) | (with_reducible refine ok_eq c5 ?_; try dsimp only [Bool.not_true, Bool.not_false]) | (with_reducible refine r_if ?_) | (with_reducible refine r_boo ?_) | (with_reducible refine r_or ?_) | (with_reducible refine r_and ?_) | (with_reducible refine r_not ?_) | (with_reducible refine r_val ?_) | (with_reducible refine r_cmp ?_) | (with_reducible refine r_nilB ?_) | (with_reducible refine r_tru ?_; try dsimp only [Bool.not_true, Bool.not_false]) | (with_reducible refine r_isT ?_; try dsimp only [Bool.not_true, Bool.not_false]) | (with_reducible refine r_isS ?_; try dsimp only [Bool.not_true, Bool.not_false]) | (with_reducible refine r_isI ?_) | (with_reducible refine r_isB ?_) | (refine ok_eq (a := true) rfl ?_; try dsimp only [Bool.not_true, Bool.not_false]) | (refine ok_eq (a := false) rfl ?_; try dsimp only [Bool.not_true, Bool.not_false]) | (with_reducible refine two_t ?_) | (with_reducible refine two_f ?_) | (with_reducible refine two_nt ?_) | (with_reducible refine two_nf ?_) | (refine ok_bind ?_; try dsimp only) | (refine ok_map ?_; try dsimp only) | (refine ok_some ?_; try dsimp only [Bool.not_true, Bool.not_false]))
    try rfl
end Pl

namespace Pl
open PySem L2
def okI (i : Int) : Prop := i.natAbs < 10 ^ 12
def signs : List Str := ["<", "=", "+", "-", "*", "/", "mod"]
def L0.lim : L0 → Prop
  | .num n h => okI n ∧ okI h
  | .loc x h => okI x ∧ okI h
  | .top h => okI h
  | .hole => True
  | .dat n h => okI n ∧ okI h
def L1.lim : L1 → Prop
  | .fn x h => okI x ∧ okI h
  | .read h | .cell h | .print h => okI h
def L2t.lim : L2t → Prop
  | .lets x h => okI x ∧ okI h
  | .callby h | .call h | .dat h | .write h => okI h
  | .op s h => s ∈ signs ∧ okI h
def Nm.lim : Nm → Prop
  | .z => True
  | .one a => okI a
  | .two a b => okI a ∧ okI b
def L3.lim : L3 → Prop
  | .sw a b h => a.lim ∧ b.lim ∧ okI h
def T.lim : T → Prop
  | .n0 l => l.lim
  | .n1 l a => l.lim ∧ a.lim
  | .n2 l a b => l.lim ∧ a.lim ∧ b.lim
  | .n3 l a b c => l.lim ∧ a.lim ∧ b.lim ∧ c.lim
def T.dep : T → Nat
  | .n0 _ => 2
  | .n1 _ a => a.dep + 1
  | .n2 _ a b => max a.dep b.dep + 2
  | .n3 _ a b c => max a.dep (max b.dep c.dep) + 3
/-- data that may be shown, with its measures -/
structure Sh (d : PyData) (w k : Nat) : Prop where
  short : d.leavesShort 13 = true
  shows : d.showable = true
  wt : d.weight ≤ w
  dp : d.depth ≤ k
  can : d.canLay0 = true
structure ShA (ds : List PyData) (w k : Nat) : Prop where
  short : PyData.leavesShortAll 13 ds = true
  shows : PyData.showableAll ds = true
  wt : PyData.weightAll ds ≤ w
  dp : PyData.depthAll ds ≤ k
  can : PyData.canLayAll0 ds = true
theorem Sh.up {d : PyData} {w k w' k' : Nat} (h : Sh d w k) (h1 : w ≤ w') (h2 : k ≤ k') : Sh d w' k' := ⟨h.short, h.shows, Nat.le_trans h.wt h1, Nat.le_trans h.dp h2, h.can⟩
theorem sh_int {i : Int} (h : okI i) : Sh (.int i) 41 0 := by
  have lg : i.natAbs.log2 < 40 := by
    by_cases z : i.natAbs = 0
    · rw [z]; decide
    · exact (Nat.log2_lt z).mpr (Nat.lt_of_lt_of_le h (by decide))
  refine ⟨?_, ?_, ?_, ?_, ?_⟩
  · simp only [PyData.leavesShort]
    exact decide_eq_true (PyData.shown_int_le h)
  · simp only [PyData.showable]
    exact decide_eq_true (by omega)
  · simp only [PyData.weight]
    split <;> omega
  · simp only [PyData.depth]; exact Nat.le_refl 0
  · simp only [PyData.canLay0]
theorem sh_nil : ShA [] 0 0 := ⟨rfl, rfl, Nat.le_refl _, Nat.le_refl _, rfl⟩
theorem sh_cons {d : PyData} {ds : List PyData} {w k w' k' : Nat} (h : Sh d w k) (t : ShA ds w' k') : ShA (d :: ds) (w + 1 + w') (max k k') := by
  refine ⟨?_, ?_, ?_, ?_, ?_⟩
  · simp only [PyData.leavesShortAll, h.short, t.short, Bool.and_self]
  · simp only [PyData.showableAll, h.shows, t.shows, Bool.and_self]
  · simp only [PyData.weightAll]; have := h.wt; have := t.wt; omega
  · simp only [PyData.depthAll]; have := h.dp; have := t.dp; omega
  · simp only [PyData.canLayAll0, h.can, t.can, Bool.and_self]
theorem sh_tup {ds : List PyData} {w k : Nat} (h : ShA ds w k) : Sh (.tuple ds) w (k + 1) := by
  refine ⟨?_, ?_, ?_, ?_, ?_⟩
  · simp only [PyData.leavesShort, h.short]
  · simp only [PyData.showable, h.shows]
  · simp only [PyData.weight]; exact h.wt
  · simp only [PyData.depth]; have := h.dp; omega
  · simp only [PyData.canLay0, h.can]
theorem sh_lst {ds : List PyData} {w k : Nat} (h : ShA ds w k) : Sh (.list ds) w (k + 1) := by
  refine ⟨?_, ?_, ?_, ?_, ?_⟩
  · simp only [PyData.leavesShort, h.short]
  · simp only [PyData.showable, h.shows]
  · simp only [PyData.weight]; exact h.wt
  · simp only [PyData.depth]; have := h.dp; omega
  · simp only [PyData.canLay0, h.can]
def words : List Str := (["number", "local", "top", "hole", "data", "fn", "read", "cell", "print", "let", "callby", "call", "op", "write", "switch", "m.f", "m.g", "m.h", "core", "", "word", "int"] : List Str) ++ signs
theorem words_ok : ∀ x ∈ words, (PyData.str x).leavesShort 13 = true ∧ (PyData.str x).weight ≤ 8 ∧ (PyData.str x).canLay0 = true := by
  simp only [PyData.leavesShort, PyData.weight, PyData.canLay0]
  decide +kernel
theorem sh_str {x : Str} (h : x ∈ words) : Sh (.str x) 8 0 := ⟨(words_ok x h).1, by simp only [PyData.showable], (words_ok x h).2.1, by simp only [PyData.depth]; exact Nat.le_refl 0, (words_ok x h).2.2⟩
/-- d is such data -/
def Py (d : D) (w k : Nat) : Prop := ∃ p, (∀ μ, pyD μ d = some p) ∧ Sh p w k
def PyA (ds : List D) (w k : Nat) : Prop := ∃ p, (∀ μ, pyDs μ ds = some p) ∧ ShA p w k
theorem Py.up {d : D} {w k w' k' : Nat} (h : Py d w k) (h1 : w ≤ w') (h2 : k ≤ k') : Py d w' k' := let ⟨p, a, b⟩ := h; ⟨p, a, b.up h1 h2⟩
theorem py_int {i : Int} (h : okI i) : Py (.int i) 41 0 := ⟨_, fun _ => rfl, sh_int h⟩
theorem py_str {x : Str} (h : x ∈ words) : Py (.str x) 8 0 := ⟨_, fun _ => rfl, sh_str h⟩
theorem py_nil : PyA [] 0 0 := ⟨[], fun _ => rfl, sh_nil⟩
theorem py_cons {d : D} {ds : List D} {w k w' k' : Nat} (h : Py d w k) (t : PyA ds w' k') : PyA (d :: ds) (w + 1 + w') (max k k') := by
  obtain ⟨p, a1, a2⟩ := h
  obtain ⟨q, b1, b2⟩ := t
  exact ⟨p :: q, fun μ => by rw [pyDs, a1 μ, b1 μ]; rfl, sh_cons a2 b2⟩
theorem py_tup {ds : List D} {w k : Nat} (h : PyA ds w k) : Py (.tup ds) w (k + 1) := by
  obtain ⟨p, a1, a2⟩ := h
  exact ⟨.tuple p, fun μ => by rw [pyD, a1 μ]; rfl, sh_tup a2⟩
theorem wd {x : Str} (h : words.contains x = true) : x ∈ words := by simpa using h
theorem py_at {h : Int} (o : okI h) : Py (at_ h) 51 1 := (py_tup (py_cons (py_str (wd (by decide +kernel))) (py_cons (py_int o) py_nil))).up (by decide) (by decide)
theorem py_0 {l : L0} (h : l.lim) : Py (enc0 l) 200 2 := by
  cases l
  case num n k => exact (py_tup (py_cons (py_str (wd (by decide +kernel))) (py_cons (py_int h.1) (py_cons (py_at h.2) py_nil)))).up (by decide) (by decide)
  case loc n k => exact (py_tup (py_cons (py_str (wd (by decide +kernel))) (py_cons (py_int h.1) (py_cons (py_at h.2) py_nil)))).up (by decide) (by decide)
  case top k => exact (py_tup (py_cons (py_str (wd (by decide +kernel))) (py_cons (py_str (wd (by decide +kernel))) (py_cons (py_at h) py_nil)))).up (by decide) (by decide)
  case hole => exact (py_tup (py_cons (py_str (wd (by decide +kernel))) py_nil)).up (by decide) (by decide)
  case dat n k => exact (py_tup (py_cons (py_str (wd (by decide +kernel))) (py_cons (py_int h.1) (py_cons (py_tup py_nil) (py_cons (py_at h.2) py_nil))))).up (by decide) (by decide)
theorem py_1 {l : L1} {a : D} {w k : Nat} (h : l.lim) (ha : Py a w k) (hk : 2 ≤ k) : Py (enc1 l a) (w + 200) (k + 1) := by
  cases l
  case fn x z => exact (py_tup (py_cons (py_str (wd (by decide +kernel))) (py_cons (py_tup (py_cons (py_int h.1) py_nil)) (py_cons ha (py_cons (py_at h.2) py_nil))))).up (by omega) (by omega)
  all_goals exact (py_tup (py_cons (py_str (wd (by decide +kernel))) (py_cons ha (py_cons (py_at h) py_nil)))).up (by omega) (by omega)
theorem py_2 {l : L2t} {a b : D} {w k w' k' : Nat} (h : l.lim) (ha : Py a w k) (hb : Py b w' k') (hk : 2 ≤ k) : Py (enc2 l a b) (w + w' + 200) (max k k' + 2) := by
  cases l
  case lets x z => exact (py_tup (py_cons (py_str (wd (by decide +kernel))) (py_cons (py_int h.1) (py_cons ha (py_cons hb (py_cons (py_at h.2) py_nil)))))).up (by omega) (by omega)
  case callby z => exact (py_tup (py_cons (py_str (wd (by decide +kernel))) (py_cons ha (py_cons (py_tup (py_cons hb py_nil)) (py_cons (py_at h) py_nil))))).up (by omega) (by omega)
  case call z => exact (py_tup (py_cons (py_str (wd (by decide +kernel))) (py_cons (py_str (wd (by decide +kernel))) (py_cons (py_tup (py_cons ha (py_cons hb py_nil))) (py_cons (py_at h) py_nil))))).up (by omega) (by omega)
  case dat z => exact (py_tup (py_cons (py_str (wd (by decide +kernel))) (py_cons (py_int (show okI 1 from by unfold okI; decide)) (py_cons (py_tup (py_cons ha (py_cons hb py_nil))) (py_cons (py_at h) py_nil))))).up (by omega) (by omega)
  case op s z => exact (py_tup (py_cons (py_str (wd (by decide +kernel))) (py_cons (py_str (List.mem_append_right _ h.1)) (py_cons ha (py_cons hb (py_cons (py_at h.2) py_nil)))))).up (by omega) (by omega)
  case write z => exact (py_tup (py_cons (py_str (wd (by decide +kernel))) (py_cons ha (py_cons hb (py_cons (py_at h) py_nil))))).up (by omega) (by omega)
theorem py_nm {n : Nm} (h : n.lim) : Py (intsD n) 90 1 := by
  cases n
  case z => exact (py_tup py_nil).up (by decide) (by decide)
  case one a => exact (py_tup (py_cons (py_int h) py_nil)).up (by decide) (by decide)
  case two a b => exact (py_tup (py_cons (py_int h.1) (py_cons (py_int h.2) py_nil))).up (by decide) (by decide)
theorem py_3 {l : L3} {a b c : D} {w k w' k' w2 k2 : Nat} (h : l.lim) (ha : Py a w k) (hb : Py b w' k') (hc : Py c w2 k2) (hk : 2 ≤ k) (hk' : 2 ≤ k') : Py (enc3 l a b c) (w + w' + w2 + 300) (max k (max k' k2) + 3) := by
  obtain ⟨n1, n2, z⟩ := l
  exact (py_tup (py_cons (py_str (wd (by decide +kernel))) (py_cons ha (py_cons (py_tup (py_cons (py_tup (py_cons (py_nm h.1) (py_cons hb py_nil))) (py_cons (py_tup (py_cons (py_nm h.2.1) (py_cons hc py_nil))) py_nil))) (py_cons (py_at h.2.2) py_nil))))).up (by omega) (by omega)
theorem dep2 : ∀ t : T, 2 ≤ t.dep
  | .n0 _ => Nat.le_refl _
  | .n1 _ a => by have := dep2 a; simp only [T.dep]; omega
  | .n2 _ a b => by simp only [T.dep]; omega
  | .n3 _ a b c => by simp only [T.dep]; omega
theorem py_ok : ∀ {t : T}, t.lim → Py (enc t) (300 * t.size) t.dep
  | .n0 l, h => (py_0 h).up (by simp only [T.size]; omega) (Nat.le_refl _)
  | .n1 l a, h => (py_1 h.1 (py_ok h.2) (dep2 a)).up (by simp only [T.size]; omega) (Nat.le_refl _)
  | .n2 l a b, h => (py_2 h.1 (py_ok h.2.1) (py_ok h.2.2) (dep2 a)).up (by simp only [T.size]; omega) (Nat.le_refl _)
  | .n3 l a b c, h => (py_3 h.1 (py_ok h.2.1) (py_ok h.2.2.1) (py_ok h.2.2.2) (dep2 a) (dep2 b)).up (by simp only [T.size]; omega) (Nat.le_refl _)
end Pl

namespace Pl
open PySem L2
abbrev tlW (k : Nat) : List D := List.replicate k entW
theorem py_ent : Py entW 40 3 := (py_tup (py_cons (py_str (wd (by decide +kernel))) (py_cons (py_tup (py_cons (py_str (wd (by decide +kernel))) (py_cons (py_str (wd (by decide +kernel))) (py_cons (py_tup py_nil) py_nil)))) py_nil))).up (by decide) (by decide)
theorem py_rep : ∀ k : Nat, PyA (tlW k) (41 * k) 3
  | 0 => ⟨[], fun _ => rfl, rfl, rfl, by show 0 ≤ _; omega, by show 0 ≤ 3; omega, rfl⟩
  | k + 1 => by
    obtain ⟨p, a, b⟩ := py_cons py_ent (py_rep k)
    exact ⟨p, a, b.short, b.shows, by have := b.wt; omega, by have := b.dp; omega, b.can⟩
theorem PyA.up {ds : List D} {w k w' k' : Nat} (h : PyA ds w k) (h1 : w ≤ w') (h2 : k ≤ k') : PyA ds w' k' := let ⟨p, a, b⟩ := h; ⟨p, a, b.short, b.shows, Nat.le_trans b.wt h1, Nat.le_trans b.dp h2, b.can⟩
theorem okS {i : Int} (h : i.natAbs < 10 := by decide) : okI i := by unfold okI; omega
theorem tl_take (k j : Nat) : (tlW k).take j = tlW (min j k) := by simp [tlW, List.take_replicate]
theorem py_f {b : D} {w d k : Nat} (h : Py b w d) : Py (fD b (tlW k)) (w + 41 * k + 200) (max d 4 + 1) :=
  (py_tup (py_cons (py_str (wd (by decide +kernel))) (py_cons (py_str (wd (by decide +kernel))) (py_cons (py_tup (py_cons (py_int okS) (py_cons (py_int okS) py_nil))) (py_cons h (py_cons (py_tup (py_rep k)) py_nil)))))).up (by omega) (by omega)
theorem py_here {i : Int} (h : okI i) : Py (hereG i) 51 1 := (py_tup (py_cons (py_str (wd (by decide +kernel))) (py_cons (py_int h) py_nil))).up (by decide) (by decide)
theorem py_plus : Py plusD 600 4 :=
  (py_tup (py_cons (py_str (wd (by decide +kernel))) (py_cons (py_str (wd (by decide +kernel))) (py_cons (py_tup (py_cons (py_str (wd (by decide +kernel))) (py_cons (py_int okS) (py_cons (py_here okS) py_nil))))
    (py_cons (py_tup (py_cons (py_str (wd (by decide +kernel))) (py_cons (py_int okS) (py_cons (py_here okS) py_nil)))) (py_cons (py_here okS) py_nil)))))).up (by decide) (by decide)
theorem py_g (k : Nat) : Py (gD (tlW k)) 1000 5 := by
  unfold gD
  rw [tl_take]
  exact (py_tup (py_cons (py_str (wd (by decide +kernel))) (py_cons (py_str (wd (by decide +kernel))) (py_cons (py_tup (py_cons (py_int okS) (py_cons (py_int okS) py_nil))) (py_cons py_plus (py_cons (py_tup (py_rep _)) py_nil)))))).up (by omega) (by decide)
theorem py_h (k : Nat) : Py (hD (tlW k)) 1000 5 := by
  unfold hD
  rw [tl_take]
  exact (py_tup (py_cons (py_str (wd (by decide +kernel))) (py_cons (py_str (wd (by decide +kernel))) (py_cons (py_tup (py_cons (py_int okS) py_nil)) (py_cons (py_tup (py_cons (py_str (wd (by decide +kernel))) (py_cons (py_int okS) (py_cons (py_tup (py_cons (py_str (wd (by decide +kernel))) (py_cons (py_int okS) py_nil))) py_nil)))) (py_cons (py_tup (py_rep _)) py_nil)))))).up (by omega) (by decide)
/-- the bounds that all trees of the laws keep -/
structure T.fit (t : T) : Prop where
  lim : t.lim
  sz : t.size ≤ 2000
  ht : t.ht ≤ 60
  dp : t.dep ≤ 54
theorem told_ok {t : T} {k : Nat} (h : t.fit) (hk : k ≤ 5000) : ∃ z : Str, ∀ (μ : Mu) (i : Nat), μ[i]? = some (fns3 (enc t) (tlW k)) → toldR μ (.ref i) = some z := by
  obtain ⟨p, a1, a2⟩ := py_f (k := k) (py_ok h.lim)
  obtain ⟨q, b1, b2⟩ := py_g k
  obtain ⟨r, c1, c2⟩ := py_h k
  have hs := h.sz
  have hd := h.dp
  have s3 : Sh (threePy p q r) (300 * t.size + 41 * k + 200 + 2000 + 100) (max (max t.dep 4 + 1) 5 + 2) := by
    have m := fun {x : Str} (hx : words.contains x = true) {d : PyData} {w k : Nat} (h : Sh d w k) => sh_tup (sh_cons (sh_str (wd hx)) (sh_cons h sh_nil))
    exact (sh_lst (sh_cons (m (x := "m.f") (by decide +kernel) a2) (sh_cons (m (x := "m.g") (by decide +kernel) b2) (sh_cons (m (x := "m.h") (by decide +kernel) c2) sh_nil)))).up (by omega) (by omega)
  refine ⟨(threePy p q r).shown, fun μ i hi => ?_⟩
  unfold toldR
  simp only [hi, fns3]
  unfold toldD
  have f1 : pyD μ (.tup [.str "core", .str "m.f", .tup [.int 0, .int 1], enc t, .tup (tlW k)]) = some p := a1 μ
  have f2 := b1 μ
  have f3 := c1 μ
  unfold gD at f2
  unfold hD at f3
  simp only [fD, gD, hD, if_true, and_self, f1, f2, f3, Option.bind_some]
  rw [if_pos ⟨s3.shows, by have := s3.dp; omega, PyData.shown_fits (B := 13) (by decide) (by decide) s3.short (by have := s3.wt; omega)⟩]
end Pl

namespace Pl
open PySem L2
theorem enc_ne (t : T) : enc t ≠ .non := by
  cases t with
  | n0 l => cases l <;> (intro h; cases h)
  | n1 l a => cases l <;> (intro h; cases h)
  | n2 l a b => cases l <;> (intro h; cases h)
  | n3 l a b c => cases l; intro h; cases h
section
variable {R : List PDef} {m i k f : Nat} {t s : T} {p : List Nat} {rule : Str} {μ : Mu}
abbrev stepD (p : List Nat) (rule : Str) : D := .tup [.str "m.f", natsD p, .str rule]
theorem step_no (h : t.fit) (hf : μ[i]? = some (fns3 (enc t) (tlW k))) (ha : t.at p = some s) (hr : lookE tab_RULES rule = some (some f)) (hc : ∀ v, callF (Pc ++ R) (m + 70) f [enc s, .ref i, .int v] μ = some (.non, μ)) :
    callF (Pc ++ R) (m + 71) 25 [.ref i, stepD p rule] μ = some (.non, μ) := by
  have := h.ht
  have := h.sz
  obtain ⟨v, hv⟩ := first_free_ok R μ t (tlW k) (m + 66) (by omega) (by omega)
  rw [cf_stepped]
  exact ok_is (stepped_no hf (at_ok R (m + 67) μ ha) (enc_ne s) hr hv (hc v))
theorem step_yes {u b : T} (h : t.fit) (hb : b.ht ≤ 60) (hf : μ[i]? = some (fns3 (enc t) (tlW k))) (ha : t.at p = some s) (hr : lookE tab_RULES rule = some (some f)) (hc : ∀ v, callF (Pc ++ R) (m + 70) f [enc s, .ref i, .int v] μ = some (enc u, μ)) (hp : t.put p u = some b) (hl : p.length ≤ 60) :
    callF (Pc ++ R) (m + 71) 25 [.ref i, stepD p rule] μ = some (if b.size ≤ 400 then (.ref μ.length, μ ++ [fns3 (enc b) (tlW k)]) else (.non, μ)) := by
  have := h.ht
  have := h.sz
  obtain ⟨v, hv⟩ := first_free_ok R μ t (tlW k) (m + 66) (by omega) (by omega)
  rw [cf_stepped]
  have z := ok_is (stepped_yes hf (at_ok R (m + 67) μ ha) (enc_ne s) hr hv (hc v) (enc_ne u) (put_ok R μ u p t b (m + 67) (by omega) hp) (size_ok R μ b (m + 67) (by omega)))
  rw [z]
  by_cases q : b.size ≤ 400
  · rw [if_pos q, if_pos (by omega)]
  · rw [if_neg q, if_neg (by omega)]
theorem told_ref (n : Nat) {z : Str} (h : toldR μ (.ref i) = some z) : callF (Pc ++ Rs R) (n + 1) 42 [.ref i] μ = some (.str z, μ) := by
  rw [cf__law_told]
  simp [b__law_told, evSs, evS, evE, evB, litD, cmpD, truD, retK, h]
theorem told_non (n : Nat) : callF (Pc ++ Rs R) (n + 1) 42 [.non] μ = some (.non, μ) := by kernel_rfl
end
section
variable (R : List PDef) (n : Nat) (μ : Mu) (q v : D)
theorem ks_let (x h : Int) (a b : D) : callF (Pc ++ R) (n + 1) 14 [enc2 (.lets x h) a b, q, v] μ = some (.non, μ) := by kernel_rfl
theorem cp_let (x h : Int) (a b : D) : callF (Pc ++ R) (n + 1) 17 [enc2 (.lets x h) a b, q, v] μ = some (.non, μ) := by kernel_rfl
theorem kf_let (x h : Int) (a b : D) : callF (Pc ++ R) (n + 1) 18 [enc2 (.lets x h) a b, q, v] μ = some (.non, μ) := by kernel_rfl
theorem nr_let (x h : Int) (a b : D) : callF (Pc ++ R) (n + 1) 19 [enc2 (.lets x h) a b, q, v] μ = some (.non, μ) := by kernel_rfl
theorem sl_let (x h : Int) (a b : D) : callF (Pc ++ R) (n + 1) 21 [enc2 (.lets x h) a b, q, v] μ = some (.non, μ) := by kernel_rfl
theorem sa_let (x h : Int) (a b : D) : callF (Pc ++ R) (n + 1) 23 [enc2 (.lets x h) a b, q, v] μ = some (.non, μ) := by kernel_rfl
theorem ll_let (x h y h' : Int) (a b c : D) : callF (Pc ++ R) (n + 1) 20 [enc2 (.lets x h) (enc2 (.lets y h') a b) c, q, v] μ = some (enc2 (.lets y h') a (enc2 (.lets x h) b c), μ) := by kernel_rfl
theorem vp_sw (l : L3) (a b c : D) : callF (Pc ++ R) (n + 1) 15 [enc3 l a b c, q, v] μ = some (.non, μ) := by cases l <;> kernel_rfl
theorem lo_sw (l : L3) (a b c : D) : callF (Pc ++ R) (n + 1) 16 [enc3 l a b c, q, v] μ = some (.non, μ) := by cases l <;> kernel_rfl
theorem cp_sw (l : L3) (a b c : D) : callF (Pc ++ R) (n + 1) 17 [enc3 l a b c, q, v] μ = some (.non, μ) := by cases l <;> kernel_rfl
theorem kf_sw (l : L3) (a b c : D) : callF (Pc ++ R) (n + 1) 18 [enc3 l a b c, q, v] μ = some (.non, μ) := by cases l <;> kernel_rfl
theorem nr_sw (l : L3) (a b c : D) : callF (Pc ++ R) (n + 1) 19 [enc3 l a b c, q, v] μ = some (.non, μ) := by cases l <;> kernel_rfl
theorem ll_sw (l : L3) (a b c : D) : callF (Pc ++ R) (n + 1) 20 [enc3 l a b c, q, v] μ = some (.non, μ) := by cases l <;> kernel_rfl
theorem ks_swl (l : L3) (y h : Int) (a a' b c : D) : callF (Pc ++ R) (n + 1) 14 [enc3 l (enc2 (.lets y h) a a') b c, q, v] μ = some (.non, μ) := by cases l <;> kernel_rfl
theorem sa_swl (l : L3) (y h : Int) (a a' b c : D) : callF (Pc ++ R) (n + 1) 23 [enc3 l (enc2 (.lets y h) a a') b c, q, v] μ = some (.non, μ) := by cases l <;> kernel_rfl
theorem sl_swl (l : L3) (y h : Int) (a a' b c : D) : callF (Pc ++ R) (n + 1) 21 [enc3 l (enc2 (.lets y h) a a') b c, q, v] μ = some (enc2 (.lets y h) a (enc3 l a' b c), μ) := by cases l <;> kernel_rfl
end
end Pl

namespace Pl
open PySem L2
structure OkF (g : Grd) (t : AT) (body : En → Mu → Option (Fl × En × Mu)) (items : List D) (env : En) (μ : Mu) (Q : Fl × En × Mu → Prop) : Prop where
  ok : Ok (forLoop g t body items env μ) Q
theorem r_for {c : Orc} {t : AT} {src : ASr} {b : ASs} {env : En} {μ : Mu} {Q : Fl × En × Mu → Prop} (h : Ok (evSrc c src env μ) fun s => OkF s.2.1 t (fun e m => evSs c b e m) s.1 env s.2.2 Q) : Ok (evS c (.for_ t src b) env μ) Q :=
  ok_bind (ok_w h fun _ h => h.ok)
def lastB : Nat → ASs → ASs
  | 0, .cons (.for_ _ _ b) _ => b
  | n + 1, .cons _ r => lastB n r
  | _, _ => .nil
def isB : ASs := lastB 5 b__law_is_step
/-- what is asked of another rule -/
def Oth (c : Orc) (i : Nat) (p : List Nat) (rule : Str) (also : List D) (μ : Mu) (x : Str) : Prop :=
  x = rule ∨ inD μ (.str x) (.lst also) = some true ∨ (x ≠ rule ∧ inD μ (.str x) (.lst also) = some false ∧ c 25 [.ref i, stepD p x] μ = some (.non, μ))
theorem it_ok {c : Orc} {i : Nat} {p : List Nat} {rule x : Str} {also : List D} {due e5 e6 e7 : D} {μ : Mu} (h : Oth c i p rule also μ x) :
    evSs c isB [some (.ref i), some (natsD p), some (.str rule), some due, some (.lst also), some e5, some e6, some e7, some (.str x)] μ = some (.nx, [some (.ref i), some (natsD p), some (.str rule), some due, some (.lst also), some e5, some e6, some e7, some (.str x)], μ) := by
  rcases h with h | h | ⟨h1, h2, h3⟩
  · have f1 : cmpD μ .NotEq (.str x) (.str rule) = some false := by simp [cmpD, eqD, scalD, h]
    refine ok_is ?_
    repeat (first | (with_reducible refine r_for ?_) | (with_reducible refine ok_eq f1 ?_; try dsimp only [Bool.not_true, Bool.not_false]) | (with_reducible refine r_if ?_) | (with_reducible refine r_boo ?_) | (with_reducible refine r_or ?_) | (with_reducible refine r_and ?_) | (with_reducible refine r_not ?_) | (with_reducible refine r_val ?_) | (with_reducible refine r_cmp ?_) | (with_reducible refine r_nilB ?_) | (with_reducible refine r_tru ?_; try dsimp only [Bool.not_true, Bool.not_false]) | (with_reducible refine r_isT ?_; try dsimp only [Bool.not_true, Bool.not_false]) | (with_reducible refine r_isS ?_; try dsimp only [Bool.not_true, Bool.not_false]) | (with_reducible refine r_isI ?_) | (with_reducible refine r_isB ?_) | (refine ok_eq (a := true) rfl ?_; try dsimp only [Bool.not_true, Bool.not_false]) | (refine ok_eq (a := false) rfl ?_; try dsimp only [Bool.not_true, Bool.not_false]) | (with_reducible refine two_t ?_) | (with_reducible refine two_f ?_) | (with_reducible refine two_nt ?_) | (with_reducible refine two_nf ?_) | (refine ok_bind ?_; try dsimp only) | (refine ok_map ?_; try dsimp only) | (refine ok_some ?_; try dsimp only [Bool.not_true, Bool.not_false]))
    try rfl
  · by_cases hx : x = rule
    · have f1 : cmpD μ .NotEq (.str x) (.str rule) = some false := by simp [cmpD, eqD, scalD, hx]
      refine ok_is ?_
      repeat (first | (with_reducible refine r_for ?_) | (with_reducible refine ok_eq f1 ?_; try dsimp only [Bool.not_true, Bool.not_false]) | (with_reducible refine r_if ?_) | (with_reducible refine r_boo ?_) | (with_reducible refine r_or ?_) | (with_reducible refine r_and ?_) | (with_reducible refine r_not ?_) | (with_reducible refine r_val ?_) | (with_reducible refine r_cmp ?_) | (with_reducible refine r_nilB ?_) | (with_reducible refine r_tru ?_; try dsimp only [Bool.not_true, Bool.not_false]) | (with_reducible refine r_isT ?_; try dsimp only [Bool.not_true, Bool.not_false]) | (with_reducible refine r_isS ?_; try dsimp only [Bool.not_true, Bool.not_false]) | (with_reducible refine r_isI ?_) | (with_reducible refine r_isB ?_) | (refine ok_eq (a := true) rfl ?_; try dsimp only [Bool.not_true, Bool.not_false]) | (refine ok_eq (a := false) rfl ?_; try dsimp only [Bool.not_true, Bool.not_false]) | (with_reducible refine two_t ?_) | (with_reducible refine two_f ?_) | (with_reducible refine two_nt ?_) | (with_reducible refine two_nf ?_) | (refine ok_bind ?_; try dsimp only) | (refine ok_map ?_; try dsimp only) | (refine ok_some ?_; try dsimp only [Bool.not_true, Bool.not_false]))
      try rfl
    · have f1 : cmpD μ .NotEq (.str x) (.str rule) = some true := by simp [cmpD, eqD, scalD, hx]
      have f2 : cmpD μ .NotIn (.str x) (.lst also) = some false := by show (inD μ _ _).map _ = _; rw [h]; rfl
      refine ok_is ?_
      repeat (first | (with_reducible refine r_for ?_) | (with_reducible refine ok_eq f1 ?_; try dsimp only [Bool.not_true, Bool.not_false]) | (with_reducible refine ok_eq f2 ?_; try dsimp only [Bool.not_true, Bool.not_false]) | (with_reducible refine r_if ?_) | (with_reducible refine r_boo ?_) | (with_reducible refine r_or ?_) | (with_reducible refine r_and ?_) | (with_reducible refine r_not ?_) | (with_reducible refine r_val ?_) | (with_reducible refine r_cmp ?_) | (with_reducible refine r_nilB ?_) | (with_reducible refine r_tru ?_; try dsimp only [Bool.not_true, Bool.not_false]) | (with_reducible refine r_isT ?_; try dsimp only [Bool.not_true, Bool.not_false]) | (with_reducible refine r_isS ?_; try dsimp only [Bool.not_true, Bool.not_false]) | (with_reducible refine r_isI ?_) | (with_reducible refine r_isB ?_) | (refine ok_eq (a := true) rfl ?_; try dsimp only [Bool.not_true, Bool.not_false]) | (refine ok_eq (a := false) rfl ?_; try dsimp only [Bool.not_true, Bool.not_false]) | (with_reducible refine two_t ?_) | (with_reducible refine two_f ?_) | (with_reducible refine two_nt ?_) | (with_reducible refine two_nf ?_) | (refine ok_bind ?_; try dsimp only) | (refine ok_map ?_; try dsimp only) | (refine ok_some ?_; try dsimp only [Bool.not_true, Bool.not_false]))
      try rfl
  · have f1 : cmpD μ .NotEq (.str x) (.str rule) = some true := by simp [cmpD, eqD, scalD, h1]
    have f2 : cmpD μ .NotIn (.str x) (.lst also) = some true := by show (inD μ _ _).map _ = _; rw [h2]; rfl
    refine ok_is ?_
    repeat (first | (with_reducible refine r_for ?_) | (with_reducible refine ok_eq f1 ?_; try dsimp only [Bool.not_true, Bool.not_false]) | (with_reducible refine ok_eq f2 ?_; try dsimp only [Bool.not_true, Bool.not_false]) | (with_reducible refine ok_eq h3 ?_; try dsimp only [Bool.not_true, Bool.not_false]) | (with_reducible refine r_if ?_) | (with_reducible refine r_boo ?_) | (with_reducible refine r_or ?_) | (with_reducible refine r_and ?_) | (with_reducible refine r_not ?_) | (with_reducible refine r_val ?_) | (with_reducible refine r_cmp ?_) | (with_reducible refine r_nilB ?_) | (with_reducible refine r_tru ?_; try dsimp only [Bool.not_true, Bool.not_false]) | (with_reducible refine r_isT ?_; try dsimp only [Bool.not_true, Bool.not_false]) | (with_reducible refine r_isS ?_; try dsimp only [Bool.not_true, Bool.not_false]) | (with_reducible refine r_isI ?_) | (with_reducible refine r_isB ?_) | (refine ok_eq (a := true) rfl ?_; try dsimp only [Bool.not_true, Bool.not_false]) | (refine ok_eq (a := false) rfl ?_; try dsimp only [Bool.not_true, Bool.not_false]) | (with_reducible refine two_t ?_) | (with_reducible refine two_f ?_) | (with_reducible refine two_nt ?_) | (with_reducible refine two_nf ?_) | (refine ok_bind ?_; try dsimp only) | (refine ok_map ?_; try dsimp only) | (refine ok_some ?_; try dsimp only [Bool.not_true, Bool.not_false]))
    try rfl
theorem loop_ok {c : Orc} {i : Nat} {p : List Nat} {rule : Str} {also : List D} {due e5 e6 e7 : D} {μ : Mu} : ∀ (xs : List Str) (e8 : Option D), (∀ x ∈ xs, Oth c i p rule also μ x) →
    ∃ e, forLoop none (.nm 8) (fun e m => evSs c isB e m) (xs.map .str) [some (.ref i), some (natsD p), some (.str rule), some due, some (.lst also), some e5, some e6, some e7, e8] μ = some (.nx, [some (.ref i), some (natsD p), some (.str rule), some due, some (.lst also), some e5, some e6, some e7, e], μ)
  | [], e8, _ => ⟨e8, rfl⟩
  | x :: xs, e8, h => by
    obtain ⟨e, he⟩ := loop_ok (due := due) (e5 := e5) (e6 := e6) (e7 := e7) xs (some (.str x)) fun y hy => h y (List.mem_cons_of_mem _ hy)
    refine ⟨e, ?_⟩
    rw [List.map_cons, forLoop, if_pos (show okG none μ = true from rfl)]
    show ((some [some (.ref i), some (natsD p), some (.str rule), some due, some (.lst also), some e5, some e6, some e7, some (.str x)]).bind fun e => (evSs c isB e μ).bind _) = _
    rw [Option.bind_some, it_ok (h x List.mem_cons_self), Option.bind_some]
    exact he
def rules9 : List Str := ["known switch", "value put in", "left out", "call put in", "known function", "number reckoned", "let of let", "switch of let", "switch again"]

theorem is_b0 {c : Orc} {i : Nat} {p : List Nat} {rule z : Str} {also : List D} {due : D} {μ : Mu} (hd : due = .non ∨ (due ≠ .non ∧ ∃ k : Int, c 39 [due] μ = some (.int k, μ) ∧ 400 < k)) (q1 : c 42 [.ref i] μ = some (.str z, μ)) (g25 : c 25 [.ref i, stepD p rule] μ = some (.non, μ)) (q2 : c 42 [.non] μ = some (.non, μ)) (ho : ∀ x ∈ rules9, Oth c i p rule also μ x) :
    (evSs c b__law_is_step [some (.ref i), some (natsD p), some (.str rule), some due, some (.lst also), none, none, none, none] μ).bind retK = some (.bl true, μ) := by
  have e1 : cmpD μ .NotEq .non .non = some false := rfl
  have e2 : cmpD μ .Eq (.str z) (.str z) = some true := by simp [cmpD, eqD, scalD]
  rcases hd with rfl | ⟨hn, k, h39, hk⟩
  · refine ok_is ?_
    have e3 : cmpD μ .IsNot .non .non = some false := rfl
    repeat (first | (with_reducible refine r_for ?_) | (with_reducible refine ok_eq q1 ?_; try dsimp only [Bool.not_true, Bool.not_false]) | (with_reducible refine ok_eq q2 ?_; try dsimp only [Bool.not_true, Bool.not_false]) | (with_reducible refine ok_eq g25 ?_; try dsimp only [Bool.not_true, Bool.not_false]) | (with_reducible refine ok_eq e1 ?_; try dsimp only [Bool.not_true, Bool.not_false]) | (with_reducible refine ok_eq e2 ?_; try dsimp only [Bool.not_true, Bool.not_false]) | (with_reducible refine ok_eq e3 ?_; try dsimp only [Bool.not_true, Bool.not_false]) | (with_reducible refine r_if ?_) | (with_reducible refine r_boo ?_) | (with_reducible refine r_or ?_) | (with_reducible refine r_and ?_) | (with_reducible refine r_not ?_) | (with_reducible refine r_val ?_) | (with_reducible refine r_cmp ?_) | (with_reducible refine r_nilB ?_) | (with_reducible refine r_tru ?_; try dsimp only [Bool.not_true, Bool.not_false]) | (with_reducible refine r_isT ?_; try dsimp only [Bool.not_true, Bool.not_false]) | (with_reducible refine r_isS ?_; try dsimp only [Bool.not_true, Bool.not_false]) | (with_reducible refine r_isI ?_) | (with_reducible refine r_isB ?_) | (refine ok_eq (a := true) rfl ?_; try dsimp only [Bool.not_true, Bool.not_false]) | (refine ok_eq (a := false) rfl ?_; try dsimp only [Bool.not_true, Bool.not_false]) | (with_reducible refine two_t ?_) | (with_reducible refine two_f ?_) | (with_reducible refine two_nt ?_) | (with_reducible refine two_nf ?_) | (refine ok_bind ?_; try dsimp only) | (refine ok_map ?_; try dsimp only) | (refine ok_some ?_; try dsimp only [Bool.not_true, Bool.not_false]))
    refine ⟨?_⟩
    obtain ⟨e, he⟩ := loop_ok (c := c) (i := i) (p := p) (rule := rule) (also := also) (due := .non) (e5 := .lst ((rules9.take 7).map .str)) (e6 := .str z) (e7 := .non) (μ := μ) rules9 none ho
    refine ok_eq he ?_
    try dsimp only
    repeat (first | (with_reducible refine r_for ?_) | (with_reducible refine ok_eq q1 ?_; try dsimp only [Bool.not_true, Bool.not_false]) | (with_reducible refine ok_eq q2 ?_; try dsimp only [Bool.not_true, Bool.not_false]) | (with_reducible refine ok_eq g25 ?_; try dsimp only [Bool.not_true, Bool.not_false]) | (with_reducible refine ok_eq e1 ?_; try dsimp only [Bool.not_true, Bool.not_false]) | (with_reducible refine ok_eq e2 ?_; try dsimp only [Bool.not_true, Bool.not_false]) | (with_reducible refine ok_eq e3 ?_; try dsimp only [Bool.not_true, Bool.not_false]) | (with_reducible refine r_if ?_) | (with_reducible refine r_boo ?_) | (with_reducible refine r_or ?_) | (with_reducible refine r_and ?_) | (with_reducible refine r_not ?_) | (with_reducible refine r_val ?_) | (with_reducible refine r_cmp ?_) | (with_reducible refine r_nilB ?_) | (with_reducible refine r_tru ?_; try dsimp only [Bool.not_true, Bool.not_false]) | (with_reducible refine r_isT ?_; try dsimp only [Bool.not_true, Bool.not_false]) | (with_reducible refine r_isS ?_; try dsimp only [Bool.not_true, Bool.not_false]) | (with_reducible refine r_isI ?_) | (with_reducible refine r_isB ?_) | (refine ok_eq (a := true) rfl ?_; try dsimp only [Bool.not_true, Bool.not_false]) | (refine ok_eq (a := false) rfl ?_; try dsimp only [Bool.not_true, Bool.not_false]) | (with_reducible refine two_t ?_) | (with_reducible refine two_f ?_) | (with_reducible refine two_nt ?_) | (with_reducible refine two_nf ?_) | (refine ok_bind ?_; try dsimp only) | (refine ok_map ?_; try dsimp only) | (refine ok_some ?_; try dsimp only [Bool.not_true, Bool.not_false]))
    try rfl
  · refine ok_is ?_
    have e3 : cmpD μ .IsNot due .non = some true := by cases due <;> first | rfl | exact absurd rfl hn
    have e4 : cmpD μ .LtE (.int k) (.int 400) = some false := by simp [cmpD]; omega
    repeat (first | (with_reducible refine r_for ?_) | (with_reducible refine ok_eq q1 ?_; try dsimp only [Bool.not_true, Bool.not_false]) | (with_reducible refine ok_eq q2 ?_; try dsimp only [Bool.not_true, Bool.not_false]) | (with_reducible refine ok_eq g25 ?_; try dsimp only [Bool.not_true, Bool.not_false]) | (with_reducible refine ok_eq e1 ?_; try dsimp only [Bool.not_true, Bool.not_false]) | (with_reducible refine ok_eq e2 ?_; try dsimp only [Bool.not_true, Bool.not_false]) | (with_reducible refine ok_eq e3 ?_; try dsimp only [Bool.not_true, Bool.not_false]) | (with_reducible refine ok_eq e4 ?_; try dsimp only [Bool.not_true, Bool.not_false]) | (with_reducible refine ok_eq h39 ?_; try dsimp only [Bool.not_true, Bool.not_false]) | (with_reducible refine r_if ?_) | (with_reducible refine r_boo ?_) | (with_reducible refine r_or ?_) | (with_reducible refine r_and ?_) | (with_reducible refine r_not ?_) | (with_reducible refine r_val ?_) | (with_reducible refine r_cmp ?_) | (with_reducible refine r_nilB ?_) | (with_reducible refine r_tru ?_; try dsimp only [Bool.not_true, Bool.not_false]) | (with_reducible refine r_isT ?_; try dsimp only [Bool.not_true, Bool.not_false]) | (with_reducible refine r_isS ?_; try dsimp only [Bool.not_true, Bool.not_false]) | (with_reducible refine r_isI ?_) | (with_reducible refine r_isB ?_) | (refine ok_eq (a := true) rfl ?_; try dsimp only [Bool.not_true, Bool.not_false]) | (refine ok_eq (a := false) rfl ?_; try dsimp only [Bool.not_true, Bool.not_false]) | (with_reducible refine two_t ?_) | (with_reducible refine two_f ?_) | (with_reducible refine two_nt ?_) | (with_reducible refine two_nf ?_) | (refine ok_bind ?_; try dsimp only) | (refine ok_map ?_; try dsimp only) | (refine ok_some ?_; try dsimp only [Bool.not_true, Bool.not_false]))
    refine ⟨?_⟩
    obtain ⟨e, he⟩ := loop_ok (c := c) (i := i) (p := p) (rule := rule) (also := also) (due := due) (e5 := .lst ((rules9.take 7).map .str)) (e6 := .str z) (e7 := .non) (μ := μ) rules9 none ho
    refine ok_eq he ?_
    try dsimp only
    repeat (first | (with_reducible refine r_for ?_) | (with_reducible refine ok_eq q1 ?_; try dsimp only [Bool.not_true, Bool.not_false]) | (with_reducible refine ok_eq q2 ?_; try dsimp only [Bool.not_true, Bool.not_false]) | (with_reducible refine ok_eq g25 ?_; try dsimp only [Bool.not_true, Bool.not_false]) | (with_reducible refine ok_eq e1 ?_; try dsimp only [Bool.not_true, Bool.not_false]) | (with_reducible refine ok_eq e2 ?_; try dsimp only [Bool.not_true, Bool.not_false]) | (with_reducible refine ok_eq e3 ?_; try dsimp only [Bool.not_true, Bool.not_false]) | (with_reducible refine ok_eq e4 ?_; try dsimp only [Bool.not_true, Bool.not_false]) | (with_reducible refine ok_eq h39 ?_; try dsimp only [Bool.not_true, Bool.not_false]) | (with_reducible refine r_if ?_) | (with_reducible refine r_boo ?_) | (with_reducible refine r_or ?_) | (with_reducible refine r_and ?_) | (with_reducible refine r_not ?_) | (with_reducible refine r_val ?_) | (with_reducible refine r_cmp ?_) | (with_reducible refine r_nilB ?_) | (with_reducible refine r_tru ?_; try dsimp only [Bool.not_true, Bool.not_false]) | (with_reducible refine r_isT ?_; try dsimp only [Bool.not_true, Bool.not_false]) | (with_reducible refine r_isS ?_; try dsimp only [Bool.not_true, Bool.not_false]) | (with_reducible refine r_isI ?_) | (with_reducible refine r_isB ?_) | (refine ok_eq (a := true) rfl ?_; try dsimp only [Bool.not_true, Bool.not_false]) | (refine ok_eq (a := false) rfl ?_; try dsimp only [Bool.not_true, Bool.not_false]) | (with_reducible refine two_t ?_) | (with_reducible refine two_f ?_) | (with_reducible refine two_nt ?_) | (with_reducible refine two_nf ?_) | (refine ok_bind ?_; try dsimp only) | (refine ok_map ?_; try dsimp only) | (refine ok_some ?_; try dsimp only [Bool.not_true, Bool.not_false]))
    try rfl
theorem is_b1 {c : Orc} {i : Nat} {p : List Nat} {rule z : Str} {also : List D} {due : D} {μ : Mu} {b b' : D} {tl : List D} {z' : Str} {k : Int} (hf : μ[i]? = some (fns3 b tl)) (hn : b' ≠ .non) (h39 : c 39 [b'] μ = some (.int k, μ)) (hk : k ≤ 400) (q1 : c 42 [.ref i] μ = some (.str z, μ)) (q3 : c 42 [.ref i] (μ ++ [fns3 b' tl] ++ [fns3 b' tl]) = some (.str z, μ ++ [fns3 b' tl] ++ [fns3 b' tl]))
    (g25 : c 25 [.ref i, stepD p rule] (μ ++ [fns3 b' tl]) = some (.ref (μ.length + 1), μ ++ [fns3 b' tl] ++ [fns3 b' tl])) (q4 : c 42 [.ref (μ.length + 1)] (μ ++ [fns3 b' tl] ++ [fns3 b' tl]) = some (.str z', μ ++ [fns3 b' tl] ++ [fns3 b' tl]))
    (q5 : c 42 [.ref μ.length] (μ ++ [fns3 b' tl] ++ [fns3 b' tl]) = some (.str z', μ ++ [fns3 b' tl] ++ [fns3 b' tl])) (ho : ∀ x ∈ rules9, Oth c i p rule also (μ ++ [fns3 b' tl] ++ [fns3 b' tl]) x) :
    (evSs c b__law_is_step [some (.ref i), some (natsD p), some (.str rule), some b', some (.lst also), none, none, none, none] μ).bind retK = some (.bl true, μ ++ [fns3 b' tl] ++ [fns3 b' tl]) := by
  have e1 : cmpD (μ ++ [fns3 b' tl] ++ [fns3 b' tl]) .NotEq (.str z') (.str z') = some false := by simp [cmpD, eqD, scalD]
  have e2 : cmpD (μ ++ [fns3 b' tl] ++ [fns3 b' tl]) .Eq (.str z) (.str z) = some true := by simp [cmpD, eqD, scalD]
  have e3 : cmpD μ .IsNot b' .non = some true := by cases b' <;> first | rfl | exact absurd rfl hn
  have e4 : cmpD μ .LtE (.int k) (.int 400) = some true := by simp [cmpD]; omega
  have d1 : biD μ .dict [.ref i] = some (.ref μ.length, μ ++ [fns3 b tl]) := by
    unfold biD
    simp [hf, fns3]
  have hi : i < μ.length := (List.getElem?_eq_some_iff.mp hf).1
  have e5 := idx_f (μ ++ [fns3 b tl]) (i := i) (b := b) (tl := tl) (by rw [List.getElem?_append_left hi]; exact hf)
  have c3 := cut3 (μ ++ [fns3 b tl]) b tl
  have c4 := cut4 (μ ++ [fns3 b tl]) b tl
  have s4 : (4 : Nat) ≤ sizeLine := by rw [sizeLine_eq]; omega
  have s5 : (5 : Nat) ≤ sizeLine := by rw [sizeLine_eq]; omega
  have e10 : binM (μ ++ [fns3 b tl]) .Add (.tup [.str "core", .str "m.f", .tup [.int 0, .int 1], b']) (.tup [.tup tl]) = some (fD b' tl) := by
    simp [binM, binD, s5, fD]
  have e11 : binM (μ ++ [fns3 b tl]) .Add (.tup [.str "core", .str "m.f", .tup [.int 0, .int 1]]) (.tup [b']) = some (.tup [.str "core", .str "m.f", .tup [.int 0, .int 1], b']) := by
    simp [binM, binD, s4]
  have e9 := put_f (μ := μ) (b := b) (b' := b') (tl := tl)
  refine ok_is ?_
  repeat (first | (with_reducible refine r_for ?_) | (with_reducible refine ok_eq q1 ?_; try dsimp only [Bool.not_true, Bool.not_false]) | (with_reducible refine ok_eq q3 ?_; try dsimp only [Bool.not_true, Bool.not_false]) | (with_reducible refine ok_eq q4 ?_; try dsimp only [Bool.not_true, Bool.not_false]) | (with_reducible refine ok_eq q5 ?_; try dsimp only [Bool.not_true, Bool.not_false]) | (with_reducible refine ok_eq g25 ?_; try dsimp only [Bool.not_true, Bool.not_false]) | (with_reducible refine ok_eq e1 ?_; try dsimp only [Bool.not_true, Bool.not_false]) | (with_reducible refine ok_eq e2 ?_; try dsimp only [Bool.not_true, Bool.not_false]) | (with_reducible refine ok_eq e3 ?_; try dsimp only [Bool.not_true, Bool.not_false]) | (with_reducible refine ok_eq e4 ?_; try dsimp only [Bool.not_true, Bool.not_false]) | (with_reducible refine ok_eq h39 ?_; try dsimp only [Bool.not_true, Bool.not_false]) | (with_reducible refine ok_eq d1 ?_; try dsimp only [Bool.not_true, Bool.not_false]) | (with_reducible refine ok_eq e5 ?_; try dsimp only [Bool.not_true, Bool.not_false]) | (with_reducible refine ok_eq c3 ?_; try dsimp only [Bool.not_true, Bool.not_false]) | (with_reducible refine ok_eq c4 ?_; try dsimp only [Bool.not_true, Bool.not_false]) | (with_reducible refine ok_eq e10 ?_; try dsimp only [Bool.not_true, Bool.not_false]) | (with_reducible refine ok_eq e11 ?_; try dsimp only [Bool.not_true, Bool.not_false]) | (with_reducible refine ok_eq e9 ?_; try dsimp only [Bool.not_true, Bool.not_false]) | (with_reducible refine r_if ?_) | (with_reducible refine r_boo ?_) | (with_reducible refine r_or ?_) | (with_reducible refine r_and ?_) | (with_reducible refine r_not ?_) | (with_reducible refine r_val ?_) | (with_reducible refine r_cmp ?_) | (with_reducible refine r_nilB ?_) | (with_reducible refine r_tru ?_; try dsimp only [Bool.not_true, Bool.not_false]) | (with_reducible refine r_isT ?_; try dsimp only [Bool.not_true, Bool.not_false]) | (with_reducible refine r_isS ?_; try dsimp only [Bool.not_true, Bool.not_false]) | (with_reducible refine r_isI ?_) | (with_reducible refine r_isB ?_) | (refine ok_eq (a := true) rfl ?_; try dsimp only [Bool.not_true, Bool.not_false]) | (refine ok_eq (a := false) rfl ?_; try dsimp only [Bool.not_true, Bool.not_false]) | (with_reducible refine two_t ?_) | (with_reducible refine two_f ?_) | (with_reducible refine two_nt ?_) | (with_reducible refine two_nf ?_) | (refine ok_bind ?_; try dsimp only) | (refine ok_map ?_; try dsimp only) | (refine ok_some ?_; try dsimp only [Bool.not_true, Bool.not_false]))
  refine ⟨?_⟩
  obtain ⟨e, he⟩ := loop_ok (c := c) (i := i) (p := p) (rule := rule) (also := also) (due := b') (e5 := .lst ((rules9.take 7).map .str)) (e6 := .str z) (e7 := .ref μ.length) (μ := (μ ++ [fns3 b' tl] ++ [fns3 b' tl])) rules9 none ho
  refine ok_eq he ?_
  try dsimp only
  repeat (first | (with_reducible refine r_for ?_) | (with_reducible refine ok_eq q1 ?_; try dsimp only [Bool.not_true, Bool.not_false]) | (with_reducible refine ok_eq q3 ?_; try dsimp only [Bool.not_true, Bool.not_false]) | (with_reducible refine ok_eq q4 ?_; try dsimp only [Bool.not_true, Bool.not_false]) | (with_reducible refine ok_eq q5 ?_; try dsimp only [Bool.not_true, Bool.not_false]) | (with_reducible refine ok_eq g25 ?_; try dsimp only [Bool.not_true, Bool.not_false]) | (with_reducible refine ok_eq e1 ?_; try dsimp only [Bool.not_true, Bool.not_false]) | (with_reducible refine ok_eq e2 ?_; try dsimp only [Bool.not_true, Bool.not_false]) | (with_reducible refine r_if ?_) | (with_reducible refine r_boo ?_) | (with_reducible refine r_or ?_) | (with_reducible refine r_and ?_) | (with_reducible refine r_not ?_) | (with_reducible refine r_val ?_) | (with_reducible refine r_cmp ?_) | (with_reducible refine r_nilB ?_) | (with_reducible refine r_tru ?_; try dsimp only [Bool.not_true, Bool.not_false]) | (with_reducible refine r_isT ?_; try dsimp only [Bool.not_true, Bool.not_false]) | (with_reducible refine r_isS ?_; try dsimp only [Bool.not_true, Bool.not_false]) | (with_reducible refine r_isI ?_) | (with_reducible refine r_isB ?_) | (refine ok_eq (a := true) rfl ?_; try dsimp only [Bool.not_true, Bool.not_false]) | (refine ok_eq (a := false) rfl ?_; try dsimp only [Bool.not_true, Bool.not_false]) | (with_reducible refine two_t ?_) | (with_reducible refine two_f ?_) | (with_reducible refine two_nt ?_) | (with_reducible refine two_nf ?_) | (refine ok_bind ?_; try dsimp only) | (refine ok_map ?_; try dsimp only) | (refine ok_some ?_; try dsimp only [Bool.not_true, Bool.not_false]))
  try rfl
end Pl

namespace Pl
open PySem L2
section
variable {R : List PDef} {m i k : Nat} {t s u d : T} {p : List Nat} {rule : Str} {also : List D} {μ : Mu}
/-- what is asked of the other rules, on trees: f the rule's def -/
def Othr (R : List PDef) (m i : Nat) (s : T) (rule : Str) (also : List D) : Prop :=
  ∀ μ : Mu, ∀ x ∈ rules9, x = rule ∨ inD μ (.str x) (.lst also) = some true ∨ (x ≠ rule ∧ inD μ (.str x) (.lst also) = some false ∧ ∃ f, lookE tab_RULES x = some (some f) ∧ ∀ v, callF (Pc ++ R) (m + 70) f [enc s, .ref i, .int v] μ = some (.non, μ))
theorem oth_of (h : t.fit) (hf : μ[i]? = some (fns3 (enc t) (tlW k))) (ha : t.at p = some s) (ho : Othr R m i s rule also) : ∀ x ∈ rules9, Oth (callF (Pc ++ R) (m + 71)) i p rule also μ x := fun x hx => by
  rcases ho μ x hx with h1 | h1 | ⟨h1, h2, f, h3, h4⟩
  · exact .inl h1
  · exact .inr (.inl h1)
  · exact .inr (.inr ⟨h1, h2, step_no h hf ha h3 h4⟩)
/-- no step is due, none is made -/
theorem is_no (h : t.fit) (hk : k ≤ 5000) (hf : μ[i]? = some (fns3 (enc t) (tlW k))) (ha : t.at p = some s) {f : Nat} (hr : lookE tab_RULES rule = some (some f)) (hc : ∀ v, callF (Pc ++ Rs R) (m + 70) f [enc s, .ref i, .int v] μ = some (.non, μ)) (ho : Othr (Rs R) m i s rule also) :
    callF (Pc ++ Rs R) (m + 72) 43 [.ref i, natsD p, .str rule, .non, .lst also] μ = some (.bl true, μ) := by
  obtain ⟨z, hz⟩ := told_ok h hk
  rw [cf__law_is_step]
  exact is_b0 (.inl rfl) (told_ref (m + 70) (hz μ i hf)) (step_no h hf ha hr hc) (told_non (m + 70)) (oth_of h hf ha ho)
/-- a step is due and made -/
theorem is_yes (h : t.fit) (hk : k ≤ 5000) (hf : μ[i]? = some (fns3 (enc t) (tlW k))) (ha : t.at p = some s) {f : Nat} (hr : lookE tab_RULES rule = some (some f)) (hc : ∀ μ v, callF (Pc ++ Rs R) (m + 70) f [enc s, .ref i, .int v] μ = some (enc u, μ)) (hp : t.put p u = some d) (hd : d.fit) (hl : p.length ≤ 60)
    (ho : Othr (Rs R) m i s rule also) : ∃ e, callF (Pc ++ Rs R) (m + 72) 43 [.ref i, natsD p, .str rule, enc d, .lst also] μ = some (.bl true, μ ++ e) := by
  obtain ⟨z, hz⟩ := told_ok h hk
  obtain ⟨z', hz'⟩ := told_ok hd hk
  have hi : i < μ.length := (List.getElem?_eq_some_iff.mp hf).1
  have ht := hd.ht
  rw [cf__law_is_step]
  have h39 := lsize_ok (Rs R) μ d (m + 68) (by omega)
  by_cases q : d.size ≤ 400
  · have f1 : (μ ++ [fns3 (enc d) (tlW k)])[i]? = some (fns3 (enc t) (tlW k)) := by rw [List.getElem?_append_left hi]; exact hf
    have f2 : (μ ++ [fns3 (enc d) (tlW k)] ++ [fns3 (enc d) (tlW k)])[i]? = some (fns3 (enc t) (tlW k)) := by rw [List.getElem?_append_left (by simp; omega)]; exact f1
    have f3 : (μ ++ [fns3 (enc d) (tlW k)] ++ [fns3 (enc d) (tlW k)])[μ.length]? = some (fns3 (enc d) (tlW k)) := by simp
    have f4 : (μ ++ [fns3 (enc d) (tlW k)] ++ [fns3 (enc d) (tlW k)])[μ.length + 1]? = some (fns3 (enc d) (tlW k)) := by simp
    have st := step_yes (R := Rs R) (m := m) h ht f1 ha hr (hc _) hp hl
    rw [if_pos q, List.length_append, List.length_singleton] at st
    refine ⟨[fns3 (enc d) (tlW k)] ++ [fns3 (enc d) (tlW k)], ?_⟩
    rw [← List.append_assoc]
    exact is_b1 (due := .non) hf (enc_ne d) h39 (by omega) (told_ref (m + 70) (hz μ i hf)) (told_ref (m + 70) (hz _ i f2)) st (told_ref (m + 70) (hz' _ _ f4)) (told_ref (m + 70) (hz' _ _ f3)) (oth_of h f2 ha ho)
  · have st := step_yes (R := Rs R) (m := m) h ht hf ha hr (hc _) hp hl
    rw [if_neg q] at st
    refine ⟨[], ?_⟩
    rw [List.append_nil]
    exact is_b0 (.inr ⟨enc_ne d, _, h39, by omega⟩) (told_ref (m + 70) (hz μ i hf)) st (told_non (m + 70)) (oth_of h hf ha ho)
end
theorem tabs9 : lookE tab_RULES "known switch" = some (some 14) ∧ lookE tab_RULES "value put in" = some (some 15) ∧ lookE tab_RULES "left out" = some (some 16) ∧ lookE tab_RULES "call put in" = some (some 17) ∧ lookE tab_RULES "known function" = some (some 18) ∧
    lookE tab_RULES "number reckoned" = some (some 19) ∧ lookE tab_RULES "let of let" = some (some 20) ∧ lookE tab_RULES "switch of let" = some (some 21) ∧ lookE tab_RULES "switch again" = some (some 23) := by decide +kernel
end Pl

namespace Pl
open PySem L2
/-- the store with the script's reading at its head -/
def SS (μ : Mu) (ns : List Int) (i a b : Int) : Mu := μ.set 0 (.lst [.lst (ns.map .int), .int i, .int a, .int b])
section
variable {μ : Mu} {ns : List Int} {i a b v : Int} (h0 : 0 < μ.length)
include h0
theorem ss_at : (SS μ ns i a b)[0]? = some (.lst [.lst (ns.map .int), .int i, .int a, .int b]) := by simp [SS, h0]
theorem s0 : idxD (SS μ ns i a b) (.ref 0) (.int 0) = some (.lst (ns.map .int)) := by
  simp only [idxD, ss_at h0]; rfl
theorem s1 : idxD (SS μ ns i a b) (.ref 0) (.int 1) = some (.int i) := by
  simp only [idxD, ss_at h0]; rfl
theorem s2 : idxD (SS μ ns i a b) (.ref 0) (.int 2) = some (.int a) := by
  simp only [idxD, ss_at h0]; rfl
theorem s3 : idxD (SS μ ns i a b) (.ref 0) (.int 3) = some (.int b) := by
  simp only [idxD, ss_at h0]; rfl
theorem p1 : setD (SS μ ns i a b) (.ref 0) (.int 1) (.int v) = some (SS μ ns v a b) := by
  simp only [setD, ss_at h0]
  show some ((SS μ ns i a b).set 0 _) = _
  simp [SS]
theorem p2 : setD (SS μ ns i a b) (.ref 0) (.int 2) (.int v) = some (SS μ ns i v b) := by
  simp only [setD, ss_at h0]
  show some ((SS μ ns i a b).set 0 _) = _
  simp [SS]
theorem p3 : setD (SS μ ns i a b) (.ref 0) (.int 3) (.int v) = some (SS μ ns i a v) := by
  simp only [setD, ss_at h0]
  show some ((SS μ ns i a b).set 0 _) = _
  simp [SS]
end
theorem fdiv {μ : Mu} {a j : Int} (h : 0 < j) (h2 : j ≤ 1000000) : binM μ .FloorDiv (.int a) (.int j) = some (.int (a / j)) := by
  have : j.natAbs.log2 < 9000 := by
    have h3 : j.natAbs ≠ 0 := by omega
    exact Nat.lt_of_lt_of_le ((Nat.log2_lt h3).mpr (show j.natAbs < 2 ^ 20 by omega)) (by decide)
  simp [binM, binD, h, this]
theorem fmod {μ : Mu} {a j : Int} (h : 0 < j) : binM μ .Mod (.int a) (.int j) = some (.int (a % j)) := by simp [binM, binD, h]
theorem mulA {μ : Mu} {a : Int} : binM μ .Mult (.int a) (.int 69621) = some (.int (a * 69621)) := by simp [binM, binD]
theorem mulB {μ : Mu} {a : Int} : binM μ .Mult (.int a) (.int 48271) = some (.int (a * 48271)) := by simp [binM, binD]
def hdS : ASs → AS
  | .cons s _ => s
  | .nil => .pass
theorem next_b {c : Orc} {μ : Mu} {ns : List Int} {i a b lim : Int} (h0 : 0 < μ.length) (hi : 0 ≤ i) (ha : 0 ≤ a) (hl : 0 < lim) (hl2 : lim ≤ 1000000) :
    Ok ((evSs c b__law_next [some (.ref 0), some (.int lim), none, none] (SS μ ns i a b)).bind retK) fun r => ∃ v i' a' b', r = (.int v, SS μ ns i' a' b') ∧ 0 ≤ v ∧ v < lim ∧ 0 ≤ i' ∧ 0 ≤ a' := by
  have tail : ∀ (i a b : Int) (e2 : Option D), 0 ≤ i → 0 ≤ a → Ok ((evSs c (dropS 1 b__law_next) [some (.ref 0), some (.int lim), e2, none] (SS μ ns i a b)).bind retK) fun r => ∃ v i' a' b', r = (.int v, SS μ ns i' a' b') ∧ 0 ≤ v ∧ v < lim ∧ 0 ≤ i' ∧ 0 ≤ a' := by
    intro i a b e2 hi ha
    by_cases h : 0 < a
    · have e1 : ∀ μ, cmpD μ .Gt (.int a) (.int 0) = some true := fun μ => by simp [cmpD, h]
      have m1 := fun μ => fmod (μ := μ) (a := a) hl
      have d1 := fun μ => fdiv (μ := μ) (a := a) hl hl2
      repeat (first | (with_reducible refine r_for ?_) | (with_reducible refine ok_eq mulA ?_; try dsimp only [Bool.not_true, Bool.not_false]) | (with_reducible refine ok_eq mulB ?_; try dsimp only [Bool.not_true, Bool.not_false]) | (with_reducible refine ok_eq (s0 h0) ?_; try dsimp only [Bool.not_true, Bool.not_false]) | (with_reducible refine ok_eq (s1 h0) ?_; try dsimp only [Bool.not_true, Bool.not_false]) | (with_reducible refine ok_eq (s2 h0) ?_; try dsimp only [Bool.not_true, Bool.not_false]) | (with_reducible refine ok_eq (s3 h0) ?_; try dsimp only [Bool.not_true, Bool.not_false]) | (with_reducible refine ok_eq (p1 h0) ?_; try dsimp only [Bool.not_true, Bool.not_false]) | (with_reducible refine ok_eq (p2 h0) ?_; try dsimp only [Bool.not_true, Bool.not_false]) | (with_reducible refine ok_eq (p3 h0) ?_; try dsimp only [Bool.not_true, Bool.not_false]) | (with_reducible refine ok_eq (e1 _) ?_; try dsimp only [Bool.not_true, Bool.not_false]) | (with_reducible refine ok_eq (m1 _) ?_; try dsimp only [Bool.not_true, Bool.not_false]) | (with_reducible refine ok_eq (d1 _) ?_; try dsimp only [Bool.not_true, Bool.not_false]) | (with_reducible refine r_if ?_) | (with_reducible refine r_boo ?_) | (with_reducible refine r_or ?_) | (with_reducible refine r_and ?_) | (with_reducible refine r_not ?_) | (with_reducible refine r_val ?_) | (with_reducible refine r_cmp ?_) | (with_reducible refine r_nilB ?_) | (with_reducible refine r_tru ?_; try dsimp only [Bool.not_true, Bool.not_false]) | (with_reducible refine r_isT ?_; try dsimp only [Bool.not_true, Bool.not_false]) | (with_reducible refine r_isS ?_; try dsimp only [Bool.not_true, Bool.not_false]) | (with_reducible refine r_isI ?_) | (with_reducible refine r_isB ?_) | (refine ok_eq (a := true) rfl ?_; try dsimp only [Bool.not_true, Bool.not_false]) | (refine ok_eq (a := false) rfl ?_; try dsimp only [Bool.not_true, Bool.not_false]) | (with_reducible refine two_t ?_) | (with_reducible refine two_f ?_) | (with_reducible refine two_nt ?_) | (with_reducible refine two_nf ?_) | (refine ok_bind ?_; try dsimp only) | (refine ok_map ?_; try dsimp only) | (refine ok_some ?_; try dsimp only [Bool.not_true, Bool.not_false]))
      exact ⟨_, _, _, _, rfl, Int.emod_nonneg _ (by omega), Int.emod_lt_of_pos _ hl, hi, Int.ediv_nonneg ha (by omega)⟩
    · have e1 : ∀ μ, cmpD μ .Gt (.int a) (.int 0) = some false := fun μ => by simp [cmpD]; omega
      have m2 := fun μ (x : Int) => fmod (μ := μ) (a := x) hl
      have m3 := fun μ (x : Int) => fmod (μ := μ) (a := x) (j := 2147483647) (by decide)
      have d3 := fun μ (x : Int) => fdiv (μ := μ) (a := x) (j := 7) (by decide) (by decide)
      repeat (first | (with_reducible refine r_for ?_) | (with_reducible refine ok_eq mulA ?_; try dsimp only [Bool.not_true, Bool.not_false]) | (with_reducible refine ok_eq mulB ?_; try dsimp only [Bool.not_true, Bool.not_false]) | (with_reducible refine ok_eq (s0 h0) ?_; try dsimp only [Bool.not_true, Bool.not_false]) | (with_reducible refine ok_eq (s1 h0) ?_; try dsimp only [Bool.not_true, Bool.not_false]) | (with_reducible refine ok_eq (s2 h0) ?_; try dsimp only [Bool.not_true, Bool.not_false]) | (with_reducible refine ok_eq (s3 h0) ?_; try dsimp only [Bool.not_true, Bool.not_false]) | (with_reducible refine ok_eq (p1 h0) ?_; try dsimp only [Bool.not_true, Bool.not_false]) | (with_reducible refine ok_eq (p2 h0) ?_; try dsimp only [Bool.not_true, Bool.not_false]) | (with_reducible refine ok_eq (p3 h0) ?_; try dsimp only [Bool.not_true, Bool.not_false]) | (with_reducible refine ok_eq (e1 _) ?_; try dsimp only [Bool.not_true, Bool.not_false]) | (with_reducible refine ok_eq (m3 _ _) ?_; try dsimp only [Bool.not_true, Bool.not_false]) | (with_reducible refine ok_eq (d3 _ _) ?_; try dsimp only [Bool.not_true, Bool.not_false]) | (with_reducible refine ok_eq (m2 _ _) ?_; try dsimp only [Bool.not_true, Bool.not_false]) | (with_reducible refine r_if ?_) | (with_reducible refine r_boo ?_) | (with_reducible refine r_or ?_) | (with_reducible refine r_and ?_) | (with_reducible refine r_not ?_) | (with_reducible refine r_val ?_) | (with_reducible refine r_cmp ?_) | (with_reducible refine r_nilB ?_) | (with_reducible refine r_tru ?_; try dsimp only [Bool.not_true, Bool.not_false]) | (with_reducible refine r_isT ?_; try dsimp only [Bool.not_true, Bool.not_false]) | (with_reducible refine r_isS ?_; try dsimp only [Bool.not_true, Bool.not_false]) | (with_reducible refine r_isI ?_) | (with_reducible refine r_isB ?_) | (refine ok_eq (a := true) rfl ?_; try dsimp only [Bool.not_true, Bool.not_false]) | (refine ok_eq (a := false) rfl ?_; try dsimp only [Bool.not_true, Bool.not_false]) | (with_reducible refine two_t ?_) | (with_reducible refine two_f ?_) | (with_reducible refine two_nt ?_) | (with_reducible refine two_nf ?_) | (refine ok_bind ?_; try dsimp only) | (refine ok_map ?_; try dsimp only) | (refine ok_some ?_; try dsimp only [Bool.not_true, Bool.not_false]))
      exact ⟨_, _, _, _, rfl, Int.emod_nonneg _ (by omega), Int.emod_lt_of_pos _ hl, hi, ha⟩
  have first : Ok (evS c (hdS b__law_next) [some (.ref 0), some (.int lim), none, none] (SS μ ns i a b)) fun r => ∃ i' a' b' e2, r = (.nx, [some (.ref 0), some (.int lim), e2, none], SS μ ns i' a' b') ∧ 0 ≤ i' ∧ 0 ≤ a' := by
    by_cases hc : a = 0 ∧ i < (ns.length : Int)
    · obtain ⟨rfl, hi2⟩ := hc
      have hlt : i.toNat < ns.length := by omega
      have e1 : ∀ μ, cmpD μ .Eq (.int 0) (.int 0) = some true := fun _ => rfl
      have e2 : ∀ μ, cmpD μ .Lt (.int i) (.int (ns.length : Nat)) = some true := fun _ => by simp [cmpD]; omega
      have ln : ∀ μ, biD μ .len [.lst (ns.map .int)] = some (.int (ns.length : Nat), μ) := fun _ => by simp [biD, itemsD]
      have cl : ∀ μ, idxD μ (.lst (ns.map .int)) (.int i) = some (.int ns[i.toNat]) := fun μ => by
        have := atI_nat (xs := ns.map D.int) (j := i.toNat) (v := .int ns[i.toNat]) (by simp [hlt])
        rw [Int.toNat_of_nonneg hi] at this
        exact this
      by_cases hbig : 10 ^ 18 ≤ ns[i.toNat]
      · have e3 : ∀ μ, cmpD μ .GtE (.int ns[i.toNat]) (.int (10 ^ 18)) = some true := fun _ => by simp only [cmpD]; exact congrArg some (decide_eq_true hbig)
        repeat (first | (with_reducible refine r_for ?_) | (with_reducible refine ok_eq mulA ?_; try dsimp only [Bool.not_true, Bool.not_false]) | (with_reducible refine ok_eq mulB ?_; try dsimp only [Bool.not_true, Bool.not_false]) | (with_reducible refine ok_eq (s0 h0) ?_; try dsimp only [Bool.not_true, Bool.not_false]) | (with_reducible refine ok_eq (s1 h0) ?_; try dsimp only [Bool.not_true, Bool.not_false]) | (with_reducible refine ok_eq (s2 h0) ?_; try dsimp only [Bool.not_true, Bool.not_false]) | (with_reducible refine ok_eq (s3 h0) ?_; try dsimp only [Bool.not_true, Bool.not_false]) | (with_reducible refine ok_eq (p1 h0) ?_; try dsimp only [Bool.not_true, Bool.not_false]) | (with_reducible refine ok_eq (p2 h0) ?_; try dsimp only [Bool.not_true, Bool.not_false]) | (with_reducible refine ok_eq (p3 h0) ?_; try dsimp only [Bool.not_true, Bool.not_false]) | (with_reducible refine ok_eq (e1 _) ?_; try dsimp only [Bool.not_true, Bool.not_false]) | (with_reducible refine ok_eq (e2 _) ?_; try dsimp only [Bool.not_true, Bool.not_false]) | (with_reducible refine ok_eq (ln _) ?_; try dsimp only [Bool.not_true, Bool.not_false]) | (with_reducible refine ok_eq (cl _) ?_; try dsimp only [Bool.not_true, Bool.not_false]) | (with_reducible refine ok_eq (e3 _) ?_; try dsimp only [Bool.not_true, Bool.not_false]) | (with_reducible refine r_if ?_) | (with_reducible refine r_boo ?_) | (with_reducible refine r_or ?_) | (with_reducible refine r_and ?_) | (with_reducible refine r_not ?_) | (with_reducible refine r_val ?_) | (with_reducible refine r_cmp ?_) | (with_reducible refine r_nilB ?_) | (with_reducible refine r_tru ?_; try dsimp only [Bool.not_true, Bool.not_false]) | (with_reducible refine r_isT ?_; try dsimp only [Bool.not_true, Bool.not_false]) | (with_reducible refine r_isS ?_; try dsimp only [Bool.not_true, Bool.not_false]) | (with_reducible refine r_isI ?_) | (with_reducible refine r_isB ?_) | (refine ok_eq (a := true) rfl ?_; try dsimp only [Bool.not_true, Bool.not_false]) | (refine ok_eq (a := false) rfl ?_; try dsimp only [Bool.not_true, Bool.not_false]) | (with_reducible refine two_t ?_) | (with_reducible refine two_f ?_) | (with_reducible refine two_nt ?_) | (with_reducible refine two_nf ?_) | (refine ok_bind ?_; try dsimp only) | (refine ok_map ?_; try dsimp only) | (refine ok_some ?_; try dsimp only [Bool.not_true, Bool.not_false]))
        exact ⟨_, _, _, _, rfl, by omega, by omega⟩
      · have e3 : ∀ μ, cmpD μ .GtE (.int ns[i.toNat]) (.int (10 ^ 18)) = some false := fun _ => by simp only [cmpD]; exact congrArg some (decide_eq_false hbig)
        have m3 := fun μ (x : Int) => fmod (μ := μ) (a := x) (j := 2147483647) (by decide)
        repeat (first | (with_reducible refine r_for ?_) | (with_reducible refine ok_eq mulA ?_; try dsimp only [Bool.not_true, Bool.not_false]) | (with_reducible refine ok_eq mulB ?_; try dsimp only [Bool.not_true, Bool.not_false]) | (with_reducible refine ok_eq (s0 h0) ?_; try dsimp only [Bool.not_true, Bool.not_false]) | (with_reducible refine ok_eq (s1 h0) ?_; try dsimp only [Bool.not_true, Bool.not_false]) | (with_reducible refine ok_eq (s2 h0) ?_; try dsimp only [Bool.not_true, Bool.not_false]) | (with_reducible refine ok_eq (s3 h0) ?_; try dsimp only [Bool.not_true, Bool.not_false]) | (with_reducible refine ok_eq (p1 h0) ?_; try dsimp only [Bool.not_true, Bool.not_false]) | (with_reducible refine ok_eq (p2 h0) ?_; try dsimp only [Bool.not_true, Bool.not_false]) | (with_reducible refine ok_eq (p3 h0) ?_; try dsimp only [Bool.not_true, Bool.not_false]) | (with_reducible refine ok_eq (e1 _) ?_; try dsimp only [Bool.not_true, Bool.not_false]) | (with_reducible refine ok_eq (e2 _) ?_; try dsimp only [Bool.not_true, Bool.not_false]) | (with_reducible refine ok_eq (ln _) ?_; try dsimp only [Bool.not_true, Bool.not_false]) | (with_reducible refine ok_eq (cl _) ?_; try dsimp only [Bool.not_true, Bool.not_false]) | (with_reducible refine ok_eq (e3 _) ?_; try dsimp only [Bool.not_true, Bool.not_false]) | (with_reducible refine ok_eq (m3 _ _) ?_; try dsimp only [Bool.not_true, Bool.not_false]) | (with_reducible refine r_if ?_) | (with_reducible refine r_boo ?_) | (with_reducible refine r_or ?_) | (with_reducible refine r_and ?_) | (with_reducible refine r_not ?_) | (with_reducible refine r_val ?_) | (with_reducible refine r_cmp ?_) | (with_reducible refine r_nilB ?_) | (with_reducible refine r_tru ?_; try dsimp only [Bool.not_true, Bool.not_false]) | (with_reducible refine r_isT ?_; try dsimp only [Bool.not_true, Bool.not_false]) | (with_reducible refine r_isS ?_; try dsimp only [Bool.not_true, Bool.not_false]) | (with_reducible refine r_isI ?_) | (with_reducible refine r_isB ?_) | (refine ok_eq (a := true) rfl ?_; try dsimp only [Bool.not_true, Bool.not_false]) | (refine ok_eq (a := false) rfl ?_; try dsimp only [Bool.not_true, Bool.not_false]) | (with_reducible refine two_t ?_) | (with_reducible refine two_f ?_) | (with_reducible refine two_nt ?_) | (with_reducible refine two_nf ?_) | (refine ok_bind ?_; try dsimp only) | (refine ok_map ?_; try dsimp only) | (refine ok_some ?_; try dsimp only [Bool.not_true, Bool.not_false]))
        exact ⟨_, _, _, _, rfl, by omega, by omega⟩
    · by_cases h2 : a = 0
      · subst h2
        have e1 : ∀ μ, cmpD μ .Eq (.int 0) (.int 0) = some true := fun _ => rfl
        have e2 : ∀ μ, cmpD μ .Lt (.int i) (.int (ns.length : Nat)) = some false := fun _ => by simp [cmpD]; omega
        have ln : ∀ μ, biD μ .len [.lst (ns.map .int)] = some (.int (ns.length : Nat), μ) := fun _ => by simp [biD, itemsD]
        repeat (first | (with_reducible refine r_for ?_) | (with_reducible refine ok_eq mulA ?_; try dsimp only [Bool.not_true, Bool.not_false]) | (with_reducible refine ok_eq mulB ?_; try dsimp only [Bool.not_true, Bool.not_false]) | (with_reducible refine ok_eq (s0 h0) ?_; try dsimp only [Bool.not_true, Bool.not_false]) | (with_reducible refine ok_eq (s1 h0) ?_; try dsimp only [Bool.not_true, Bool.not_false]) | (with_reducible refine ok_eq (s2 h0) ?_; try dsimp only [Bool.not_true, Bool.not_false]) | (with_reducible refine ok_eq (s3 h0) ?_; try dsimp only [Bool.not_true, Bool.not_false]) | (with_reducible refine ok_eq (p1 h0) ?_; try dsimp only [Bool.not_true, Bool.not_false]) | (with_reducible refine ok_eq (p2 h0) ?_; try dsimp only [Bool.not_true, Bool.not_false]) | (with_reducible refine ok_eq (p3 h0) ?_; try dsimp only [Bool.not_true, Bool.not_false]) | (with_reducible refine ok_eq (e1 _) ?_; try dsimp only [Bool.not_true, Bool.not_false]) | (with_reducible refine ok_eq (e2 _) ?_; try dsimp only [Bool.not_true, Bool.not_false]) | (with_reducible refine ok_eq (ln _) ?_; try dsimp only [Bool.not_true, Bool.not_false]) | (with_reducible refine r_if ?_) | (with_reducible refine r_boo ?_) | (with_reducible refine r_or ?_) | (with_reducible refine r_and ?_) | (with_reducible refine r_not ?_) | (with_reducible refine r_val ?_) | (with_reducible refine r_cmp ?_) | (with_reducible refine r_nilB ?_) | (with_reducible refine r_tru ?_; try dsimp only [Bool.not_true, Bool.not_false]) | (with_reducible refine r_isT ?_; try dsimp only [Bool.not_true, Bool.not_false]) | (with_reducible refine r_isS ?_; try dsimp only [Bool.not_true, Bool.not_false]) | (with_reducible refine r_isI ?_) | (with_reducible refine r_isB ?_) | (refine ok_eq (a := true) rfl ?_; try dsimp only [Bool.not_true, Bool.not_false]) | (refine ok_eq (a := false) rfl ?_; try dsimp only [Bool.not_true, Bool.not_false]) | (with_reducible refine two_t ?_) | (with_reducible refine two_f ?_) | (with_reducible refine two_nt ?_) | (with_reducible refine two_nf ?_) | (refine ok_bind ?_; try dsimp only) | (refine ok_map ?_; try dsimp only) | (refine ok_some ?_; try dsimp only [Bool.not_true, Bool.not_false]))
        exact ⟨_, _, _, _, rfl, by omega, by omega⟩
      · have e1 : ∀ μ, cmpD μ .Eq (.int a) (.int 0) = some false := fun _ => by simp [cmpD, eqD, scalD, h2]
        repeat (first | (with_reducible refine r_for ?_) | (with_reducible refine ok_eq mulA ?_; try dsimp only [Bool.not_true, Bool.not_false]) | (with_reducible refine ok_eq mulB ?_; try dsimp only [Bool.not_true, Bool.not_false]) | (with_reducible refine ok_eq (s0 h0) ?_; try dsimp only [Bool.not_true, Bool.not_false]) | (with_reducible refine ok_eq (s1 h0) ?_; try dsimp only [Bool.not_true, Bool.not_false]) | (with_reducible refine ok_eq (s2 h0) ?_; try dsimp only [Bool.not_true, Bool.not_false]) | (with_reducible refine ok_eq (s3 h0) ?_; try dsimp only [Bool.not_true, Bool.not_false]) | (with_reducible refine ok_eq (p1 h0) ?_; try dsimp only [Bool.not_true, Bool.not_false]) | (with_reducible refine ok_eq (p2 h0) ?_; try dsimp only [Bool.not_true, Bool.not_false]) | (with_reducible refine ok_eq (p3 h0) ?_; try dsimp only [Bool.not_true, Bool.not_false]) | (with_reducible refine ok_eq (e1 _) ?_; try dsimp only [Bool.not_true, Bool.not_false]) | (with_reducible refine r_if ?_) | (with_reducible refine r_boo ?_) | (with_reducible refine r_or ?_) | (with_reducible refine r_and ?_) | (with_reducible refine r_not ?_) | (with_reducible refine r_val ?_) | (with_reducible refine r_cmp ?_) | (with_reducible refine r_nilB ?_) | (with_reducible refine r_tru ?_; try dsimp only [Bool.not_true, Bool.not_false]) | (with_reducible refine r_isT ?_; try dsimp only [Bool.not_true, Bool.not_false]) | (with_reducible refine r_isS ?_; try dsimp only [Bool.not_true, Bool.not_false]) | (with_reducible refine r_isI ?_) | (with_reducible refine r_isB ?_) | (refine ok_eq (a := true) rfl ?_; try dsimp only [Bool.not_true, Bool.not_false]) | (refine ok_eq (a := false) rfl ?_; try dsimp only [Bool.not_true, Bool.not_false]) | (with_reducible refine two_t ?_) | (with_reducible refine two_f ?_) | (with_reducible refine two_nt ?_) | (with_reducible refine two_nf ?_) | (refine ok_bind ?_; try dsimp only) | (refine ok_map ?_; try dsimp only) | (refine ok_some ?_; try dsimp only [Bool.not_true, Bool.not_false]))
        exact ⟨_, _, _, _, rfl, by omega, by omega⟩
  obtain ⟨r, hr, i', a', b', e2, rfl, h1, h2⟩ := first
  obtain ⟨r2, h3, h4⟩ := tail i' a' b' e2 h1 h2
  refine ⟨r2, ?_, h4⟩
  have split : evSs c b__law_next [some (.ref 0), some (.int lim), none, none] (SS μ ns i a b) = (evS c (hdS b__law_next) [some (.ref 0), some (.int lim), none, none] (SS μ ns i a b)).bind fun r => match r.1 with
    | .nx => evSs c (dropS 1 b__law_next) r.2.1 r.2.2
    | _ => some r := rfl
  rw [split, hr]
  exact h3
theorem next_ok (R : List PDef) {μ : Mu} {ns : List Int} {i a b lim : Int} (n : Nat) (h0 : 0 < μ.length) (hi : 0 ≤ i) (ha : 0 ≤ a) (hl : 0 < lim) (hl2 : lim ≤ 1000000) :
    ∃ v i' a' b', callF (Pc ++ R) (n + 1) 26 [.ref 0, .int lim] (SS μ ns i a b) = some (.int v, SS μ ns i' a' b') ∧ 0 ≤ v ∧ v < lim ∧ 0 ≤ i' ∧ 0 ≤ a' := by
  rw [cf__law_next]
  obtain ⟨r, h1, v, i', a', b', rfl, h2⟩ := next_b (c := callF (Pc ++ R) n) (b := b) h0 hi ha hl hl2
  exact ⟨v, i', a', b', h1, h2⟩
end Pl

namespace Pl
open PySem L2
def bagO (at' cnt : Int) (hole : D) : Ob := .dct [(.inr "at", .int at'), (.inr "count", .int cnt), (.inr "hole", hole)]
/-- the store: the script's reading at 0, the bag at g -/
def W (μ : Mu) (ns : List Int) (g : Nat) (i a b at' cnt : Int) (hole : D) : Mu := SS (μ.set g (bagO at' cnt hole)) ns i a b
section
variable {μ : Mu} {ns : List Int} {g : Nat} {i a b at' cnt v : Int} {hole d : D} (hg : 0 < g) (hm : g < μ.length)
include hg hm
theorem w_at : (W μ ns g i a b at' cnt hole)[g]? = some (bagO at' cnt hole) := by
  unfold W SS
  rw [List.getElem?_set_ne (by omega), List.getElem?_set_self (by omega)]
theorem w_set (o : Ob) (at2 cnt2 : Int) (hole2 : D) (ho : o = bagO at2 cnt2 hole2) : (W μ ns g i a b at' cnt hole).set g o = W μ ns g i a b at2 cnt2 hole2 := by
  unfold W SS
  rw [ho, List.set_comm _ _ (show (0 : Nat) ≠ g by omega), List.set_set]
theorem b_at : idxD (W μ ns g i a b at' cnt hole) (.ref g) (.str "at") = some (.int at') := by
  simp only [idxD, w_at hg hm, bagO]; rfl
theorem b_cnt : idxD (W μ ns g i a b at' cnt hole) (.ref g) (.str "count") = some (.int cnt) := by
  simp only [idxD, w_at hg hm, bagO]; rfl
theorem b_hole : idxD (W μ ns g i a b at' cnt hole) (.ref g) (.str "hole") = some hole := by
  simp only [idxD, w_at hg hm, bagO]; rfl
theorem sl3 : (3 : Nat) < sizeLine := by rw [sizeLine_eq]; omega
theorem q_at : setD (W μ ns g i a b at' cnt hole) (.ref g) (.str "at") (.int v) = some (W μ ns g i a b v cnt hole) := by
  simp only [setD, w_at hg hm, bagO]
  refine (if_pos (by rw [sizeLine_eq]; show 3 < 16777216; omega)).trans ?_
  exact congrArg some (w_set hg hm _ v cnt hole (by kernel_rfl))
theorem q_cnt : setD (W μ ns g i a b at' cnt hole) (.ref g) (.str "count") (.int v) = some (W μ ns g i a b at' v hole) := by
  simp only [setD, w_at hg hm, bagO]
  refine (if_pos (by rw [sizeLine_eq]; show 3 < 16777216; omega)).trans ?_
  exact congrArg some (w_set hg hm _ at' v hole (by kernel_rfl))
theorem q_hole : setD (W μ ns g i a b at' cnt hole) (.ref g) (.str "hole") d = some (W μ ns g i a b at' cnt d) := by
  simp only [setD, w_at hg hm, bagO]
  refine (if_pos (by rw [sizeLine_eq]; show 3 < 16777216; omega)).trans ?_
  exact congrArg some (w_set hg hm _ at' cnt d (by kernel_rfl))
theorem here_ok (R : List PDef) (n : Nat) : callF (Pc ++ R) (n + 1) 27 [.ref g] (W μ ns g i a b at' cnt hole) = some (at_ (at' + 1), W μ ns g i a b (at' + 1) cnt hole) := by
  rw [cf__law_here]
  generalize callF (Pc ++ R) n = c
  refine ok_is ?_
  repeat (first | (with_reducible refine r_for ?_) | (with_reducible refine ok_eq (b_at hg hm) ?_; try dsimp only [Bool.not_true, Bool.not_false]) | (with_reducible refine ok_eq (q_at hg hm) ?_; try dsimp only [Bool.not_true, Bool.not_false]) | (with_reducible refine r_if ?_) | (with_reducible refine r_boo ?_) | (with_reducible refine r_or ?_) | (with_reducible refine r_and ?_) | (with_reducible refine r_not ?_) | (with_reducible refine r_val ?_) | (with_reducible refine r_cmp ?_) | (with_reducible refine r_nilB ?_) | (with_reducible refine r_tru ?_; try dsimp only [Bool.not_true, Bool.not_false]) | (with_reducible refine r_isT ?_; try dsimp only [Bool.not_true, Bool.not_false]) | (with_reducible refine r_isS ?_; try dsimp only [Bool.not_true, Bool.not_false]) | (with_reducible refine r_isI ?_) | (with_reducible refine r_isB ?_) | (refine ok_eq (a := true) rfl ?_; try dsimp only [Bool.not_true, Bool.not_false]) | (refine ok_eq (a := false) rfl ?_; try dsimp only [Bool.not_true, Bool.not_false]) | (with_reducible refine two_t ?_) | (with_reducible refine two_f ?_) | (with_reducible refine two_nt ?_) | (with_reducible refine two_nf ?_) | (refine ok_bind ?_; try dsimp only) | (refine ok_map ?_; try dsimp only) | (refine ok_some ?_; try dsimp only [Bool.not_true, Bool.not_false]))
  try rfl
theorem new_ok (R : List PDef) (n : Nat) : callF (Pc ++ R) (n + 1) 28 [.ref g] (W μ ns g i a b at' cnt hole) = some (.int cnt, W μ ns g i a b at' (cnt + 1) hole) := by
  rw [cf__law_new]
  generalize callF (Pc ++ R) n = c
  refine ok_is ?_
  repeat (first | (with_reducible refine r_for ?_) | (with_reducible refine ok_eq (b_cnt hg hm) ?_; try dsimp only [Bool.not_true, Bool.not_false]) | (with_reducible refine ok_eq (q_cnt hg hm) ?_; try dsimp only [Bool.not_true, Bool.not_false]) | (with_reducible refine r_if ?_) | (with_reducible refine r_boo ?_) | (with_reducible refine r_or ?_) | (with_reducible refine r_and ?_) | (with_reducible refine r_not ?_) | (with_reducible refine r_val ?_) | (with_reducible refine r_cmp ?_) | (with_reducible refine r_nilB ?_) | (with_reducible refine r_tru ?_; try dsimp only [Bool.not_true, Bool.not_false]) | (with_reducible refine r_isT ?_; try dsimp only [Bool.not_true, Bool.not_false]) | (with_reducible refine r_isS ?_; try dsimp only [Bool.not_true, Bool.not_false]) | (with_reducible refine r_isI ?_) | (with_reducible refine r_isB ?_) | (refine ok_eq (a := true) rfl ?_; try dsimp only [Bool.not_true, Bool.not_false]) | (refine ok_eq (a := false) rfl ?_; try dsimp only [Bool.not_true, Bool.not_false]) | (with_reducible refine two_t ?_) | (with_reducible refine two_f ?_) | (with_reducible refine two_nt ?_) | (with_reducible refine two_nf ?_) | (refine ok_bind ?_; try dsimp only) | (refine ok_map ?_; try dsimp only) | (refine ok_some ?_; try dsimp only [Bool.not_true, Bool.not_false]))
  try simp
theorem draw_ok (R : List PDef) {lim : Int} (n : Nat) (hi : 0 ≤ i) (ha : 0 ≤ a) (hl : 0 < lim) (hl2 : lim ≤ 1000000) :
    ∃ v i' a' b', callF (Pc ++ R) (n + 1) 26 [.ref 0, .int lim] (W μ ns g i a b at' cnt hole) = some (.int v, W μ ns g i' a' b' at' cnt hole) ∧ 0 ≤ v ∧ v < lim ∧ 0 ≤ i' ∧ 0 ≤ a' :=
  next_ok R n (by rw [List.length_set]; omega) hi ha hl hl2
end
end Pl

namespace Pl
open PySem L2
structure OkL (f : D → Mu → Option (Option D × Mu)) (items : List D) (μ : Mu) (Q : List D × Mu → Prop) : Prop where
  ok : Ok (lcLoop f items μ) Q
theorem r_lc {c : Orc} {own : List Nat} {elt : AE} {t : AT} {src : ASr} {ifs : ABs} {env : En} {μ : Mu} {Q : D × Mu → Prop}
    (h : Ok (evSrc c src env μ) fun s => OkL (fun d μ1 => if okG s.2.1 μ1 = true then (asgT t d (wipeD env own)).bind fun e => (evBs c .And ifs e μ1).bind fun q =>
      if q.1 = true then (evE c elt e q.2).map fun y => (some y.1, y.2) else some (none, q.2) else none) s.1 s.2.2 fun r => Ok (if okG s.2.1 r.2 = true then some (D.lst r.1, r.2) else none) Q) : Ok (evE c (.lc own elt t src ifs) env μ) Q :=
  ok_bind (ok_w h fun _ h => ok_bind h.ok)
theorem r_asgLc {c : Orc} {i : Nat} {own : List Nat} {elt : AE} {t : AT} {src : ASr} {ifs : ABs} {env : En} {μ : Mu} {Q : Fl × En × Mu → Prop}
    (h : Ok (evE c (.lc own elt t src ifs) env μ) fun x => Q (.nx, env.set i (some x.1), x.2)) : Ok (evS c (.asgLc i own elt t src ifs) env μ) Q := ok_map h
def encP (q : Int × Str) : D := .tup [.int q.1, .str q.2]
/-- the names of that kind -/
def ofK (l : List (Int × Str)) (k : Str) : List Int := (l.filter fun q => q.2 = k).map (·.1)
theorem lc_ofK {f : D → Mu → Option (Option D × Mu)} {μ : Mu} {k : Str} (h : ∀ q : Int × Str, f (encP q) μ = some (if q.2 = k then some (.int q.1) else none, μ)) : ∀ l : List (Int × Str), lcLoop f (l.map encP) μ = some ((ofK l k).map .int, μ)
  | [] => rfl
  | q :: l => by
    rw [List.map_cons, lcLoop, h q, Option.bind_some, lc_ofK h l]
    by_cases e : q.2 = k
    · simp [e, ofK]
    · simp [e, ofK]
/-- what stands for the names in reach -/
structure Loc (μ : Mu) (g : Nat) (d : D) (l : List (Int × Str)) : Prop where
  kind : d = .lst (l.map encP) ∨ ∃ r, d = .ref r ∧ r ≠ 0 ∧ r ≠ g ∧ μ[r]? = some (.lst (l.map encP))
  few : l.length ≤ 100000
  ok : ∀ q ∈ l, okI q.1
theorem Loc.items {μ : Mu} {g : Nat} {d : D} {l : List (Int × Str)} (h : Loc μ g d l) {ns : List Int} {i a b at' cnt : Int} {hole : D} : itemsD (W μ ns g i a b at' cnt hole) d = some (l.map encP) := by
  rcases h.kind with rfl | ⟨r, rfl, h0, h1, h2⟩
  · rfl
  · have : (W μ ns g i a b at' cnt hole)[r]? = some (.lst (l.map encP)) := by
      unfold W SS
      rw [List.getElem?_set_ne (Ne.symm h0), List.getElem?_set_ne (Ne.symm h1)]
      exact h2
    simp only [itemsD, this]
theorem names_b {c : Orc} {μ : Mu} {g : Nat} {d : D} {l : List (Int × Str)} {k : Str} {ns : List Int} {i a b at' cnt : Int} {hole : D} (h : Loc μ g d l) :
    evS c (hdS b__law_small) [some (.ref 0), some (.ref g), some d, some (.str k), none, none, none] (W μ ns g i a b at' cnt hole) = some (.nx, [some (.ref 0), some (.ref g), some d, some (.str k), some (.lst ((ofK l k).map .int)), none, none], W μ ns g i a b at' cnt hole) := by
  have it := h.items (ns := ns) (i := i) (a := a) (b := b) (at' := at') (cnt := cnt) (hole := hole)
  have gd : okG (match (generalizing := false) d with | .ref n => some (n, l.map encP) | _ => none) (W μ ns g i a b at' cnt hole) = true := by
    rcases h.kind with rfl | ⟨r, rfl, h0, h1, h2⟩
    · rfl
    · have : (W μ ns g i a b at' cnt hole)[r]? = some (.lst (l.map encP)) := by
        unfold W SS
        rw [List.getElem?_set_ne (Ne.symm h0), List.getElem?_set_ne (Ne.symm h1)]
        exact h2
      simp only [okG, this, beqDs_self]
  refine ok_is ?_
  repeat (first | (with_reducible refine r_for ?_) | (with_reducible refine r_asgLc ?_) | (with_reducible refine r_lc ?_) | (with_reducible refine ok_eq it ?_; try dsimp only [Bool.not_true, Bool.not_false]) | (with_reducible refine r_if ?_) | (with_reducible refine r_boo ?_) | (with_reducible refine r_or ?_) | (with_reducible refine r_and ?_) | (with_reducible refine r_not ?_) | (with_reducible refine r_val ?_) | (with_reducible refine r_cmp ?_) | (with_reducible refine r_nilB ?_) | (with_reducible refine r_tru ?_; try dsimp only [Bool.not_true, Bool.not_false]) | (with_reducible refine r_isT ?_; try dsimp only [Bool.not_true, Bool.not_false]) | (with_reducible refine r_isS ?_; try dsimp only [Bool.not_true, Bool.not_false]) | (with_reducible refine r_isI ?_) | (with_reducible refine r_isB ?_) | (refine ok_eq (a := true) rfl ?_; try dsimp only [Bool.not_true, Bool.not_false]) | (refine ok_eq (a := false) rfl ?_; try dsimp only [Bool.not_true, Bool.not_false]) | (with_reducible refine two_t ?_) | (with_reducible refine two_f ?_) | (with_reducible refine two_nt ?_) | (with_reducible refine two_nf ?_) | (refine ok_bind ?_; try dsimp only) | (refine ok_map ?_; try dsimp only) | (refine ok_some ?_; try dsimp only [Bool.not_true, Bool.not_false]))
  refine ⟨ok_eq (lc_ofK (k := k) (fun q => ?_) l) ?_⟩
  · try dsimp only
    refine (if_pos gd).trans ?_
    by_cases e : q.2 = k
    · have e1 : ∀ μ, cmpD μ .Eq (.str q.2) (.str k) = some true := fun _ => by simp [cmpD, eqD, scalD, e]
      rw [if_pos e]
      refine ok_is ?_
      repeat (first | (with_reducible refine r_for ?_) | (with_reducible refine r_asgLc ?_) | (with_reducible refine r_lc ?_) | (with_reducible refine ok_eq (e1 _) ?_; try dsimp only [Bool.not_true, Bool.not_false]) | (with_reducible refine r_if ?_) | (with_reducible refine r_boo ?_) | (with_reducible refine r_or ?_) | (with_reducible refine r_and ?_) | (with_reducible refine r_not ?_) | (with_reducible refine r_val ?_) | (with_reducible refine r_cmp ?_) | (with_reducible refine r_nilB ?_) | (with_reducible refine r_tru ?_; try dsimp only [Bool.not_true, Bool.not_false]) | (with_reducible refine r_isT ?_; try dsimp only [Bool.not_true, Bool.not_false]) | (with_reducible refine r_isS ?_; try dsimp only [Bool.not_true, Bool.not_false]) | (with_reducible refine r_isI ?_) | (with_reducible refine r_isB ?_) | (refine ok_eq (a := true) rfl ?_; try dsimp only [Bool.not_true, Bool.not_false]) | (refine ok_eq (a := false) rfl ?_; try dsimp only [Bool.not_true, Bool.not_false]) | (with_reducible refine two_t ?_) | (with_reducible refine two_f ?_) | (with_reducible refine two_nt ?_) | (with_reducible refine two_nf ?_) | (refine ok_bind ?_; try dsimp only) | (refine ok_map ?_; try dsimp only) | (refine ok_some ?_; try dsimp only [Bool.not_true, Bool.not_false]))
      try rfl
    · have e1 : ∀ μ, cmpD μ .Eq (.str q.2) (.str k) = some false := fun _ => by simp [cmpD, eqD, scalD, e]
      rw [if_neg e]
      refine ok_is ?_
      repeat (first | (with_reducible refine r_for ?_) | (with_reducible refine r_asgLc ?_) | (with_reducible refine r_lc ?_) | (with_reducible refine ok_eq (e1 _) ?_; try dsimp only [Bool.not_true, Bool.not_false]) | (with_reducible refine r_if ?_) | (with_reducible refine r_boo ?_) | (with_reducible refine r_or ?_) | (with_reducible refine r_and ?_) | (with_reducible refine r_not ?_) | (with_reducible refine r_val ?_) | (with_reducible refine r_cmp ?_) | (with_reducible refine r_nilB ?_) | (with_reducible refine r_tru ?_; try dsimp only [Bool.not_true, Bool.not_false]) | (with_reducible refine r_isT ?_; try dsimp only [Bool.not_true, Bool.not_false]) | (with_reducible refine r_isS ?_; try dsimp only [Bool.not_true, Bool.not_false]) | (with_reducible refine r_isI ?_) | (with_reducible refine r_isB ?_) | (refine ok_eq (a := true) rfl ?_; try dsimp only [Bool.not_true, Bool.not_false]) | (refine ok_eq (a := false) rfl ?_; try dsimp only [Bool.not_true, Bool.not_false]) | (with_reducible refine two_t ?_) | (with_reducible refine two_f ?_) | (with_reducible refine two_nt ?_) | (with_reducible refine two_nf ?_) | (refine ok_bind ?_; try dsimp only) | (refine ok_map ?_; try dsimp only) | (refine ok_some ?_; try dsimp only [Bool.not_true, Bool.not_false]))
      try rfl
  dsimp only
  refine ok_yes gd ?_
  repeat (first | (with_reducible refine r_for ?_) | (with_reducible refine r_asgLc ?_) | (with_reducible refine r_lc ?_) | (with_reducible refine r_if ?_) | (with_reducible refine r_boo ?_) | (with_reducible refine r_or ?_) | (with_reducible refine r_and ?_) | (with_reducible refine r_not ?_) | (with_reducible refine r_val ?_) | (with_reducible refine r_cmp ?_) | (with_reducible refine r_nilB ?_) | (with_reducible refine r_tru ?_; try dsimp only [Bool.not_true, Bool.not_false]) | (with_reducible refine r_isT ?_; try dsimp only [Bool.not_true, Bool.not_false]) | (with_reducible refine r_isS ?_; try dsimp only [Bool.not_true, Bool.not_false]) | (with_reducible refine r_isI ?_) | (with_reducible refine r_isB ?_) | (refine ok_eq (a := true) rfl ?_; try dsimp only [Bool.not_true, Bool.not_false]) | (refine ok_eq (a := false) rfl ?_; try dsimp only [Bool.not_true, Bool.not_false]) | (with_reducible refine two_t ?_) | (with_reducible refine two_f ?_) | (with_reducible refine two_nt ?_) | (with_reducible refine two_nf ?_) | (refine ok_bind ?_; try dsimp only) | (refine ok_map ?_; try dsimp only) | (refine ok_some ?_; try dsimp only [Bool.not_true, Bool.not_false]))
  try rfl
end Pl

namespace Pl
open PySem L2
structure OkV {α : Type} (x : Option α) (Q : α → Prop) : Prop where
  ex : ∃ a, x = some a ∧ Q a
structure Ok2 {α β : Type} (x : Option (α × β)) (Q : α → β → Prop) : Prop where
  ex : ∃ a b, x = some (a, b) ∧ Q a b
structure Ok3 {α β γ : Type} (x : Option (α × β × γ)) (Q : α → β → γ → Prop) : Prop where
  ex : ∃ a b c, x = some (a, b, c) ∧ Q a b c
/-- something new in the store -/
structure New (m : Mu) (o : Ob) (Q : D → Mu → Prop) : Prop where
  q : Q (.ref m.length) (m ++ [o])
structure Fin2 (Q : D → Mu → Prop) (d : D) (m : Mu) : Prop where
  q : Q d m
structure Fin3 (Q : Fl → En → Mu → Prop) (f : Fl) (e : En) (m : Mu) : Prop where
  q : Q f e m
section
variable {α β γ δ : Type}
theorem okv {x : Option α} {a : α} {Q : α → Prop} (e : x = some a) (h : Q a) : OkV x Q := ⟨a, e, h⟩
theorem ok2 {x : Option (α × β)} {a : α} {b : β} {Q : α → β → Prop} (e : x = some (a, b)) (h : Q a b) : Ok2 x Q := ⟨a, b, e, h⟩
theorem ok3 {x : Option (α × β × γ)} {a : α} {b : β} {d : γ} {Q : α → β → γ → Prop} (e : x = some (a, b, d)) (h : Q a b d) : Ok3 x Q := ⟨a, b, d, e, h⟩
theorem ok2_w {x : Option (α × β)} {Q Q' : α → β → Prop} (h : Ok2 x Q) (w : ∀ a b, Q a b → Q' a b) : Ok2 x Q' := by
  obtain ⟨a, b, e, h⟩ := h
  exact ⟨a, b, e, w a b h⟩
theorem ok3_w {x : Option (α × β × γ)} {Q Q' : α → β → γ → Prop} (h : Ok3 x Q) (w : ∀ a b d, Q a b d → Q' a b d) : Ok3 x Q' := by
  obtain ⟨a, b, d, e, h⟩ := h
  exact ⟨a, b, d, e, w a b d h⟩
theorem ok2_is {x : Option (α × β)} {a : α} {b : β} (h : Ok2 x fun a' b' => a' = a ∧ b' = b) : x = some (a, b) := by
  obtain ⟨_, _, e, rfl, rfl⟩ := h
  exact e
end
/-- the locals with one that is given a value -/
def setK : En → Nat → D → (En → Prop) → Prop
  | [], _, _, K => K []
  | _ :: r, 0, d, K => K (some d :: r)
  | o :: r, i + 1, d, K => setK r i d fun v => K (o :: v)
theorem setK_ok : ∀ {env : En} {i : Nat} {d : D} {K : En → Prop}, setK env i d K → K (env.set i (some d))
  | [], _, _, _, h => h
  | _ :: _, 0, _, _, h => h
  | o :: r, i + 1, d, K, h => setK_ok (env := r) (K := fun v => K (o :: v)) h
mutual
def asgK : AT → D → En → (En → Prop) → Prop
  | .nm i, d, env, K => setK env i d K
  | .tp ts, .tup xs, env, K => asgKs ts xs env K
  | .tp _, _, _, _ => False
def asgKs : ATs → List D → En → (En → Prop) → Prop
  | .nil, [], env, K => K env
  | .cons t ts, d :: r, env, K => asgK t d env fun v => asgKs ts r v K
  | _, _, _, _ => False
end
mutual
theorem asgK_ok : ∀ {t : AT} {d : D} {env : En} {K : En → Prop}, asgK t d env K → ∃ v, asgT t d env = some v ∧ K v
  | .nm i, d, env, K, h => ⟨_, rfl, setK_ok h⟩
  | .tp ts, .tup xs, env, K, h => asgKs_ok (ts := ts) h
  | .tp ts, .non, env, K, h | .tp ts, .bl _, env, K, h | .tp ts, .int _, env, K, h | .tp ts, .str _, env, K, h | .tp ts, .lst _, env, K, h | .tp ts, .frz _, env, K, h | .tp ts, .ref _, env, K, h => h.elim
theorem asgKs_ok : ∀ {ts : ATs} {xs : List D} {env : En} {K : En → Prop}, asgKs ts xs env K → ∃ v, asgTs ts xs env = some v ∧ K v
  | .nil, [], env, K, h => ⟨env, rfl, h⟩
  | .cons t ts, d :: r, env, K, h => by
    obtain ⟨v, e1, h⟩ := asgK_ok (t := t) h
    obtain ⟨u, e2, h⟩ := asgKs_ok (ts := ts) h
    exact ⟨u, by simp only [asgTs, e1, Option.bind_some, e2], h⟩
  | .nil, _ :: _, env, K, h | .cons _ _, [], env, K, h => h.elim
end
def ifK (t : Bool) (A B : Prop) : Prop := match t with
  | true => A
  | false => B
def intK (d : D) (K : Int → Prop) : Prop := match d with
  | .int i => K i
  | _ => False
theorem intK_ok {d : D} {K : Int → Prop} (h : intK d K) : ∃ i, d = .int i ∧ K i := by
  cases d with
  | int i => exact ⟨i, rfl, h⟩
  | _ => exact h.elim
def varK (o : Option (Option D)) (K : D → Prop) : Prop := match o with
  | some (some d) => K d
  | _ => False
theorem varK_ok {o : Option (Option D)} {K : D → Prop} (h : varK o K) : ∃ d, o = some (some d) ∧ K d := by
  match o, h with
  | some (some d), h => exact ⟨d, rfl, h⟩
def optK {α : Type} (o : Option α) (K : α → Prop) : Prop := match o with
  | some d => K d
  | none => False
theorem optK_ok {α : Type} {o : Option α} {K : α → Prop} (h : optK o K) : ∃ d, o = some d ∧ K d := by
  match o, h with
  | some d, h => exact ⟨d, rfl, h⟩
def truK (m : Mu) (d : D) (K : Bool → Prop) : Prop := match d with
  | .bl b => K b
  | d => OkV (truD m d) K
theorem truK_ok {m : Mu} {d : D} {K : Bool → Prop} (h : truK m d K) : ∃ b, truD m d = some b ∧ K b := by
  cases d with
  | bl b => exact ⟨b, rfl, h⟩
  | _ => exact h.ex
mutual
/-- what must hold -/
def wE (c : Orc) : AE → En → Mu → (D → Mu → Prop) → Prop
  | .var i, env, μ, Q => varK env[i]? fun d => Q d μ
  | .lit k, _, μ, Q => optK (litD k) fun d => Q d μ
  | .gint _ n, _, μ, Q => Q (.int n) μ
  | .tup es, env, μ, Q => wEs c es env μ fun xs m => Q (.tup xs) m
  | .lst es, env, μ, Q => wEs c es env μ fun xs m => Q (.lst xs) m
  | .nls es, env, μ, Q => wEs c es env μ fun xs m => New m (.lst xs) Q
  | .ndc ks es, env, μ, Q => wEs c es env μ fun xs m => OkV (if ks.length = xs.length ∧ ks.Nodup then some () else none) fun _ => New m (.dct ((ks.map Sum.inr).zip xs)) Q
  | .neg a, env, μ, Q => wE c a env μ fun d m => intK d fun i => Q (.int (-i)) m
  | .bin o a b, env, μ, Q => wE c a env μ fun x m => wE c b env m fun y m => OkV (binM m o x y) fun z => Q z m
  | .cmp o a b, env, μ, Q => wE c a env μ fun x m => wE c b env m fun y m => OkV (cmpD m o x y) fun z => Q (.bl z) m
  | .not a, env, μ, Q => wE c a env μ fun x m => truK m x fun z => Q (.bl !z) m
  | .ife b x y, env, μ, Q => wB c b env μ fun t m => ifK t (wE c x env m Q) (wE c y env m Q)
  | .idx a b, env, μ, Q => wE c a env μ fun x m => wE c b env m fun y m => OkV (idxD m x y) fun z => Q z m
  | .sl a lo hi, env, μ, Q => wE c a env μ fun x m => wO c lo env m fun l m => wO c hi env m fun h m => OkV (slD m l h x) fun z => Q z m
  | .rev a, env, μ, Q => wE c a env μ fun x m => OkV (revD m x) fun z => Q z m
  | .call f es, env, μ, Q => wEs c es env μ fun xs m => Ok2 (c f xs m) Q
  | .bi f es, env, μ, Q => wEs c es env μ fun xs m => Ok2 (biD m f xs) Q
  | .isi T a, env, μ, Q => wE c a env μ fun x m => OkV (isiD T x) fun b => Q (.bl b) m
  | .told a, env, μ, Q => wE c a env μ fun x m => OkV (toldR m x) fun z => Q (.str z) m
  | .lzip a b, env, μ, Q => wE c a env μ fun x m => wE c b env m fun y m => OkV (zipD x y) fun z => Q (.lst z) m
  | .app l e, env, μ, Q => wE c l env μ fun x m => OkV (if isLstD m x = true then some () else none) fun _ => wE c e env m fun y m => OkV (appD m x y) fun m => Q .non m
  | .get d k e, env, μ, Q => wE c d env μ fun x m => OkV (if isDctD m x = true then some () else none) fun _ => wE c k env m fun y m => wE c e env m fun z m => OkV (getD m x y z) fun r => Q r m
  | e, env, μ, Q => Ok2 (evE c e env μ) Q
def wEs (c : Orc) : AEs → En → Mu → (List D → Mu → Prop) → Prop
  | .nil, _, μ, Q => Q [] μ
  | .cons e es, env, μ, Q => wE c e env μ fun d m => wEs c es env m fun xs m => Q (d :: xs) m
def wB (c : Orc) : AB → En → Mu → (Bool → Mu → Prop) → Prop
  | .val e, env, μ, Q => wE c e env μ fun d m => truK m d fun b => Q b m
  | .not b, env, μ, Q => wB c b env μ fun t m => Q (!t) m
  | .boo o bs, env, μ, Q => wBs c o bs env μ Q
def wBs (c : Orc) (o : BoolOp) : ABs → En → Mu → (Bool → Mu → Prop) → Prop
  | .nil, _, μ, Q => Q (match o with | .And => true | .Or => false) μ
  | .cons b bs, env, μ, Q => wB c b env μ fun t m => match o with
    | .And => ifK t (wBs c o bs env m Q) (Q false m)
    | .Or => ifK t (Q true m) (wBs c o bs env m Q)
def wO (c : Orc) : AO → En → Mu → (Option Int → Mu → Prop) → Prop
  | .no, _, μ, Q => Q none μ
  | .yes e, env, μ, Q => wE c e env μ fun x m => intK x fun i => Q (some i) m
end
def enmK (d : D) (K : List D → Prop) : Prop := match d with
  | .lst xs => K (pairs xs 0)
  | .tup xs => K (pairs xs 0)
  | _ => False
theorem enmK_ok {d : D} {K : List D → Prop} (h : enmK d K) : ∃ xs, (d = .lst xs ∨ d = .tup xs) ∧ K (pairs xs 0) := by
  cases d with
  | lst xs => exact ⟨xs, .inl rfl, h⟩
  | tup xs => exact ⟨xs, .inr rfl, h⟩
  | _ => exact h.elim
/-- what a loop goes through -/
def wSr (c : Orc) : ASr → En → Mu → (List D → Grd → Mu → Prop) → Prop
  | .it e, env, μ, Q => wE c e env μ fun x m => OkV (itemsD m x) fun xs => Q xs (match x with | .ref n => some (n, xs) | _ => none) m
  | .enm a, env, μ, Q => wE c a env μ fun x m => enmK x fun xs => Q xs none m
  | .zip a b, env, μ, Q => wE c a env μ fun x m => wE c b env m fun y m => OkV (zipD x y) fun z => Q z none m
  | s, env, μ, Q => Ok3 (evSrc c s env μ) Q
def nxK (f : Fl) (e : En) (m : Mu) (K : En → Mu → Prop) (Q : Fl → En → Mu → Prop) : Prop := match f with
  | .nx => K e m
  | f => Q f e m
mutual
def wS (c : Orc) : AS → En → Mu → (Fl → En → Mu → Prop) → Prop
  | .expr e, env, μ, Q => wE c e env μ fun _ m => Q .nx env m
  | .asg t e, env, μ, Q => wE c e env μ fun d m => asgK t d env fun v => Q .nx v m
  | .asg2 i j a b, env, μ, Q => wE c a env μ fun x m => wE c b env m fun y m => setK env i x fun v => setK v j y fun v => Q .nx v m
  | .asgLc i own elt t src ifs, env, μ, Q => Ok2 (evE c (.lc own elt t src ifs) env μ) fun d m => setK env i d fun v => Q .nx v m
  | .set o i e, env, μ, Q => wE c e env μ fun x m => wE c o env m fun y m => wE c i env m fun z m => OkV (setD m y z x) fun m => Q .nx env m
  | .ret e, env, μ, Q => wE c e env μ fun d m => Q (.rt d) env m
  | .retN, env, μ, Q => Q (.rt .non) env μ
  | .ife b x y, env, μ, Q => wB c b env μ fun t m => ifK t (wSs c x env m Q) (wSs c y env m Q)
  | .for_ t src b, env, μ, Q => wSr c src env μ fun xs g m => Ok3 (forLoop g t (fun e m => evSs c b e m) xs env m) Q
  | .cnt, env, μ, Q => Q .ct env μ
  | .brk, env, μ, Q => Q .bk env μ
  | .pass, env, μ, Q => Q .nx env μ
  | s, env, μ, Q => Ok3 (evS c s env μ) Q
def wSs (c : Orc) : ASs → En → Mu → (Fl → En → Mu → Prop) → Prop
  | .nil, env, μ, Q => Q .nx env μ
  | .cons s ss, env, μ, Q => wS c s env μ fun f e m => nxK f e m (fun e m => wSs c ss e m Q) Q
end
mutual
theorem wE_ok {c : Orc} : ∀ {e : AE} {env : En} {μ : Mu} {Q : D → Mu → Prop}, wE c e env μ Q → Ok2 (evE c e env μ) Q
  | .var i, env, μ, Q, h => by
    obtain ⟨d, e, q⟩ := varK_ok h
    exact ⟨d, μ, by simp only [evE, e], q⟩
  | .lit k, env, μ, Q, h => by
    obtain ⟨d, e, q⟩ := optK_ok h
    exact ⟨d, μ, by simp only [evE, e, Option.map_some], q⟩
  | .gint _ n, env, μ, Q, h => ⟨_, _, rfl, h⟩
  | .tup es, env, μ, Q, h => by
    obtain ⟨xs, m, e, q⟩ := wEs_ok (es := es) h
    exact ⟨_, _, by simp only [evE, e, Option.map_some], q⟩
  | .lst es, env, μ, Q, h => by
    obtain ⟨xs, m, e, q⟩ := wEs_ok (es := es) h
    exact ⟨_, _, by simp only [evE, e, Option.map_some], q⟩
  | .nls es, env, μ, Q, h => by
    obtain ⟨xs, m, e, q⟩ := wEs_ok (es := es) h
    exact ⟨_, _, by simp only [evE, e, Option.map_some], q.q⟩
  | .ndc ks es, env, μ, Q, h => by
    obtain ⟨xs, m, e, u, e2, q⟩ := wEs_ok (es := es) h
    have hc : ks.length = xs.length ∧ ks.Nodup := by
      by_cases z : ks.length = xs.length ∧ ks.Nodup
      · exact z
      · rw [if_neg z] at e2; cases e2
    exact ⟨_, _, by simp only [evE, e, Option.bind_some, if_pos hc], q.q⟩
  | .neg a, env, μ, Q, h => by
    obtain ⟨d, m, e, q⟩ := wE_ok (e := a) h
    obtain ⟨i, rfl, q⟩ := intK_ok q
    exact ⟨_, _, by simp only [evE, e, Option.bind_some], q⟩
  | .bin o a b, env, μ, Q, h => by
    obtain ⟨x, m, e1, h⟩ := wE_ok (e := a) h
    obtain ⟨y, m2, e2, z, e3, q⟩ := wE_ok (e := b) h
    exact ⟨_, _, by simp only [evE, e1, e2, e3, Option.bind_some, Option.map_some], q⟩
  | .cmp o a b, env, μ, Q, h => by
    obtain ⟨x, m, e1, h⟩ := wE_ok (e := a) h
    obtain ⟨y, m2, e2, z, e3, q⟩ := wE_ok (e := b) h
    exact ⟨_, _, by simp only [evE, e1, e2, e3, Option.bind_some, Option.map_some], q⟩
  | .idx a b, env, μ, Q, h => by
    obtain ⟨x, m, e1, h⟩ := wE_ok (e := a) h
    obtain ⟨y, m2, e2, z, e3, q⟩ := wE_ok (e := b) h
    exact ⟨_, _, by simp only [evE, e1, e2, e3, Option.bind_some, Option.map_some], q⟩
  | .lzip a b, env, μ, Q, h => by
    obtain ⟨x, m, e1, h⟩ := wE_ok (e := a) h
    obtain ⟨y, m2, e2, z, e3, q⟩ := wE_ok (e := b) h
    exact ⟨_, _, by simp only [evE, e1, e2, e3, Option.bind_some, Option.map_some], q⟩
  | .not a, env, μ, Q, h => by
    obtain ⟨x, m, e1, h⟩ := wE_ok (e := a) h
    obtain ⟨z, e3, q⟩ := truK_ok h
    exact ⟨_, _, by simp only [evE, e1, e3, Option.bind_some, Option.map_some], q⟩
  | .rev a, env, μ, Q, h => by
    obtain ⟨x, m, e1, z, e3, q⟩ := wE_ok (e := a) h
    exact ⟨_, _, by simp only [evE, e1, e3, Option.bind_some, Option.map_some], q⟩
  | .isi T a, env, μ, Q, h => by
    obtain ⟨x, m, e1, z, e3, q⟩ := wE_ok (e := a) h
    exact ⟨_, _, by simp only [evE, e1, e3, Option.bind_some, Option.map_some], q⟩
  | .told a, env, μ, Q, h => by
    obtain ⟨x, m, e1, z, e3, q⟩ := wE_ok (e := a) h
    exact ⟨_, _, by simp only [evE, e1, e3, Option.bind_some, Option.map_some], q⟩
  | .ife b x y, env, μ, Q, h => by
    obtain ⟨t, m, e, h⟩ := wB_ok (b := b) h
    cases t with
    | true =>
      obtain ⟨z, m', e', q⟩ := wE_ok (e := x) h
      exact ⟨z, m', by simp only [evE, e, e', Option.bind_some, if_true], q⟩
    | false =>
      obtain ⟨z, m', e', q⟩ := wE_ok (e := y) h
      exact ⟨z, m', by simp only [evE, e, e', Option.bind_some, Bool.false_eq_true, if_false], q⟩
  | .sl a lo hi, env, μ, Q, h => by
    obtain ⟨x, m, e1, h⟩ := wE_ok (e := a) h
    obtain ⟨l, m1, e2, h⟩ := wO_ok (o := lo) h
    obtain ⟨u, m2, e3, z, e4, q⟩ := wO_ok (o := hi) h
    exact ⟨_, _, by simp only [evE, e1, e2, e3, e4, Option.bind_some, Option.map_some], q⟩
  | .call f es, env, μ, Q, h => by
    obtain ⟨xs, m, e, z, m', e', q⟩ := wEs_ok (es := es) h
    exact ⟨_, _, by simp only [evE, e, e', Option.bind_some], q⟩
  | .bi f es, env, μ, Q, h => by
    obtain ⟨xs, m, e, z, m', e', q⟩ := wEs_ok (es := es) h
    exact ⟨_, _, by simp only [evE, e, e', Option.bind_some], q⟩
  | .app l a, env, μ, Q, h => by
    obtain ⟨x, m, e1, u, hl, h⟩ := wE_ok (e := l) h
    obtain ⟨y, m', e2, m2, e3, q⟩ := wE_ok (e := a) h
    have hl : isLstD m x = true := by
      by_cases z : isLstD m x = true
      · exact z
      · rw [if_neg z] at hl; cases hl
    exact ⟨_, _, by simp only [evE, e1, Option.bind_some, hl, if_true, e2, e3, Option.map_some], q⟩
  | .get d k a, env, μ, Q, h => by
    obtain ⟨x, m, e1, u, hl, h⟩ := wE_ok (e := d) h
    obtain ⟨y, m1, e2, h⟩ := wE_ok (e := k) h
    obtain ⟨z, m', e4, m2, e3, q⟩ := wE_ok (e := a) h
    have hl : isDctD m x = true := by
      by_cases z : isDctD m x = true
      · exact z
      · rw [if_neg z] at hl; cases hl
    exact ⟨_, _, by simp only [evE, e1, Option.bind_some, hl, if_true, e2, e3, e4, Option.map_some], q⟩
  | .cmp2 .., env, μ, Q, h => h
  | .tin .., env, μ, Q, h => h
  | .boo .., env, μ, Q, h => h
  | .tab .., env, μ, Q, h => h
  | .lc .., env, μ, Q, h => h
  | .lc2 .., env, μ, Q, h => h
theorem wEs_ok {c : Orc} : ∀ {es : AEs} {env : En} {μ : Mu} {Q : List D → Mu → Prop}, wEs c es env μ Q → Ok2 (evEs c es env μ) Q
  | .nil, env, μ, Q, h => ⟨_, _, rfl, h⟩
  | .cons e es, env, μ, Q, h => by
    obtain ⟨d, m, e1, h⟩ := wE_ok (e := e) h
    obtain ⟨xs, m', e2, q⟩ := wEs_ok (es := es) h
    exact ⟨_, _, by simp only [evEs, e1, e2, Option.bind_some, Option.map_some], q⟩
theorem wB_ok {c : Orc} : ∀ {b : AB} {env : En} {μ : Mu} {Q : Bool → Mu → Prop}, wB c b env μ Q → Ok2 (evB c b env μ) Q
  | .val e, env, μ, Q, h => by
    obtain ⟨x, m, e1, h⟩ := wE_ok (e := e) h
    obtain ⟨z, e3, q⟩ := truK_ok h
    exact ⟨_, _, by simp only [evB, e1, e3, Option.bind_some, Option.map_some], q⟩
  | .not b, env, μ, Q, h => by
    obtain ⟨x, m, e1, q⟩ := wB_ok (b := b) h
    exact ⟨_, _, by simp only [evB, e1, Option.map_some], q⟩
  | .boo o bs, env, μ, Q, h => wBs_ok (bs := bs) h
theorem wBs_ok {c : Orc} {o : BoolOp} : ∀ {bs : ABs} {env : En} {μ : Mu} {Q : Bool → Mu → Prop}, wBs c o bs env μ Q → Ok2 (evBs c o bs env μ) Q
  | .nil, env, μ, Q, h => by cases o <;> exact ⟨_, _, rfl, h⟩
  | .cons b bs, env, μ, Q, h => by
    obtain ⟨t, m, e, h⟩ := wB_ok (b := b) h
    cases o <;> cases t
    · exact ⟨_, m, by simp only [evBs, e, Option.bind_some], h⟩
    · obtain ⟨z, m', e', q⟩ := wBs_ok (bs := bs) h
      exact ⟨z, m', by simp only [evBs, e, e', Option.bind_some], q⟩
    · obtain ⟨z, m', e', q⟩ := wBs_ok (bs := bs) h
      exact ⟨z, m', by simp only [evBs, e, e', Option.bind_some], q⟩
    · exact ⟨_, m, by simp only [evBs, e, Option.bind_some], h⟩
theorem wO_ok {c : Orc} : ∀ {o : AO} {env : En} {μ : Mu} {Q : Option Int → Mu → Prop}, wO c o env μ Q → Ok2 (evO c o env μ) Q
  | .no, env, μ, Q, h => ⟨_, _, rfl, h⟩
  | .yes e, env, μ, Q, h => by
    obtain ⟨x, m, e1, q⟩ := wE_ok (e := e) h
    obtain ⟨i, rfl, q⟩ := intK_ok q
    exact ⟨_, _, by simp only [evO, e1, Option.bind_some], q⟩
end
theorem wSr_ok {c : Orc} {s : ASr} {env : En} {μ : Mu} {Q : List D → Grd → Mu → Prop} (h : wSr c s env μ Q) : Ok3 (evSrc c s env μ) Q := by
  cases s with
  | it e =>
    obtain ⟨x, m, e1, xs, e2, q⟩ := wE_ok (e := e) h
    exact ⟨_, _, _, by (simp only [evSrc, e1, e2, Option.bind_some, Option.map_some]) <;> (cases x <;> rfl), q⟩
  | enm a =>
    obtain ⟨x, m, e1, h⟩ := wE_ok (e := a) h
    obtain ⟨xs, hx, q⟩ := enmK_ok h
    rcases hx with rfl | rfl <;> exact ⟨_, _, _, by simp only [evSrc, e1, Option.bind_some], q⟩
  | zip a b =>
    obtain ⟨x, m, e1, h⟩ := wE_ok (e := a) h
    obtain ⟨y, m', e2, z, e3, q⟩ := wE_ok (e := b) h
    exact ⟨_, _, _, by simp only [evSrc, e1, e2, e3, Option.bind_some, Option.map_some], q⟩
  | _ => exact h
mutual
theorem wS_ok {c : Orc} : ∀ {s : AS} {env : En} {μ : Mu} {Q : Fl → En → Mu → Prop}, wS c s env μ Q → Ok3 (evS c s env μ) Q
  | .expr e, env, μ, Q, h => by
    obtain ⟨d, m, e1, q⟩ := wE_ok (e := e) h
    exact ⟨_, _, _, by simp only [evS, e1, Option.map_some], q⟩
  | .asg t e, env, μ, Q, h => by
    obtain ⟨d, m, e1, q⟩ := wE_ok (e := e) h
    obtain ⟨v, e2, q⟩ := asgK_ok q
    exact ⟨_, _, _, by simp only [evS, e1, e2, Option.bind_some, Option.map_some], q⟩
  | .asg2 i j a b, env, μ, Q, h => by
    obtain ⟨d, m, e1, h⟩ := wE_ok (e := a) h
    obtain ⟨e, m', e2, q⟩ := wE_ok (e := b) h
    exact ⟨_, _, _, by simp only [evS, e1, e2, Option.bind_some, Option.map_some], setK_ok (K := fun v => Q .nx v m') (setK_ok (K := fun v => setK v j e fun v => Q .nx v m') q)⟩
  | .asgLc i own elt t src ifs, env, μ, Q, h => by
    obtain ⟨d, m, e1, q⟩ := h
    exact ⟨_, _, _, by simp only [evS, e1, Option.map_some], setK_ok (K := fun v => Q .nx v m) q⟩
  | .set o i e, env, μ, Q, h => by
    obtain ⟨x, m, e1, h⟩ := wE_ok (e := e) h
    obtain ⟨y, m', e2, h⟩ := wE_ok (e := o) h
    obtain ⟨z, m2, e3, u, e4, q⟩ := wE_ok (e := i) h
    exact ⟨_, _, _, by simp only [evS, e1, e2, e3, e4, Option.bind_some, Option.map_some], q⟩
  | .ret e, env, μ, Q, h => by
    obtain ⟨d, m, e1, q⟩ := wE_ok (e := e) h
    exact ⟨_, _, _, by simp only [evS, e1, Option.map_some], q⟩
  | .retN, env, μ, Q, h => ⟨_, _, _, rfl, h⟩
  | .ife b x y, env, μ, Q, h => by
    obtain ⟨t, m, e, h⟩ := wB_ok (b := b) h
    cases t with
    | true =>
      obtain ⟨z, w, m', e', q⟩ := wSs_ok (ss := x) h
      exact ⟨z, w, m', by simp only [evS, e, e', Option.bind_some, if_true], q⟩
    | false =>
      obtain ⟨z, w, m', e', q⟩ := wSs_ok (ss := y) h
      exact ⟨z, w, m', by simp only [evS, e, e', Option.bind_some, Bool.false_eq_true, if_false], q⟩
  | .for_ t src b, env, μ, Q, h => by
    obtain ⟨xs, g, m, e, z, w, m', e', q⟩ := wSr_ok h
    exact ⟨z, w, m', by simp only [evS, e, Option.bind_some]; exact e', q⟩
  | .cnt, env, μ, Q, h => ⟨_, _, _, rfl, h⟩
  | .brk, env, μ, Q, h => ⟨_, _, _, rfl, h⟩
  | .pass, env, μ, Q, h => ⟨_, _, _, rfl, h⟩
  | .aug .., env, μ, Q, h => h
  | .augI .., env, μ, Q, h => h
  | .asgLc2 .., env, μ, Q, h => h
  | .nev, env, μ, Q, h => h
theorem wSs_ok {c : Orc} : ∀ {ss : ASs} {env : En} {μ : Mu} {Q : Fl → En → Mu → Prop}, wSs c ss env μ Q → Ok3 (evSs c ss env μ) Q
  | .nil, env, μ, Q, h => ⟨_, _, _, rfl, h⟩
  | .cons s ss, env, μ, Q, h => by
    obtain ⟨f, e, m, e1, h⟩ := wS_ok (s := s) h
    cases f with
    | nx =>
      obtain ⟨f', e', m', e2, q⟩ := wSs_ok (ss := ss) h
      exact ⟨f', e', m', by simp only [evSs, e1, Option.bind_some, e2], q⟩
    | rt v => exact ⟨_, _, _, by simp only [evSs, e1, Option.bind_some], h⟩
    | bk => exact ⟨_, _, _, by simp only [evSs, e1, Option.bind_some], h⟩
    | ct => exact ⟨_, _, _, by simp only [evSs, e1, Option.bind_some], h⟩
end
def LcK (c : Orc) (elt : AE) (t : AT) (ifs : ABs) (env : En) : List D → Mu → (List D → Mu → Prop) → Prop
  | [], m, K => K [] m
  | x :: r, m, K => asgK t x env fun e => wBs c .And ifs e m fun b m => ifK b (wE c elt e m fun d m => LcK c elt t ifs env r m fun ys m => K (d :: ys) m) (LcK c elt t ifs env r m K)
theorem LcK_ok {c : Orc} {elt : AE} {t : AT} {ifs : ABs} {env : En} : ∀ {xs : List D} {m : Mu} {K : List D → Mu → Prop}, LcK c elt t ifs env xs m K →
    Ok2 (lcLoop (fun d μ1 => if okG none μ1 = true then (asgT t d env).bind fun e => (evBs c .And ifs e μ1).bind fun q => if q.1 = true then (evE c elt e q.2).map fun y => (some y.1, y.2) else some (none, q.2) else none) xs m) K
  | [], m, K, h => ⟨_, _, rfl, h⟩
  | x :: r, m, K, h => by
    obtain ⟨e, e1, h⟩ := asgK_ok h
    obtain ⟨b, m1, e2, h⟩ := wBs_ok h
    cases b with
    | true =>
      obtain ⟨d, m2, e3, h⟩ := wE_ok h
      obtain ⟨ys, m3, e4, h⟩ := LcK_ok (xs := r) h
      refine ⟨_, _, ?_, h⟩
      rw [lcLoop, if_pos (show okG none m = true from rfl), e1, Option.bind_some, e2, Option.bind_some, if_pos rfl, e3, Option.map_some, Option.bind_some, e4]
      rfl
    | false =>
      obtain ⟨ys, m3, e4, h⟩ := LcK_ok (xs := r) h
      refine ⟨_, _, ?_, h⟩
      rw [lcLoop, if_pos (show okG none m = true from rfl), e1, Option.bind_some, e2, Option.bind_some, if_neg Bool.false_ne_true, Option.bind_some, e4]
      rfl
theorem k_lc {c : Orc} {own : List Nat} {elt : AE} {t : AT} {src : ASr} {ifs : ABs} {env : En} {m : Mu} {Q : D → Mu → Prop}
    (h : wSr c src env m fun xs g m => g = none ∧ LcK c elt t ifs (wipeD env own) xs m fun ys m => Q (.lst ys) m) : Ok2 (evE c (.lc own elt t src ifs) env m) Q := by
  obtain ⟨xs, g, m1, e1, rfl, h⟩ := wSr_ok h
  obtain ⟨ys, m2, e2, q⟩ := LcK_ok h
  refine ⟨_, _, ?_, q⟩
  simp only [evE, e1, Option.bind_some]
  exact (congrArg (fun x => Option.bind x _) e2).trans (show (if okG none m2 = true then some (D.lst ys, m2) else none) = some (D.lst ys, m2) from if_pos rfl)
def FrK (c : Orc) (t : AT) (b : ASs) (Q : Fl → En → Mu → Prop) : List D → En → Mu → Prop
  | [], env, m => Q .nx env m
  | x :: r, env, m => asgK t x env fun e => wSs c b e m fun f e m => match f with
    | .nx => FrK c t b Q r e m
    | .ct => FrK c t b Q r e m
    | .bk => Q .nx e m
    | .rt v => Q (.rt v) e m
theorem k_for {c : Orc} {t : AT} {b : ASs} {Q : Fl → En → Mu → Prop} : ∀ {xs : List D} {env : En} {m : Mu}, FrK c t b Q xs env m → Ok3 (forLoop none t (fun e m => evSs c b e m) xs env m) Q
  | [], env, m, h => ⟨_, _, _, rfl, h⟩
  | x :: r, env, m, h => by
    obtain ⟨e, e1, h⟩ := asgK_ok h
    obtain ⟨f, e', m', e2, h⟩ := wSs_ok h
    have hd : forLoop none t (fun e m => evSs c b e m) (x :: r) env m = (match (generalizing := false) f with
      | .nx | .ct => forLoop none t (fun e m => evSs c b e m) r e' m'
      | .bk => some (.nx, e', m')
      | .rt d => some (.rt d, e', m')) := by
      rw [forLoop, if_pos (show okG none m = true from rfl), e1, Option.bind_some, e2, Option.bind_some] <;> (cases f <;> rfl)
    rw [hd]
    cases f with
    | nx => exact k_for h
    | ct => exact k_for h
    | bk => exact ⟨_, _, _, rfl, h⟩
    | rt v => exact ⟨_, _, _, rfl, h⟩
/-- what a call comes to -/
def Rt (Q : D → Mu → Prop) : Fl → En → Mu → Prop
  | .nx, _, m => Fin2 Q .non m
  | .rt v, _, m => Fin2 Q v m
  | _, _, _ => False
theorem g_call {c : Orc} {b : ASs} {env : En} {μ : Mu} {Q : D → Mu → Prop} (h : wSs c b env μ (Rt Q)) : Ok2 ((evSs c b env μ).bind retK) Q := by
  obtain ⟨f, e, m, e1, q⟩ := wSs_ok h
  rw [e1]
  cases f with
  | nx => exact ⟨_, _, rfl, q.q⟩
  | rt v => exact ⟨_, _, rfl, q.q⟩
  | bk => exact q.elim
  | ct => exact q.elim
section
variable {μ : Mu}
theorem k_tru {t : Bool} {Q : Bool → Prop} (h : Q t) : OkV (truD μ (.bl t)) Q := ⟨t, rfl, h⟩
theorem k_eqI {i j : Int} {Q : Bool → Prop} (h1 : i = j → Q true) (h2 : i ≠ j → Q false) : OkV (cmpD μ .Eq (.int i) (.int j)) Q := by
  by_cases h : i = j
  · exact ⟨true, by simp [cmpD, eqD, scalD, h], h1 h⟩
  · exact ⟨false, by simp [cmpD, eqD, scalD, h], h2 h⟩
theorem k_gtI {i j : Int} {Q : Bool → Prop} (h1 : j < i → Q true) (h2 : i ≤ j → Q false) : OkV (cmpD μ .Gt (.int i) (.int j)) Q := by
  by_cases h : j < i
  · exact ⟨true, by simp [cmpD, h], h1 h⟩
  · exact ⟨false, by simp [cmpD]; omega, h2 (by omega)⟩
theorem k_ltI {i j : Int} {Q : Bool → Prop} (h1 : i < j → Q true) (h2 : j ≤ i → Q false) : OkV (cmpD μ .Lt (.int i) (.int j)) Q := by
  by_cases h : i < j
  · exact ⟨true, by simp [cmpD, h], h1 h⟩
  · exact ⟨false, by simp [cmpD]; omega, h2 (by omega)⟩
theorem k_eqS {t : Bool} {x y : Str} {Q : Bool → Prop} (h : decide (x = y) = t) (q : Q t) : OkV (cmpD μ .Eq (.str x) (.str y)) Q := ⟨t, by simp [cmpD, eqD, scalD, ← h], q⟩
theorem k_neS {t : Bool} {x y : Str} {Q : Bool → Prop} (h : decide (x = y) = t) (q : Q (!t)) : OkV (cmpD μ .NotEq (.str x) (.str y)) Q := ⟨!t, by simp [cmpD, eqD, scalD, ← h], q⟩
theorem k_neSv {x y : Str} {Q : Bool → Prop} (h1 : x ≠ y → Q true) (h2 : x = y → Q false) : OkV (cmpD μ .NotEq (.str x) (.str y)) Q := by
  by_cases h : x = y
  · exact ⟨false, by simp [cmpD, eqD, scalD, h], h2 h⟩
  · exact ⟨true, by simp [cmpD, eqD, scalD, h], h1 h⟩
theorem k_addI {i j : Int} {Q : D → Prop} (q : Q (.int (i + j))) : OkV (binM μ .Add (.int i) (.int j)) Q := ⟨_, rfl, q⟩
theorem k_subI {i j : Int} {Q : D → Prop} (q : Q (.int (i - j))) : OkV (binM μ .Sub (.int i) (.int j)) Q := ⟨_, rfl, q⟩
theorem k_sub1 {j : Nat} {Q : D → Prop} (q : Q (.int (j : Nat))) : OkV (binM μ .Sub (.int ((j + 1 : Nat) : Int)) (.int 1)) Q := ⟨_, rfl, by
  have : ((j + 1 : Nat) : Int) - 1 = (j : Nat) := by omega
  rw [this]; exact q⟩
theorem k_eq0 {j : Nat} {Q : Bool → Prop} (q : Q false) : OkV (cmpD μ .Eq (.int ((j + 1 : Nat) : Int)) (.int 0)) Q := k_eqI (fun h => by omega) fun _ => q
theorem k_eq00 {Q : Bool → Prop} (q : Q true) : OkV (cmpD μ .Eq (.int 0) (.int 0)) Q := ⟨true, rfl, q⟩
def strsOf : List D → Option (List Str)
  | [] => some []
  | .str x :: r => (strsOf r).map fun y => x :: y
  | _ :: _ => none
theorem strsOf_eq : ∀ {xs : List D} {ys : List Str}, strsOf xs = some ys → xs = ys.map .str
  | [], ys, h => by cases h; rfl
  | .str x :: r, ys, h => by
    simp only [strsOf, Option.map_eq_some_iff] at h
    obtain ⟨z, h1, rfl⟩ := h
    rw [List.map_cons, strsOf_eq h1]
  | .non :: _, _, h | .bl _ :: _, _, h | .int _ :: _, _, h | .tup _ :: _, _, h | .lst _ :: _, _, h | .frz _ :: _, _, h | .ref _ :: _, _, h => by cases h
theorem intsOf_eq : ∀ {xs : List D} {ys : List Int}, intsOf xs = some ys → xs = ys.map .int
  | [], ys, h => by cases h; rfl
  | .int x :: r, ys, h => by
    simp only [intsOf, Option.map_eq_some_iff] at h
    obtain ⟨z, h1, rfl⟩ := h
    rw [List.map_cons, intsOf_eq h1]
  | .non :: _, _, h | .bl _ :: _, _, h | .str _ :: _, _, h | .tup _ :: _, _, h | .lst _ :: _, _, h | .frz _ :: _, _, h | .ref _ :: _, _, h => by cases h
theorem at_mem {α : Type} {xs : List α} {x : Int} (h0 : 0 ≤ x) (h1 : x < (xs.length : Nat)) : ∃ d ∈ xs, atI xs x = some d := by
  have hl : x.toNat < xs.length := by omega
  refine ⟨xs[x.toNat], List.getElem_mem hl, ?_⟩
  have := atI_nat (xs := xs) (j := x.toNat) (v := xs[x.toNat]) (by simp [hl])
  rw [Int.toNat_of_nonneg h0] at this
  exact this
theorem k_pickS {xs : List D} {ys : List Str} {x : Int} {Q : D → Prop} (h : strsOf xs = some ys) (h0 : 0 ≤ x ∧ x < (ys.length : Nat)) (q : ∀ s ∈ ys, Q (.str s)) : OkV (idxD μ (.lst xs) (.int x)) Q := by
  rw [strsOf_eq h]
  obtain ⟨d, hd, e⟩ := at_mem (xs := ys.map D.str) h0.1 (by rw [List.length_map]; exact h0.2)
  obtain ⟨s, hs, rfl⟩ := List.mem_map.mp hd
  exact ⟨_, e, q s hs⟩
theorem k_pickI {xs : List D} {ys : List Int} {x : Int} {Q : D → Prop} (h : intsOf xs = some ys) (h0 : 0 ≤ x ∧ x < (ys.length : Nat)) (q : ∀ s ∈ ys, Q (.int s)) : OkV (idxD μ (.lst xs) (.int x)) Q := by
  rw [intsOf_eq h]
  obtain ⟨d, hd, e⟩ := at_mem (xs := ys.map D.int) h0.1 (by rw [List.length_map]; exact h0.2)
  obtain ⟨s, hs, rfl⟩ := List.mem_map.mp hd
  exact ⟨_, e, q s hs⟩
theorem k_tuple {xs : List D} {Q : D → Mu → Prop} (q : Q (.tup xs) μ) : Ok2 (biD μ .tuple [.lst xs]) Q := ⟨_, _, rfl, q⟩
theorem k_lenL {xs : List D} {Q : D → Mu → Prop} (q : Q (.int (xs.length : Nat)) μ) : Ok2 (biD μ .len [.lst xs]) Q := ⟨_, _, rfl, q⟩
end
end Pl

namespace Pl
open PySem L2
/-- holes, measures, and that the names that it gives are below b -/
structure Good (t : T) (k s h p : Nat) (b : Int) : Prop where
  ho : t.holes = k
  lim : t.lim
  sz : t.size ≤ s
  ht : t.ht ≤ h
  dp : t.dep ≤ p
  gv : ∀ x ∈ t.given, x < b
def T.locs : T → List Int
  | .n0 (.loc x _) => [x]
  | .n0 _ => []
  | .n1 _ a => a.locs
  | .n2 _ a b => a.locs ++ b.locs
  | .n3 _ a b c => a.locs ++ (b.locs ++ c.locs)
/-- d is such a tree, and pr holds of all locals that stand in it -/
def TrP (pr : Int → Prop) (d : D) (k s h p : Nat) (b : Int) : Prop := ∃ t, d = enc t ∧ Good t k s h p b ∧ ∀ x ∈ t.locs, pr x
abbrev Tr (d : D) (k s h p : Nat) (b : Int) : Prop := TrP (fun _ => True) d k s h p b
theorem okI_of {x : Int} (h0 : -2000000000 ≤ x ∧ x ≤ 2000000000) : okI x := by unfold okI; omega
structure NmOk (n : Nm) (b : Int) : Prop where
  lim : n.lim
  lt : ∀ x ∈ n.list, x < b
section
variable {pr : Int → Prop} {a d e : D} {k s h p k1 s1 h1 p1 k2 s2 h2 p2 k3 s3 h3 p3 : Nat} {b b' x y z n : Int}
theorem TrP.up (A : TrP pr d k s h p b) (e : k = k1 ∧ s ≤ s1 ∧ h ≤ h1 ∧ p ≤ p1 ∧ b ≤ b') : TrP pr d k1 s1 h1 p1 b' := by
  obtain ⟨t, rfl, A, P⟩ := A
  exact ⟨t, rfl, ⟨by rw [A.ho]; exact e.1, A.lim, Nat.le_trans A.sz e.2.1, Nat.le_trans A.ht e.2.2.1, Nat.le_trans A.dp e.2.2.2.1, fun x hx => Int.lt_of_lt_of_le (A.gv x hx) e.2.2.2.2⟩, P⟩
theorem TrP.bd (A : TrP pr d k s h p b) (e : b ≤ b') : TrP pr d k s h p b' := A.up ⟨rfl, Nat.le_refl _, Nat.le_refl _, Nat.le_refl _, e⟩
theorem TrP.upS (A : TrP pr d k s h p b) (e : k = k1 ∧ s ≤ s1 ∧ h ≤ h1 ∧ p ≤ p1) : TrP pr d k1 s1 h1 p1 b := A.up ⟨e.1, e.2.1, e.2.2.1, e.2.2.2, Int.le_refl _⟩
theorem NmOk.bd {n : Nm} (A : NmOk n b) (e : b ≤ b') : NmOk n b' := ⟨A.lim, fun x hx => Int.lt_of_lt_of_le (A.lt x hx) e⟩
theorem nm_z : NmOk .z b := ⟨trivial, fun x hx => by cases hx⟩
theorem nm_two (o : okI x ∧ okI y) (l : x < b ∧ y < b) : NmOk (.two x y) b := ⟨o, fun u hu => by
  simp only [Nm.list, List.mem_cons, List.not_mem_nil, or_false] at hu
  rcases hu with rfl | rfl
  · exact l.1
  · exact l.2⟩
theorem tr_0 {l : L0} (ho : (T.n0 l).holes = k) (lim : l.lim) (P : ∀ x ∈ (T.n0 l).locs, pr x) : TrP pr (enc0 l) k 1 0 2 b := ⟨.n0 l, rfl, ⟨ho, lim, Nat.le_refl _, Nat.le_refl _, Nat.le_refl _, fun x hx => by cases hx⟩, P⟩
theorem tr_1 {l : L1} (lim : l.lim) (own : ∀ x ∈ own1 l, x < b) (A : TrP pr a k s h p b) : TrP pr (enc1 l a) k (s + 1) (h + 1) (p + 1) b := by
  obtain ⟨t, rfl, A, P⟩ := A
  exact ⟨.n1 l t, rfl, ⟨A.ho, ⟨lim, A.lim⟩, Nat.succ_le_succ A.sz, Nat.succ_le_succ A.ht, Nat.succ_le_succ A.dp, fun x hx => by
    simp only [T.given, List.mem_append] at hx
    rcases hx with hx | hx
    · exact own x hx
    · exact A.gv x hx⟩, P⟩
theorem tr_2 {l : L2t} (lim : l.lim) (own : ∀ x ∈ own2 l, x < b) (A : TrP pr a k s h p b) (B : TrP pr d k1 s1 h1 p1 b) : TrP pr (enc2 l a d) (k + k1) (s + s1 + 1) (max h h1 + 1) (max p p1 + 2) b := by
  obtain ⟨t, rfl, A, P⟩ := A
  obtain ⟨u, rfl, B, P'⟩ := B
  refine ⟨.n2 l t u, rfl, ⟨by simp only [T.holes, A.ho, B.ho], ⟨lim, A.lim, B.lim⟩, ?_, ?_, ?_, fun x hx => ?_⟩, fun x hx => (List.mem_append.mp hx).elim (P x) (P' x)⟩
  · have := A.sz; have := B.sz; simp only [T.size]; omega
  · have := A.ht; have := B.ht; simp only [T.ht]; omega
  · have := A.dp; have := B.dp; simp only [T.dep]; omega
  · simp only [T.given, List.mem_append] at hx
    rcases hx with hx | hx | hx
    · exact own x hx
    · exact A.gv x hx
    · exact B.gv x hx
theorem tr_3 {l : L3} (lim : l.lim) (own : ∀ x ∈ own3 l, x < b) (A : TrP pr a k s h p b) (B : TrP pr d k1 s1 h1 p1 b) (C : TrP pr e k2 s2 h2 p2 b) : TrP pr (enc3 l a d e) (k + k1 + k2) (s + s1 + s2 + 1) (max h (max h1 h2) + 1) (max p (max p1 p2) + 3) b := by
  obtain ⟨t, rfl, A, P⟩ := A
  obtain ⟨u, rfl, B, P'⟩ := B
  obtain ⟨v, rfl, C, P2⟩ := C
  refine ⟨.n3 l t u v, rfl, ⟨by simp only [T.holes, A.ho, B.ho, C.ho], ⟨lim, A.lim, B.lim, C.lim⟩, ?_, ?_, ?_, fun x hx => ?_⟩, fun x hx => (List.mem_append.mp hx).elim (P x) fun hx => (List.mem_append.mp hx).elim (P' x) (P2 x)⟩
  · have := A.sz; have := B.sz; have := C.sz; simp only [T.size]; omega
  · have := A.ht; have := B.ht; have := C.ht; simp only [T.ht]; omega
  · have := A.dp; have := B.dp; have := C.dp; simp only [T.dep]; omega
  · simp only [T.given, List.mem_append] at hx
    rcases hx with hx | hx | hx | hx
    · exact own x hx
    · exact A.gv x hx
    · exact B.gv x hx
    · exact C.gv x hx
theorem tr_num (o : okI n ∧ okI z) : TrP pr (.tup [.str "number", .int n, at_ z]) 0 1 0 2 b := tr_0 (l := .num n z) rfl o (fun x hx => by cases hx)
theorem tr_loc (o : okI n ∧ okI z) (P : pr n) : TrP pr (.tup [.str "local", .int n, at_ z]) 0 1 0 2 b := tr_0 (l := .loc n z) rfl o (fun x hx => by
  simp only [T.locs, List.mem_cons, List.not_mem_nil, or_false] at hx
  rw [hx]; exact P)
theorem tr_top (o : okI z) : TrP pr (.tup [.str "top", .str "m.h", at_ z]) 0 1 0 2 b := tr_0 (l := .top z) rfl o (fun x hx => by cases hx)
theorem tr_hole : TrP pr (.tup [.str "hole"]) 1 1 0 2 b := tr_0 (l := .hole) rfl trivial (fun x hx => by cases hx)
theorem tr_dat0 (o : okI n ∧ okI z) : TrP pr (.tup [.str "data", .int n, .tup [], at_ z]) 0 1 0 2 b := tr_0 (l := .dat n z) rfl o (fun x hx => by cases hx)
theorem no_own : ∀ x ∈ ([] : List Int), x < b := fun x hx => by cases hx
theorem one_own (l : n < b) : ∀ x ∈ [n], x < b := fun x hx => by
  simp only [List.mem_cons, List.not_mem_nil, or_false] at hx
  rw [hx]; exact l
theorem tr_fn (A : TrP pr a k s h p b) (o : okI n ∧ okI z) (l : n < b) : TrP pr (.tup [.str "fn", .tup [.int n], a, at_ z]) k (s + 1) (h + 1) (p + 1) b := tr_1 (l := .fn n z) o (one_own l) A
theorem tr_read (A : TrP pr a k s h p b) (o : okI z) : TrP pr (.tup [.str "read", a, at_ z]) k (s + 1) (h + 1) (p + 1) b := tr_1 (l := .read z) o no_own A
theorem tr_cell (A : TrP pr a k s h p b) (o : okI z) : TrP pr (.tup [.str "cell", a, at_ z]) k (s + 1) (h + 1) (p + 1) b := tr_1 (l := .cell z) o no_own A
theorem tr_print (A : TrP pr a k s h p b) (o : okI z) : TrP pr (.tup [.str "print", a, at_ z]) k (s + 1) (h + 1) (p + 1) b := tr_1 (l := .print z) o no_own A
theorem tr_let (A : TrP pr a k s h p b) (B : TrP pr d k1 s1 h1 p1 b) (o : okI n ∧ okI z) (l : n < b) : TrP pr (.tup [.str "let", .int n, a, d, at_ z]) (k + k1) (s + s1 + 1) (max h h1 + 1) (max p p1 + 2) b := tr_2 (l := .lets n z) o (one_own l) A B
theorem tr_callby (A : TrP pr a k s h p b) (B : TrP pr d k1 s1 h1 p1 b) (o : okI z) : TrP pr (.tup [.str "callby", a, .tup [d], at_ z]) (k + k1) (s + s1 + 1) (max h h1 + 1) (max p p1 + 2) b := tr_2 (l := .callby z) o no_own A B
theorem tr_call (A : TrP pr a k s h p b) (B : TrP pr d k1 s1 h1 p1 b) (o : okI z) : TrP pr (.tup [.str "call", .str "m.g", .tup [a, d], at_ z]) (k + k1) (s + s1 + 1) (max h h1 + 1) (max p p1 + 2) b := tr_2 (l := .call z) o no_own A B
theorem tr_dat2 (A : TrP pr a k s h p b) (B : TrP pr d k1 s1 h1 p1 b) (o : okI z) : TrP pr (.tup [.str "data", .int 1, .tup [a, d], at_ z]) (k + k1) (s + s1 + 1) (max h h1 + 1) (max p p1 + 2) b := tr_2 (l := .dat z) o no_own A B
theorem tr_op {g : Str} (A : TrP pr a k s h p b) (B : TrP pr d k1 s1 h1 p1 b) (o : g ∈ signs) (o' : okI z) : TrP pr (.tup [.str "op", .str g, a, d, at_ z]) (k + k1) (s + s1 + 1) (max h h1 + 1) (max p p1 + 2) b := tr_2 (l := .op g z) ⟨o, o'⟩ no_own A B
theorem tr_write (A : TrP pr a k s h p b) (B : TrP pr d k1 s1 h1 p1 b) (o : okI z) : TrP pr (.tup [.str "write", a, d, at_ z]) (k + k1) (s + s1 + 1) (max h h1 + 1) (max p p1 + 2) b := tr_2 (l := .write z) o no_own A B
theorem tr_sw {n1 n2 : Nm} (A : TrP pr a k s h p b) (B : TrP pr d k1 s1 h1 p1 b) (C : TrP pr e k2 s2 h2 p2 b) (N1 : NmOk n1 b) (N2 : NmOk n2 b) (o : okI z) : TrP pr (.tup [.str "switch", a, .tup [.tup [intsD n1, d], .tup [intsD n2, e]], at_ z]) (k + k1 + k2) (s + s1 + s2 + 1) (max h (max h1 h2) + 1) (max p (max p1 p2) + 3) b :=
  tr_3 (l := .sw n1 n2 z) ⟨N1.lim, N2.lim, o⟩ (fun x hx => by
    simp only [own3, List.mem_append] at hx
    rcases hx with hx | hx
    · exact N1.lt x hx
    · exact N2.lt x hx) A B C
theorem tr_swB {n2 : Nm} (A : TrP pr a k s h p b) (B : TrP pr d k1 s1 h1 p1 b) (C : TrP pr e k2 s2 h2 p2 b) (N2 : NmOk n2 b) (o : okI z) : TrP pr (.tup [.str "switch", a, .tup [.tup [.tup [], d], .tup [intsD n2, e]], at_ z]) (k + k1 + k2) (s + s1 + s2 + 1) (max h (max h1 h2) + 1) (max p (max p1 p2) + 3) b :=
  tr_sw (n1 := .z) A B C nm_z N2 o
theorem tr_sw0 (A : TrP pr a k s h p b) (B : TrP pr d k1 s1 h1 p1 b) (C : TrP pr e k2 s2 h2 p2 b) (o : okI z) : TrP pr (.tup [.str "switch", a, .tup [.tup [.tup [], d], .tup [.tup [], e]], at_ z]) (k + k1 + k2) (s + s1 + s2 + 1) (max h (max h1 h2) + 1) (max p (max p1 p2) + 3) b :=
  tr_sw (n1 := .z) (n2 := .z) A B C nm_z nm_z o
theorem tr_sw2 (A : TrP pr a k s h p b) (B : TrP pr d k1 s1 h1 p1 b) (C : TrP pr e k2 s2 h2 p2 b) (o' : okI x ∧ okI y) (l : x < b ∧ y < b) (o : okI z) : TrP pr (.tup [.str "switch", a, .tup [.tup [.tup [], d], .tup [.tup [.int x, .int y], e]], at_ z]) (k + k1 + k2) (s + s1 + s2 + 1) (max h (max h1 h2) + 1) (max p (max p1 p2) + 3) b :=
  tr_sw (n1 := .z) (n2 := .two x y) A B C nm_z (nm_two o' l) o
end
theorem fill_good {t u : T} {k s h p k1 s1 h1 p1 : Nat} {b : Int} (A : Good t k s h p b) (B : Good u k1 s1 h1 p1 b) (hk : k = 1) : Good (t.fill u) k1 (s + s1) (h + h1) (p + p1) b := by
  have key : ∀ t : T, t.lim → (∀ x ∈ t.given, x < b) → (t.fill u).lim ∧ (t.fill u).ht ≤ t.ht + u.ht ∧ (t.fill u).dep ≤ t.dep + u.dep ∧ (t.fill u).size ≤ t.size + t.holes * u.size ∧ (t.fill u).holes = t.holes * u.holes ∧ (∀ x ∈ (t.fill u).given, x < b) := by
    intro t
    induction t with
    | n0 l =>
      intro hl hg
      cases l <;> refine ⟨?_, ?_, ?_, ?_, ?_, ?_⟩ <;> simp [T.fill, T.lim, T.ht, T.dep, T.size, T.holes, T.given] <;> first | exact hl | exact B.lim | exact B.gv | omega
    | n1 l a ih =>
      intro hl hg
      simp only [T.lim] at hl
      simp only [T.given, List.mem_append] at hg
      obtain ⟨i1, i2, i3, i4, i5, i6⟩ := ih hl.2 fun x hx => hg x (.inr hx)
      refine ⟨⟨hl.1, i1⟩, by simp only [T.fill, T.ht]; omega, by simp only [T.fill, T.dep]; omega, by simp only [T.fill, T.size, T.holes]; omega, i5, fun x hx => ?_⟩
      simp only [T.fill, T.given, List.mem_append] at hx
      rcases hx with hx | hx
      · exact hg x (.inl hx)
      · exact i6 x hx
    | n2 l a c ih ih' =>
      intro hl hg
      simp only [T.lim] at hl
      simp only [T.given, List.mem_append] at hg
      obtain ⟨i1, i2, i3, i4, i5, i6⟩ := ih hl.2.1 fun x hx => hg x (.inr (.inl hx))
      obtain ⟨j1, j2, j3, j4, j5, j6⟩ := ih' hl.2.2 fun x hx => hg x (.inr (.inr hx))
      refine ⟨⟨hl.1, i1, j1⟩, by simp only [T.fill, T.ht]; omega, by simp only [T.fill, T.dep]; omega, by simp only [T.fill, T.size, T.holes, Nat.add_mul]; omega, by simp only [T.fill, T.holes, Nat.add_mul, i5, j5], fun x hx => ?_⟩
      simp only [T.fill, T.given, List.mem_append] at hx
      rcases hx with hx | hx | hx
      · exact hg x (.inl hx)
      · exact i6 x hx
      · exact j6 x hx
    | n3 l a c d ih ih' ih2 =>
      intro hl hg
      simp only [T.lim] at hl
      simp only [T.given, List.mem_append] at hg
      obtain ⟨i1, i2, i3, i4, i5, i6⟩ := ih hl.2.1 fun x hx => hg x (.inr (.inl hx))
      obtain ⟨j1, j2, j3, j4, j5, j6⟩ := ih' hl.2.2.1 fun x hx => hg x (.inr (.inr (.inl hx)))
      obtain ⟨q1, q2, q3, q4, q5, q6⟩ := ih2 hl.2.2.2 fun x hx => hg x (.inr (.inr (.inr hx)))
      refine ⟨⟨hl.1, i1, j1, q1⟩, by simp only [T.fill, T.ht]; omega, by simp only [T.fill, T.dep]; omega, by simp only [T.fill, T.size, T.holes, Nat.add_mul]; omega, by simp only [T.fill, T.holes, Nat.add_mul, i5, j5, q5], fun x hx => ?_⟩
      simp only [T.fill, T.given, List.mem_append] at hx
      rcases hx with hx | hx | hx | hx
      · exact hg x (.inl hx)
      · exact i6 x hx
      · exact j6 x hx
      · exact q6 x hx
  obtain ⟨i1, i2, i3, i4, i5, i6⟩ := key t A.lim A.gv
  have a1 := A.ho; have a2 := A.sz; have a3 := A.ht; have a4 := A.dp
  have b1 := B.ho; have b2 := B.sz; have b3 := B.ht; have b4 := B.dp
  rw [a1, hk, Nat.one_mul] at i4 i5
  exact ⟨by omega, i1, by omega, by omega, by omega, i6⟩
end Pl

namespace Pl
open PySem L2
theorem pyDs_ints (μ : Mu) : ∀ l : List Int, pyDs μ (l.map .int) = some (l.map .int)
  | [] => rfl
  | x :: l => by simp [pyDs, pyD, pyDs_ints μ l]
theorem canAll : ∀ l : List Int, PyData.canLayAll0 (l.map .int) = true
  | [] => rfl
  | x :: l => by simp [PyData.canLayAll0, PyData.canLay0, canAll l]
theorem depAll : ∀ l : List Int, PyData.depthAll (l.map .int) = 0
  | [] => rfl
  | x :: l => by simp [PyData.depthAll, PyData.depth, depAll l]
theorem ne_nil (μ : Mu) (l : List Int) : cmpD μ .NotEq (.lst (l.map .int)) (.lst []) = some (!l.isEmpty) := by
  have h1 : SeqAt.shaped (.list (l.map .int)) = true := by simp [SeqAt.shaped, PyData.canLay0, PyData.depth, canAll, depAll]
  have h2 : SeqAt.shaped (.list []) = true := by decide +kernel
  have h3 : PyData.eqv (.list (l.map .int)) (.list []) = l.isEmpty := by cases l <;> simp [PyData.eqv, PyData.eqvAll]
  simp [cmpD, eqD, scalD, flatD, deepEq, pyD, pyDs_ints, pyDs, h1, h2, h3]
def kinds : List Str := ["int", "bool", "list", "cell", "fn"]
theorem sub_of {s : Str} {xs ys : List Str} (h : s ∈ xs) (hs : xs.all (fun x => ys.contains x) = true) : s ∈ ys := by
  have := List.all_eq_true.mp hs s h
  simpa using this
/-- an oracle that draws, places, names -/
structure Src (c : Orc) (μ : Mu) (ns : List Int) (g : Nat) : Prop where
  draw : ∀ {i a b at' cnt : Int} {hole : D} (lim : Int), 0 ≤ i → 0 ≤ a → 0 < lim → lim ≤ 1000000 → ∃ x i' a' b', c 26 [.ref 0, .int lim] (W μ ns g i a b at' cnt hole) = some (.int x, W μ ns g i' a' b' at' cnt hole) ∧ 0 ≤ x ∧ x < lim ∧ 0 ≤ i' ∧ 0 ≤ a'
  here : ∀ {i a b at' cnt : Int} {hole : D}, c 27 [.ref g] (W μ ns g i a b at' cnt hole) = some (at_ (at' + 1), W μ ns g i a b (at' + 1) cnt hole)
  new : ∀ {i a b at' cnt : Int} {hole : D}, c 28 [.ref g] (W μ ns g i a b at' cnt hole) = some (.int cnt, W μ ns g i a b at' (cnt + 1) hole)
theorem src_at {μ : Mu} {ns : List Int} {g : Nat} (R : List PDef) (n : Nat) (hg : 0 < g) (hm : g < μ.length) : Src (callF (Pc ++ R) (n + 1)) μ ns g :=
  ⟨fun lim h1 h2 h3 h4 => draw_ok hg hm R n h1 h2 h3 h4, here_ok hg hm R n, new_ok hg hm R n⟩
section
variable {c : Orc} {μ : Mu} {ns : List Int} {g : Nat} {i a b at' cnt : Int} {hole : D}
theorem k_draw (S : Src c μ ns g) {lim : Int} {Q : D → Mu → Prop} (h : 0 ≤ i ∧ 0 ≤ a ∧ 0 < lim ∧ lim ≤ 1000000) (q : ∀ x i' a' b', 0 ≤ x → x < lim → 0 ≤ i' → 0 ≤ a' → Q (.int x) (W μ ns g i' a' b' at' cnt hole)) : Ok2 (c 26 [.ref 0, .int lim] (W μ ns g i a b at' cnt hole)) Q := by
  obtain ⟨x, i', a', b', e, h1, h2, h3, h4⟩ := S.draw (b := b) (at' := at') (cnt := cnt) (hole := hole) lim h.1 h.2.1 h.2.2.1 h.2.2.2
  exact ⟨_, _, e, q x i' a' b' h1 h2 h3 h4⟩
theorem k_here (S : Src c μ ns g) {Q : D → Mu → Prop} (q : Q (at_ (at' + 1)) (W μ ns g i a b (at' + 1) cnt hole)) : Ok2 (c 27 [.ref g] (W μ ns g i a b at' cnt hole)) Q := ⟨_, _, S.here, q⟩
theorem k_new (S : Src c μ ns g) {Q : D → Mu → Prop} (q : Q (.int cnt) (W μ ns g i a b at' (cnt + 1) hole)) : Ok2 (c 28 [.ref g] (W μ ns g i a b at' cnt hole)) Q := ⟨_, _, S.new, q⟩
/-- a tree with k holes is drawn, with at most s places and names more -/
def DrP (pr : Int → Prop) (μ : Mu) (ns : List Int) (g : Nat) (hole : D) (at' cnt : Int) (k s h p : Nat) (r : D) (m : Mu) : Prop :=
  ∃ i a b at2 cnt2, m = W μ ns g i a b at2 cnt2 hole ∧ (0 ≤ i ∧ 0 ≤ a ∧ at' ≤ at2 ∧ at2 ≤ at' + s ∧ cnt ≤ cnt2 ∧ cnt2 ≤ cnt + s) ∧ TrP pr r k s h p cnt2
abbrev Dr (μ : Mu) (ns : List Int) (g : Nat) (hole : D) (at' cnt : Int) (k s h p : Nat) : D → Mu → Prop := DrP (fun _ => True) μ ns g hole at' cnt k s h p
variable {pr : Int → Prop}
theorem dr_i {k s h p : Nat} {r : D} {at1 cnt1 : Int} (n : 0 ≤ i ∧ 0 ≤ a ∧ at1 ≤ at' ∧ at' ≤ at1 + s ∧ cnt1 ≤ cnt ∧ cnt ≤ cnt1 + s) (t : TrP pr r k s h p cnt) : DrP pr μ ns g hole at1 cnt1 k s h p r (W μ ns g i a b at' cnt hole) := ⟨_, _, _, _, _, rfl, n, t⟩
/-- what is asked of where one stands -/
def At (i a at' cnt : Int) (s : Nat) : Prop := 0 ≤ i ∧ 0 ≤ a ∧ 0 ≤ at' ∧ at' + s ≤ 1000000 ∧ 2 ≤ cnt ∧ cnt + s ≤ 1000000
theorem k_dr {x : Option (D × Mu)} {k s h p : Nat} {Q : D → Mu → Prop} (D : Ok2 x (DrP pr μ ns g hole at' cnt k s h p))
    (q : ∀ t i a b at2 cnt2, 0 ≤ i → 0 ≤ a → at' ≤ at2 → at2 ≤ at' + s → cnt ≤ cnt2 → cnt2 ≤ cnt + s → TrP pr t k s h p cnt2 → Q t (W μ ns g i a b at2 cnt2 hole)) : Ok2 x Q := by
  obtain ⟨t, m, e, i, a, b, at2, cnt2, rfl, n, A⟩ := D
  exact ⟨t, _, e, q t i a b at2 cnt2 n.1 n.2.1 n.2.2.1 n.2.2.2.1 n.2.2.2.2.1 n.2.2.2.2.2 A⟩
/-- the names in reach are extended -/
theorem k_loc {loc : D} {l : List (Int × Str)} {ys : List D} {zs : List (Int × Str)} {Q : D → Prop} (L : Loc μ g loc l) (hz : ys = zs.map encP) (h : l.length + zs.length ≤ 1000) (ok : ∀ q ∈ zs, okI q.1) (q : ∀ loc', Loc μ g loc' (l ++ zs) → Q loc') : OkV (binM (W μ ns g i a b at' cnt hole) .Add loc (.lst ys)) Q := by
  subst hz
  have hs : (l.map encP).length + (zs.map encP).length ≤ sizeLine := by rw [List.length_map, List.length_map, sizeLine_eq]; omega
  have hl : Loc μ g (.lst (l.map encP ++ zs.map encP)) (l ++ zs) := ⟨.inl (by rw [List.map_append]), by rw [List.length_append]; omega, fun q hq => by
    rcases List.mem_append.mp hq with hq | hq
    · exact L.ok q hq
    · exact ok q hq⟩
  refine ⟨_, ?_, q _ hl⟩
  rcases L.kind with rfl | ⟨r, rfl, h0, h1, h2⟩
  · simp only [binM, binD, if_pos hs]
  · have : (W μ ns g i a b at' cnt hole)[r]? = some (.lst (l.map encP)) := by
      unfold W SS
      rw [List.getElem?_set_ne (Ne.symm h0), List.getElem?_set_ne (Ne.symm h1)]
      exact h2
    simp only [binM, this, if_pos hs]
theorem k_locN {loc : D} {l : List (Int × Str)} {Q : D → Prop} (L : Loc μ g loc l) (h : l.length ≤ 1000) (q : ∀ loc', Loc μ g loc' l → Q loc') : OkV (binM (W μ ns g i a b at' cnt hole) .Add loc (.lst [])) Q :=
  k_loc L (zs := []) rfl (by simpa using h) (fun q hq => by cases hq) fun loc' h => q loc' (by simpa using h)
theorem k_loc1 {loc : D} {l : List (Int × Str)} {x : Int} {s : Str} {Q : D → Prop} (L : Loc μ g loc l) (h : l.length + 1 ≤ 1000) (ok : okI x) (q : ∀ loc' l', Loc μ g loc' l' → l'.length = l.length + 1 → Q loc') : OkV (binM (W μ ns g i a b at' cnt hole) .Add loc (.lst [.tup [.int x, .str s]])) Q :=
  k_loc L (zs := [(x, s)]) rfl (by simpa using h) (fun q hq => by
    simp only [List.mem_cons, List.not_mem_nil, or_false] at hq
    rw [hq]; exact ok) fun loc' h => q loc' _ h (by simp)
theorem k_loc2 {loc : D} {l : List (Int × Str)} {x y : Int} {s t : Str} {Q : D → Prop} (L : Loc μ g loc l) (h : l.length + 2 ≤ 1000) (ok : okI x ∧ okI y) (q : ∀ loc' l', Loc μ g loc' l' → l'.length = l.length + 2 → Q loc') : OkV (binM (W μ ns g i a b at' cnt hole) .Add loc (.lst [.tup [.int x, .str s], .tup [.int y, .str t]])) Q :=
  k_loc L (zs := [(x, s), (y, t)]) rfl (by simpa using h) (fun q hq => by
    simp only [List.mem_cons, List.not_mem_nil, or_false] at hq
    rcases hq with rfl | rfl
    · exact ok.1
    · exact ok.2) fun loc' h => q loc' _ h (by simp)
/-- the names in reach, pr holds of them -/
structure LocP (pr : Int → Prop) (μ : Mu) (g : Nat) (d : D) (l : List (Int × Str)) : Prop where
  loc : Loc μ g d l
  av : ∀ q ∈ l, pr q.1
theorem k_locPN {loc : D} {l : List (Int × Str)} {Q : D → Prop} (L : LocP pr μ g loc l) (h : l.length ≤ 1000) (q : ∀ loc', LocP pr μ g loc' l → Q loc') : OkV (binM (W μ ns g i a b at' cnt hole) .Add loc (.lst [])) Q :=
  k_locN L.loc h fun loc' h => q loc' ⟨h, L.av⟩
theorem k_locP1 {loc : D} {l : List (Int × Str)} {x : Int} {s : Str} {Q : D → Prop} (L : LocP pr μ g loc l) (h : l.length + 1 ≤ 1000) (ok : okI x) (hx : pr x) (q : ∀ loc' l', LocP pr μ g loc' l' → l'.length = l.length + 1 → Q loc') : OkV (binM (W μ ns g i a b at' cnt hole) .Add loc (.lst [.tup [.int x, .str s]])) Q :=
  k_loc L.loc (zs := [(x, s)]) rfl (by simpa using h) (fun q hq => by
    simp only [List.mem_cons, List.not_mem_nil, or_false] at hq
    rw [hq]; exact ok) fun loc' h => q loc' _ ⟨h, fun q hq => by
    rcases List.mem_append.mp hq with hq | hq
    · exact L.av q hq
    · simp only [List.mem_cons, List.not_mem_nil, or_false] at hq
      rw [hq]; exact hx⟩ (by simp)
theorem k_locP2 {loc : D} {l : List (Int × Str)} {x y : Int} {s t : Str} {Q : D → Prop} (L : LocP pr μ g loc l) (h : l.length + 2 ≤ 1000) (ok : okI x ∧ okI y) (hx : pr x ∧ pr y) (q : ∀ loc' l', LocP pr μ g loc' l' → l'.length = l.length + 2 → Q loc') : OkV (binM (W μ ns g i a b at' cnt hole) .Add loc (.lst [.tup [.int x, .str s], .tup [.int y, .str t]])) Q :=
  k_loc L.loc (zs := [(x, s), (y, t)]) rfl (by simpa using h) (fun q hq => by
    simp only [List.mem_cons, List.not_mem_nil, or_false] at hq
    rcases hq with rfl | rfl
    · exact ok.1
    · exact ok.2) fun loc' h => q loc' _ ⟨h, fun q hq => by
    rcases List.mem_append.mp hq with hq | hq
    · exact L.av q hq
    · simp only [List.mem_cons, List.not_mem_nil, or_false] at hq
      rcases hq with rfl | rfl
      · exact hx.1
      · exact hx.2⟩ (by simp)
theorem ofK_av {l : List (Int × Str)} {k : Str} (h : ∀ q ∈ l, pr q.1) : ∀ x ∈ ofK l k, pr x := fun x hx => by
  obtain ⟨q, hq, rfl⟩ := List.mem_map.mp hx
  exact h q (List.mem_filter.mp hq).1
/-- the same for a text that is gone through by hand at first -/
structure Nxt (c : Orc) (ss : ASs) (env : En) (m : Mu) (Q : Fl → En → Mu → Prop) : Prop where
  q : Ok3 (evSs c ss env m) Q
theorem g_callN {c : Orc} {b : ASs} {env : En} {μ : Mu} {Q : D → Mu → Prop} (h : Nxt c b env μ (Rt Q)) : Ok2 ((evSs c b env μ).bind retK) Q := by
  obtain ⟨f, e, m, e1, q⟩ := h.q
  rw [e1]
  cases f with
  | nx => exact ⟨_, _, rfl, q.q⟩
  | rt v => exact ⟨_, _, rfl, q.q⟩
  | bk => exact q.elim
  | ct => exact q.elim
theorem ofK_ok {d : D} {l : List (Int × Str)} {k : Str} (L : Loc μ g d l) : (∀ x ∈ ofK l k, okI x) ∧ (ofK l k).length ≤ l.length := by
  refine ⟨fun x hx => ?_, ?_⟩
  · obtain ⟨q, hq, rfl⟩ := List.mem_map.mp hx
    exact L.ok q (List.mem_filter.mp hq).1
  · unfold ofK
    rw [List.length_map]
    exact List.length_filter_le _ _
theorem k_neN {l : List Int} {Q : Bool → Prop} (h1 : l ≠ [] → Q true) (h2 : l = [] → Q false) : OkV (cmpD (W μ ns g i a b at' cnt hole) .NotEq (.lst (l.map .int)) (.lst [])) Q := by
  refine ⟨_, ne_nil _ l, ?_⟩
  cases l with
  | nil => exact h2 rfl
  | cons x l => exact h1 (by simp)
theorem k_lenI {l : List Int} {Q : D → Mu → Prop} (q : Q (.int (l.length : Nat)) (W μ ns g i a b at' cnt hole)) : Ok2 (biD (W μ ns g i a b at' cnt hole) .len [.lst (l.map .int)]) Q := ⟨_, _, by simp [biD, itemsD], q⟩
theorem k_pickN {l : List Int} {x : Int} {Q : D → Prop} (h0 : 0 ≤ x ∧ x < (l.length : Nat)) (q : ∀ s ∈ l, Q (.int s)) : OkV (idxD (W μ ns g i a b at' cnt hole) (.lst (l.map .int)) (.int x)) Q := k_pickI (intsOf_map l) h0 q
theorem pos_of_ne {l : List Int} (h : l ≠ []) : 0 < l.length := List.length_pos_iff.mpr h
theorem okI_lit {x : Int} {ys : List Int} (h : x ∈ ys) (ho : ys.all (fun x => decide (-2000000000 ≤ x ∧ x ≤ 2000000000)) = true) : okI x := okI_of (of_decide_eq_true (List.all_eq_true.mp ho x h))
theorem wSs_first {c : Orc} {s : AS} {ss : ASs} {env e : En} {m m' : Mu} {Q : Fl → En → Mu → Prop} (h : evS c s env m = some (.nx, e, m')) (q : wSs c ss e m' Q) : Nxt c (.cons s ss) env m Q := by
  obtain ⟨f, e', m'', e1, q⟩ := wSs_ok q
  exact ⟨⟨f, e', m'', by simp only [evSs, h, Option.bind_some, e1], q⟩⟩
theorem small_b (S : Src c μ ns g) {loc : D} {l : List (Int × Str)} (LP : LocP pr μ g loc l) {k : Str} (hk : k ∈ kinds) (hl : l.length ≤ 1000) (n : At i a at' cnt 3) :
    Ok2 ((evSs c b__law_small [some (.ref 0), some (.ref g), some loc, some (.str k), none, none, none] (W μ ns g i a b at' cnt hole)).bind retK) (DrP pr μ ns g hole at' cnt 0 3 1 3) := by
  obtain ⟨n1, n2, n3, n4, n5, n6⟩ := n
  have L := LP.loc
  have nb := names_b (c := c) (k := k) (ns := ns) (i := i) (a := a) (b := b) (at' := at') (cnt := cnt) (hole := hole) L
  obtain ⟨o1, o2⟩ := ofK_ok (k := k) L
  have o3 := ofK_av (k := k) LP.av
  refine g_callN ?_
  refine wSs_first nb ?_
  generalize ofK l k = nm at o1 o2 o3
  simp only [kinds, List.mem_cons, List.not_mem_nil, or_false] at hk
  rcases hk with rfl | rfl | rfl | rfl | rfl
  all_goals (((conv => whnf); repeat' (first | ((with_reducible refine k_neN ?_ ?_) <;> (intro h; conv => whnf)) | ((with_reducible refine k_lenI ?_); conv => whnf) | ((with_reducible refine k_draw S (by first | omega | (have := pos_of_ne (by assumption); omega)) ?_); intros; conv => whnf) | ((with_reducible refine k_pickN (by omega) ?_); intros; conv => whnf) | ((with_reducible refine k_draw S (by omega) ?_); intros; conv => whnf) | ((with_reducible refine k_here S ?_); conv => whnf) | ((with_reducible refine k_new S ?_); conv => whnf) | (refine k_pickS rfl (by simp only [List.length_cons, List.length_nil]; omega) ?_; intros; conv => whnf) | (refine k_pickI rfl (by simp only [List.length_cons, List.length_nil]; omega) ?_; intros; conv => whnf) | (refine k_eqS (t := true) (by decide +kernel) ?_; conv => whnf) | (refine k_eqS (t := false) (by decide +kernel) ?_; conv => whnf) | ((with_reducible refine k_eq0 ?_); conv => whnf) | ((with_reducible refine k_eqI ?_ ?_) <;> (intro h; conv => whnf)) | ((with_reducible refine k_gtI ?_ ?_) <;> (intro h; conv => whnf)) | ((with_reducible refine k_ltI ?_ ?_) <;> (intro h; conv => whnf)) | ((with_reducible refine k_sub1 ?_); conv => whnf) | ((with_reducible refine k_subI ?_); conv => whnf) | ((with_reducible refine k_addI ?_); conv => whnf) | ((with_reducible refine k_tuple ?_); conv => whnf) | ((with_reducible refine k_lenL ?_); conv => whnf))))
  all_goals (refine Fin2.mk ?_; refine dr_i (by omega) ?_; apply TrP.upS; (repeat' (first | (exact o1 _ (by assumption)) | (exact o3 _ (by assumption)) | (with_reducible refine And.intro ?_ ?_) | (exact TrP.bd (by assumption) (by omega)) | (exact trivial) | (exact NmOk.bd (by assumption) (by omega)) | (exact okI_of (by omega)) | (exact okI_lit (by assumption) (by decide)) | (exact sub_of (by assumption) (by decide +kernel)) | (exact List.elem_iff.mp (by decide +kernel)) | (with_reducible apply tr_num) | (with_reducible apply tr_loc) | (with_reducible apply tr_top) | (with_reducible exact tr_hole) | (with_reducible apply tr_dat0) | (with_reducible apply tr_fn) | (with_reducible apply tr_read) | (with_reducible apply tr_cell) | (with_reducible apply tr_print) | (with_reducible apply tr_let) | (with_reducible apply tr_callby) | (with_reducible apply tr_call) | (with_reducible apply tr_dat2) | (with_reducible apply tr_op) | (with_reducible apply tr_write) | (with_reducible apply tr_swB) | (with_reducible apply tr_sw0) | (with_reducible apply tr_sw2) | (omega))))
end
end Pl

namespace Pl
open PySem L2
section
variable (pr : Int → Prop) (c : Orc) (μ : Mu) (ns : List Int) (g : Nat)
def SmallP : Prop := ∀ {loc : D} {l : List (Int × Str)} {k : Str} {i a b at' cnt : Int} {hole : D}, LocP pr μ g loc l → k ∈ kinds → l.length ≤ 1000 → At i a at' cnt 3 →
  Ok2 (c 29 [.ref 0, .ref g, loc, .str k] (W μ ns g i a b at' cnt hole)) (DrP pr μ ns g hole at' cnt 0 3 1 3)
/-- core of depth e: at most s parts .., q names more are in reach within it -/
def CoreP (e : Int) (s h p q : Nat) : Prop := ∀ {loc : D} {l : List (Int × Str)} {k : Str} {i a b at' cnt : Int} {hole : D}, LocP pr μ g loc l → k ∈ kinds → l.length + q ≤ 1000 → At i a at' cnt s → (∀ x, cnt ≤ x → pr x) →
  Ok2 (c 30 [.ref 0, .ref g, loc, .str k, .int e] (W μ ns g i a b at' cnt hole)) (DrP pr μ ns g hole at' cnt 0 s h p)
def MadeP (e : Int) (s h p q : Nat) : Prop := ∀ {loc : D} {l : List (Int × Str)} {k : Str} {i a b at' cnt : Int} {hole : D}, LocP pr μ g loc l → k ∈ kinds → l.length + q ≤ 1000 → At i a at' cnt s → (∀ x, cnt ≤ x → pr x) →
  Ok2 (c 32 [.ref 0, .ref g, loc, .str k, .int e] (W μ ns g i a b at' cnt hole)) (DrP pr μ ns g hole at' cnt 0 s h p)
def BrRP (pr : Int → Prop) (μ : Mu) (ns : List Int) (g : Nat) (hole : D) (at' cnt : Int) (asked : Str) (s h p : Nat) (r : D) (m : Mu) : Prop :=
  ∃ t1 t2 nm i a b at2 cnt2, r = .tup [.tup [.tup [], t1], .tup [intsD nm, t2]] ∧ m = W μ ns g i a b at2 cnt2 hole ∧ (0 ≤ i ∧ 0 ≤ a ∧ at' ≤ at2 ∧ at2 ≤ at' + (2 * s + 2) ∧ cnt ≤ cnt2 ∧ cnt2 ≤ cnt + (2 * s + 2)) ∧
    TrP pr t1 0 s h p cnt2 ∧ TrP pr t2 0 s h p cnt2 ∧ NmOk nm cnt2 ∧ (asked = "bool" → nm = .z) ∧ (asked = "list" → ∃ x y, nm = .two x y)
/-- branches of a switch of depth e, their cores of at most s parts .. -/
def BrP (e : Int) (s h p q : Nat) : Prop := ∀ {asked : Str} {loc : D} {l : List (Int × Str)} {k : Str} {i a b at' cnt : Int} {hole : D}, LocP pr μ g loc l → asked ∈ (["bool", "list"] : List Str) → k ∈ kinds → l.length + q + 2 ≤ 1000 → At i a at' cnt (2 * s + 2) → (∀ x, cnt ≤ x → pr x) →
  Ok2 (c 31 [.ref 0, .ref g, loc, .str asked, .str k, .int e] (W μ ns g i a b at' cnt hole)) (BrRP pr μ ns g hole at' cnt asked s h p)
end
section
variable {pr : Int → Prop} {c : Orc} {μ : Mu} {ns : List Int} {g : Nat} {s h p q : Nat}
theorem k_smallP (C : SmallP pr c μ ns g) {loc : D} {l : List (Int × Str)} {k : Str} {i a b at' cnt : Int} {hole : D} {Q : D → Mu → Prop} (L : LocP pr μ g loc l) (hk : k ∈ kinds) (hl : l.length ≤ 1000) (n : 0 ≤ i ∧ 0 ≤ a ∧ 0 ≤ at' ∧ at' + (3 : Nat) ≤ 1000000 ∧ 2 ≤ cnt ∧ cnt + (3 : Nat) ≤ 1000000)
    (q : ∀ t i a b at2 cnt2, 0 ≤ i → 0 ≤ a → at' ≤ at2 → at2 ≤ at' + (3 : Nat) → cnt ≤ cnt2 → cnt2 ≤ cnt + (3 : Nat) → TrP pr t 0 3 1 3 cnt2 → Q t (W μ ns g i a b at2 cnt2 hole)) : Ok2 (c 29 [.ref 0, .ref g, loc, .str k] (W μ ns g i a b at' cnt hole)) Q := k_dr (C L hk hl n) q
theorem k_coreP {e : Int} (C : CoreP pr c μ ns g e s h p q) {loc : D} {l : List (Int × Str)} {k : Str} {i a b at' cnt : Int} {hole : D} {Q : D → Mu → Prop} (L : LocP pr μ g loc l) (hk : k ∈ kinds) (hl : l.length + q ≤ 1000) (n : 0 ≤ i ∧ 0 ≤ a ∧ 0 ≤ at' ∧ at' + s ≤ 1000000 ∧ 2 ≤ cnt ∧ cnt + s ≤ 1000000) (hn : ∀ x, cnt ≤ x → pr x)
    (q : ∀ t i a b at2 cnt2, 0 ≤ i → 0 ≤ a → at' ≤ at2 → at2 ≤ at' + s → cnt ≤ cnt2 → cnt2 ≤ cnt + s → TrP pr t 0 s h p cnt2 → Q t (W μ ns g i a b at2 cnt2 hole)) : Ok2 (c 30 [.ref 0, .ref g, loc, .str k, .int e] (W μ ns g i a b at' cnt hole)) Q := k_dr (C L hk hl n hn) q
theorem k_madeP {e : Int} (C : MadeP pr c μ ns g e s h p q) {loc : D} {l : List (Int × Str)} {k : Str} {i a b at' cnt : Int} {hole : D} {Q : D → Mu → Prop} (L : LocP pr μ g loc l) (hk : k ∈ kinds) (hl : l.length + q ≤ 1000) (n : 0 ≤ i ∧ 0 ≤ a ∧ 0 ≤ at' ∧ at' + s ≤ 1000000 ∧ 2 ≤ cnt ∧ cnt + s ≤ 1000000) (hn : ∀ x, cnt ≤ x → pr x)
    (q : ∀ t i a b at2 cnt2, 0 ≤ i → 0 ≤ a → at' ≤ at2 → at2 ≤ at' + s → cnt ≤ cnt2 → cnt2 ≤ cnt + s → TrP pr t 0 s h p cnt2 → Q t (W μ ns g i a b at2 cnt2 hole)) : Ok2 (c 32 [.ref 0, .ref g, loc, .str k, .int e] (W μ ns g i a b at' cnt hole)) Q := k_dr (C L hk hl n hn) q
theorem k_brP {e : Int} (C : BrP pr c μ ns g e s h p q) {asked : Str} {loc : D} {l : List (Int × Str)} {k : Str} {i a b at' cnt : Int} {hole : D} {Q : D → Mu → Prop} (L : LocP pr μ g loc l) (hs : asked ∈ (["bool", "list"] : List Str)) (hk : k ∈ kinds) (hl : l.length + q + 2 ≤ 1000) (n : 0 ≤ i ∧ 0 ≤ a ∧ 0 ≤ at' ∧ at' + (2 * s + 2 : Nat) ≤ 1000000 ∧ 2 ≤ cnt ∧ cnt + (2 * s + 2 : Nat) ≤ 1000000) (hn : ∀ x, cnt ≤ x → pr x)
    (q : ∀ t1 t2 nm i a b at2 cnt2, 0 ≤ i → 0 ≤ a → at' ≤ at2 → at2 ≤ at' + (2 * s + 2) → cnt ≤ cnt2 → cnt2 ≤ cnt + (2 * s + 2) → TrP pr t1 0 s h p cnt2 → TrP pr t2 0 s h p cnt2 → NmOk nm cnt2 → (asked = "bool" → nm = .z) → (asked = "list" → ∃ x y, nm = .two x y) →
      Q (.tup [.tup [.tup [], t1], .tup [intsD nm, t2]]) (W μ ns g i a b at2 cnt2 hole)) : Ok2 (c 31 [.ref 0, .ref g, loc, .str asked, .str k, .int e] (W μ ns g i a b at' cnt hole)) Q := by
  obtain ⟨r, m, e, t1, t2, nm, i, a, b, at2, cnt2, rfl, rfl, n, A, B, N, z1, z2⟩ := C (b := b) (hole := hole) L hs hk hl n hn
  exact ⟨_, _, e, q t1 t2 nm i a b at2 cnt2 n.1 n.2.1 n.2.2.1 n.2.2.2.1 n.2.2.2.2.1 n.2.2.2.2.2 A B N z1 z2⟩
end
section
variable (c : Orc) (μ : Mu) (ns : List Int) (g : Nat)
def SmallOk : Prop := ∀ {loc : D} {l : List (Int × Str)} {k : Str} {i a b at' cnt : Int} {hole : D}, Loc μ g loc l → k ∈ kinds → l.length ≤ 1000 → At i a at' cnt 3 →
  Ok2 (c 29 [.ref 0, .ref g, loc, .str k] (W μ ns g i a b at' cnt hole)) (Dr μ ns g hole at' cnt 0 3 1 3)
/-- core of depth e: at most s parts .., q names more are in reach within it -/
def CoreOk (e : Int) (s h p q : Nat) : Prop := ∀ {loc : D} {l : List (Int × Str)} {k : Str} {i a b at' cnt : Int} {hole : D}, Loc μ g loc l → k ∈ kinds → l.length + q ≤ 1000 → At i a at' cnt s →
  Ok2 (c 30 [.ref 0, .ref g, loc, .str k, .int e] (W μ ns g i a b at' cnt hole)) (Dr μ ns g hole at' cnt 0 s h p)
def MadeOk (e : Int) (s h p q : Nat) : Prop := ∀ {loc : D} {l : List (Int × Str)} {k : Str} {i a b at' cnt : Int} {hole : D}, Loc μ g loc l → k ∈ kinds → l.length + q ≤ 1000 → At i a at' cnt s →
  Ok2 (c 32 [.ref 0, .ref g, loc, .str k, .int e] (W μ ns g i a b at' cnt hole)) (Dr μ ns g hole at' cnt 0 s h p)
abbrev BrR (μ : Mu) (ns : List Int) (g : Nat) (hole : D) (at' cnt : Int) (asked : Str) (s h p : Nat) : D → Mu → Prop := BrRP (fun _ => True) μ ns g hole at' cnt asked s h p
/-- branches of a switch of depth e, their cores of at most s parts .. -/
def BrOk (e : Int) (s h p q : Nat) : Prop := ∀ {asked : Str} {loc : D} {l : List (Int × Str)} {k : Str} {i a b at' cnt : Int} {hole : D}, Loc μ g loc l → asked ∈ (["bool", "list"] : List Str) → k ∈ kinds → l.length + q + 2 ≤ 1000 → At i a at' cnt (2 * s + 2) →
  Ok2 (c 31 [.ref 0, .ref g, loc, .str asked, .str k, .int e] (W μ ns g i a b at' cnt hole)) (BrR μ ns g hole at' cnt asked s h p)
end
section
variable {c : Orc} {μ : Mu} {ns : List Int} {g : Nat} {s h p q : Nat}
theorem k_small (C : SmallOk c μ ns g) {loc : D} {l : List (Int × Str)} {k : Str} {i a b at' cnt : Int} {hole : D} {Q : D → Mu → Prop} (L : Loc μ g loc l) (hk : k ∈ kinds) (hl : l.length ≤ 1000) (n : 0 ≤ i ∧ 0 ≤ a ∧ 0 ≤ at' ∧ at' + (3 : Nat) ≤ 1000000 ∧ 2 ≤ cnt ∧ cnt + (3 : Nat) ≤ 1000000)
    (q : ∀ t i a b at2 cnt2, 0 ≤ i → 0 ≤ a → at' ≤ at2 → at2 ≤ at' + (3 : Nat) → cnt ≤ cnt2 → cnt2 ≤ cnt + (3 : Nat) → Tr t 0 3 1 3 cnt2 → Q t (W μ ns g i a b at2 cnt2 hole)) : Ok2 (c 29 [.ref 0, .ref g, loc, .str k] (W μ ns g i a b at' cnt hole)) Q := k_dr (C L hk hl n) q
theorem k_core {e : Int} (C : CoreOk c μ ns g e s h p q) {loc : D} {l : List (Int × Str)} {k : Str} {i a b at' cnt : Int} {hole : D} {Q : D → Mu → Prop} (L : Loc μ g loc l) (hk : k ∈ kinds) (hl : l.length + q ≤ 1000) (n : 0 ≤ i ∧ 0 ≤ a ∧ 0 ≤ at' ∧ at' + s ≤ 1000000 ∧ 2 ≤ cnt ∧ cnt + s ≤ 1000000)
    (q : ∀ t i a b at2 cnt2, 0 ≤ i → 0 ≤ a → at' ≤ at2 → at2 ≤ at' + s → cnt ≤ cnt2 → cnt2 ≤ cnt + s → Tr t 0 s h p cnt2 → Q t (W μ ns g i a b at2 cnt2 hole)) : Ok2 (c 30 [.ref 0, .ref g, loc, .str k, .int e] (W μ ns g i a b at' cnt hole)) Q := k_dr (C L hk hl n) q
theorem k_made {e : Int} (C : MadeOk c μ ns g e s h p q) {loc : D} {l : List (Int × Str)} {k : Str} {i a b at' cnt : Int} {hole : D} {Q : D → Mu → Prop} (L : Loc μ g loc l) (hk : k ∈ kinds) (hl : l.length + q ≤ 1000) (n : 0 ≤ i ∧ 0 ≤ a ∧ 0 ≤ at' ∧ at' + s ≤ 1000000 ∧ 2 ≤ cnt ∧ cnt + s ≤ 1000000)
    (q : ∀ t i a b at2 cnt2, 0 ≤ i → 0 ≤ a → at' ≤ at2 → at2 ≤ at' + s → cnt ≤ cnt2 → cnt2 ≤ cnt + s → Tr t 0 s h p cnt2 → Q t (W μ ns g i a b at2 cnt2 hole)) : Ok2 (c 32 [.ref 0, .ref g, loc, .str k, .int e] (W μ ns g i a b at' cnt hole)) Q := k_dr (C L hk hl n) q
theorem k_br {e : Int} (C : BrOk c μ ns g e s h p q) {asked : Str} {loc : D} {l : List (Int × Str)} {k : Str} {i a b at' cnt : Int} {hole : D} {Q : D → Mu → Prop} (L : Loc μ g loc l) (hs : asked ∈ (["bool", "list"] : List Str)) (hk : k ∈ kinds) (hl : l.length + q + 2 ≤ 1000) (n : 0 ≤ i ∧ 0 ≤ a ∧ 0 ≤ at' ∧ at' + (2 * s + 2 : Nat) ≤ 1000000 ∧ 2 ≤ cnt ∧ cnt + (2 * s + 2 : Nat) ≤ 1000000)
    (q : ∀ t1 t2 nm i a b at2 cnt2, 0 ≤ i → 0 ≤ a → at' ≤ at2 → at2 ≤ at' + (2 * s + 2) → cnt ≤ cnt2 → cnt2 ≤ cnt + (2 * s + 2) → Tr t1 0 s h p cnt2 → Tr t2 0 s h p cnt2 → NmOk nm cnt2 → (asked = "bool" → nm = .z) → (asked = "list" → ∃ x y, nm = .two x y) →
      Q (.tup [.tup [.tup [], t1], .tup [intsD nm, t2]]) (W μ ns g i a b at2 cnt2 hole)) : Ok2 (c 31 [.ref 0, .ref g, loc, .str asked, .str k, .int e] (W μ ns g i a b at' cnt hole)) Q := by
  obtain ⟨r, m, e, t1, t2, nm, i, a, b, at2, cnt2, rfl, rfl, n, A, B, N, z1, z2⟩ := C (b := b) (hole := hole) L hs hk hl n
  exact ⟨_, _, e, q t1 t2 nm i a b at2 cnt2 n.1 n.2.1 n.2.2.1 n.2.2.2.1 n.2.2.2.2.1 n.2.2.2.2.2 A B N z1 z2⟩
theorem lcB0 (c : Orc) (o0 o1 o2 o3 o4 o5 o6 o8 o9 : Option D) (μ : Mu) : evE c (.lc [8, 9] (.var 8) (.tp (.cons (.nm 8) (.cons (.nm 9) .nil))) (.it (.var 7)) .nil) [o0, o1, o2, o3, o4, o5, o6, some (.lst []), o8, o9] μ = some (.lst [], μ) := by kernel_rfl
theorem lcB2 (c : Orc) (o0 o1 o2 o3 o4 o5 o6 o8 o9 : Option D) (x y : Int) (s t : Str) (μ : Mu) : evE c (.lc [8, 9] (.var 8) (.tp (.cons (.nm 8) (.cons (.nm 9) .nil))) (.it (.var 7)) .nil) [o0, o1, o2, o3, o4, o5, o6, some (.lst [.tup [.int x, .str s], .tup [.int y, .str t]]), o8, o9] μ = some (.lst [.int x, .int y], μ) := by kernel_rfl
variable {pr : Int → Prop}
theorem br_b (S : Src c μ ns g) {d : Nat} (C : CoreP pr c μ ns g d s h p q) {asked : Str} {loc : D} {l : List (Int × Str)} {k : Str} {i a b at' cnt : Int} {hole : D} (L : LocP pr μ g loc l) (hs : asked ∈ (["bool", "list"] : List Str)) (hk : k ∈ kinds) (hl : l.length + q + 2 ≤ 1000) (n : At i a at' cnt (2 * s + 2)) (hn : ∀ x, cnt ≤ x → pr x) :
    Ok2 ((evSs c b__law_branches [some (.ref 0), some (.ref g), some loc, some (.str asked), some (.str k), some (.int ((d + 1 : Nat) : Int)), none, none, none, none] (W μ ns g i a b at' cnt hole)).bind retK) (BrRP pr μ ns g hole at' cnt asked s h p) := by
  obtain ⟨n1, n2, n3, n4, n5, n6⟩ := n
  refine g_call ?_
  simp only [List.mem_cons, List.not_mem_nil, or_false] at hs
  rcases hs with rfl | rfl
  · (((conv => whnf); repeat' (first | ((with_reducible refine k_coreP C (by assumption) (by first | assumption | exact sub_of (by assumption) (by decide +kernel) | exact List.elem_iff.mp (by decide +kernel)) (by omega) (by omega) (fun x hx => hn x (by omega)) ?_); intros; conv => whnf) | ((with_reducible refine k_locPN (by assumption) (by omega) ?_); intros; conv => whnf) | ((with_reducible refine k_locP1 (by assumption) (by omega) (okI_of (by omega)) (hn _ (by omega)) ?_); intros; conv => whnf) | ((with_reducible refine k_locP2 (by assumption) (by omega) ⟨okI_of (by omega), okI_of (by omega)⟩ ⟨hn _ (by omega), hn _ (by omega)⟩ ?_); intros; conv => whnf) | ((with_reducible refine k_draw S (by omega) ?_); intros; conv => whnf) | ((with_reducible refine k_here S ?_); conv => whnf) | ((with_reducible refine k_new S ?_); conv => whnf) | (refine k_pickS rfl (by simp only [List.length_cons, List.length_nil]; omega) ?_; intros; conv => whnf) | (refine k_pickI rfl (by simp only [List.length_cons, List.length_nil]; omega) ?_; intros; conv => whnf) | ((with_reducible refine ok2 (lcB0 ..) ?_); conv => whnf) | ((with_reducible refine okv (lcB0 ..) ?_); conv => whnf) | ((with_reducible refine ok2 (lcB2 ..) ?_); conv => whnf) | ((with_reducible refine okv (lcB2 ..) ?_); conv => whnf) | (refine k_eqS (t := true) (by decide +kernel) ?_; conv => whnf) | (refine k_eqS (t := false) (by decide +kernel) ?_; conv => whnf) | ((with_reducible refine k_eq0 ?_); conv => whnf) | ((with_reducible refine k_eqI ?_ ?_) <;> (intro h; conv => whnf)) | ((with_reducible refine k_gtI ?_ ?_) <;> (intro h; conv => whnf)) | ((with_reducible refine k_ltI ?_ ?_) <;> (intro h; conv => whnf)) | ((with_reducible refine k_sub1 ?_); conv => whnf) | ((with_reducible refine k_subI ?_); conv => whnf) | ((with_reducible refine k_addI ?_); conv => whnf) | ((with_reducible refine k_tuple ?_); conv => whnf) | ((with_reducible refine k_lenL ?_); conv => whnf))))
    refine Fin2.mk ?_
    exact ⟨_, _, Nm.z, _, _, _, _, _, rfl, rfl, by omega, TrP.bd (by assumption) (by omega), by assumption, nm_z, fun _ => rfl, fun h => absurd h (by decide +kernel)⟩
  · (((conv => whnf); repeat' (first | ((with_reducible refine k_coreP C (by assumption) (by first | assumption | exact sub_of (by assumption) (by decide +kernel) | exact List.elem_iff.mp (by decide +kernel)) (by omega) (by omega) (fun x hx => hn x (by omega)) ?_); intros; conv => whnf) | ((with_reducible refine k_locPN (by assumption) (by omega) ?_); intros; conv => whnf) | ((with_reducible refine k_locP1 (by assumption) (by omega) (okI_of (by omega)) (hn _ (by omega)) ?_); intros; conv => whnf) | ((with_reducible refine k_locP2 (by assumption) (by omega) ⟨okI_of (by omega), okI_of (by omega)⟩ ⟨hn _ (by omega), hn _ (by omega)⟩ ?_); intros; conv => whnf) | ((with_reducible refine k_draw S (by omega) ?_); intros; conv => whnf) | ((with_reducible refine k_here S ?_); conv => whnf) | ((with_reducible refine k_new S ?_); conv => whnf) | (refine k_pickS rfl (by simp only [List.length_cons, List.length_nil]; omega) ?_; intros; conv => whnf) | (refine k_pickI rfl (by simp only [List.length_cons, List.length_nil]; omega) ?_; intros; conv => whnf) | ((with_reducible refine ok2 (lcB0 ..) ?_); conv => whnf) | ((with_reducible refine okv (lcB0 ..) ?_); conv => whnf) | ((with_reducible refine ok2 (lcB2 ..) ?_); conv => whnf) | ((with_reducible refine okv (lcB2 ..) ?_); conv => whnf) | (refine k_eqS (t := true) (by decide +kernel) ?_; conv => whnf) | (refine k_eqS (t := false) (by decide +kernel) ?_; conv => whnf) | ((with_reducible refine k_eq0 ?_); conv => whnf) | ((with_reducible refine k_eqI ?_ ?_) <;> (intro h; conv => whnf)) | ((with_reducible refine k_gtI ?_ ?_) <;> (intro h; conv => whnf)) | ((with_reducible refine k_ltI ?_ ?_) <;> (intro h; conv => whnf)) | ((with_reducible refine k_sub1 ?_); conv => whnf) | ((with_reducible refine k_subI ?_); conv => whnf) | ((with_reducible refine k_addI ?_); conv => whnf) | ((with_reducible refine k_tuple ?_); conv => whnf) | ((with_reducible refine k_lenL ?_); conv => whnf))))
    refine Fin2.mk ?_
    exact ⟨_, _, Nm.two _ _, _, _, _, _, _, rfl, rfl, by omega, TrP.bd (by assumption) (by omega), by assumption, nm_two ⟨okI_of (by omega), okI_of (by omega)⟩ (by omega), fun h => absurd h (by decide +kernel), fun _ => ⟨_, _, rfl⟩⟩
theorem made_b (S : Src c μ ns g) {d : Nat} (C : CoreP pr c μ ns g d s h p q) {loc : D} {l : List (Int × Str)} {k : Str} {i a b at' cnt : Int} {hole : D} (L : LocP pr μ g loc l) (hk : k ∈ kinds) (hl : l.length + (q + 2) ≤ 1000) (n : At i a at' cnt (4 * s + 4)) (hn : ∀ x, cnt ≤ x → pr x) :
    Ok2 ((evSs c b__law_made [some (.ref 0), some (.ref g), some loc, some (.str k), some (.int ((d + 1 : Nat) : Int)), none, none, none, none] (W μ ns g i a b at' cnt hole)).bind retK) (DrP pr μ ns g hole at' cnt 0 (4 * s + 4) (h + 2) (p + 4)) := by
  obtain ⟨n1, n2, n3, n4, n5, n6⟩ := n
  refine g_call ?_
  simp only [kinds, List.mem_cons, List.not_mem_nil, or_false] at hk
  rcases hk with rfl | rfl | rfl | rfl | rfl
  all_goals (((conv => whnf); repeat' (first | ((with_reducible refine k_coreP C (by assumption) (by first | assumption | exact sub_of (by assumption) (by decide +kernel) | exact List.elem_iff.mp (by decide +kernel)) (by omega) (by omega) (fun x hx => hn x (by omega)) ?_); intros; conv => whnf) | ((with_reducible refine k_locPN (by assumption) (by omega) ?_); intros; conv => whnf) | ((with_reducible refine k_locP1 (by assumption) (by omega) (okI_of (by omega)) (hn _ (by omega)) ?_); intros; conv => whnf) | ((with_reducible refine k_locP2 (by assumption) (by omega) ⟨okI_of (by omega), okI_of (by omega)⟩ ⟨hn _ (by omega), hn _ (by omega)⟩ ?_); intros; conv => whnf) | ((with_reducible refine k_draw S (by omega) ?_); intros; conv => whnf) | ((with_reducible refine k_here S ?_); conv => whnf) | ((with_reducible refine k_new S ?_); conv => whnf) | (refine k_pickS rfl (by simp only [List.length_cons, List.length_nil]; omega) ?_; intros; conv => whnf) | (refine k_pickI rfl (by simp only [List.length_cons, List.length_nil]; omega) ?_; intros; conv => whnf) | (refine k_eqS (t := true) (by decide +kernel) ?_; conv => whnf) | (refine k_eqS (t := false) (by decide +kernel) ?_; conv => whnf) | ((with_reducible refine k_eq0 ?_); conv => whnf) | ((with_reducible refine k_eqI ?_ ?_) <;> (intro h; conv => whnf)) | ((with_reducible refine k_gtI ?_ ?_) <;> (intro h; conv => whnf)) | ((with_reducible refine k_ltI ?_ ?_) <;> (intro h; conv => whnf)) | ((with_reducible refine k_sub1 ?_); conv => whnf) | ((with_reducible refine k_subI ?_); conv => whnf) | ((with_reducible refine k_addI ?_); conv => whnf) | ((with_reducible refine k_tuple ?_); conv => whnf) | ((with_reducible refine k_lenL ?_); conv => whnf))))
  all_goals (refine Fin2.mk ?_; refine dr_i (by omega) ?_; apply TrP.upS; (repeat' (first | (with_reducible refine And.intro ?_ ?_) | (exact TrP.bd (by assumption) (by omega)) | (exact trivial) | (exact NmOk.bd (by assumption) (by omega)) | (exact okI_of (by omega)) | (exact okI_lit (by assumption) (by decide)) | (exact sub_of (by assumption) (by decide +kernel)) | (exact List.elem_iff.mp (by decide +kernel)) | (with_reducible apply tr_num) | (with_reducible apply tr_loc) | (with_reducible apply tr_top) | (with_reducible exact tr_hole) | (with_reducible apply tr_dat0) | (with_reducible apply tr_fn) | (with_reducible apply tr_read) | (with_reducible apply tr_cell) | (with_reducible apply tr_print) | (with_reducible apply tr_let) | (with_reducible apply tr_callby) | (with_reducible apply tr_call) | (with_reducible apply tr_dat2) | (with_reducible apply tr_op) | (with_reducible apply tr_write) | (with_reducible apply tr_swB) | (with_reducible apply tr_sw0) | (with_reducible apply tr_sw2) | (omega))))
theorem core_b0 (S : Src c μ ns g) (C : SmallP pr c μ ns g) {loc : D} {l : List (Int × Str)} {k : Str} {i a b at' cnt : Int} {hole : D} (L : LocP pr μ g loc l) (hk : k ∈ kinds) (hl : l.length ≤ 1000) (n : At i a at' cnt 3) :
    Ok2 ((evSs c b__law_core [some (.ref 0), some (.ref g), some loc, some (.str k), some (.int 0), none, none, none, none, none, none, none] (W μ ns g i a b at' cnt hole)).bind retK) (DrP pr μ ns g hole at' cnt 0 3 1 3) := by
  obtain ⟨n1, n2, n3, n4, n5, n6⟩ := n
  refine g_call ?_
  ((conv => whnf); repeat' (first | ((with_reducible refine k_smallP C (by assumption) (by first | assumption | exact sub_of (by assumption) (by decide +kernel) | exact List.elem_iff.mp (by decide +kernel)) (by omega) (by omega) ?_); intros; conv => whnf) | ((with_reducible refine k_eq00 ?_); conv => whnf) | ((with_reducible refine k_draw S (by omega) ?_); intros; conv => whnf) | ((with_reducible refine k_here S ?_); conv => whnf) | ((with_reducible refine k_new S ?_); conv => whnf) | (refine k_pickS rfl (by simp only [List.length_cons, List.length_nil]; omega) ?_; intros; conv => whnf) | (refine k_pickI rfl (by simp only [List.length_cons, List.length_nil]; omega) ?_; intros; conv => whnf) | (refine k_eqS (t := true) (by decide +kernel) ?_; conv => whnf) | (refine k_eqS (t := false) (by decide +kernel) ?_; conv => whnf) | ((with_reducible refine k_eq0 ?_); conv => whnf) | ((with_reducible refine k_eqI ?_ ?_) <;> (intro h; conv => whnf)) | ((with_reducible refine k_gtI ?_ ?_) <;> (intro h; conv => whnf)) | ((with_reducible refine k_ltI ?_ ?_) <;> (intro h; conv => whnf)) | ((with_reducible refine k_sub1 ?_); conv => whnf) | ((with_reducible refine k_subI ?_); conv => whnf) | ((with_reducible refine k_addI ?_); conv => whnf) | ((with_reducible refine k_tuple ?_); conv => whnf) | ((with_reducible refine k_lenL ?_); conv => whnf)))
  all_goals (refine Fin2.mk ?_; refine dr_i (by omega) ?_; apply TrP.upS; (repeat' (first | (with_reducible refine And.intro ?_ ?_) | (exact TrP.bd (by assumption) (by omega)) | (exact trivial) | (exact NmOk.bd (by assumption) (by omega)) | (exact okI_of (by omega)) | (exact okI_lit (by assumption) (by decide)) | (exact sub_of (by assumption) (by decide +kernel)) | (exact List.elem_iff.mp (by decide +kernel)) | (with_reducible apply tr_num) | (with_reducible apply tr_loc) | (with_reducible apply tr_top) | (with_reducible exact tr_hole) | (with_reducible apply tr_dat0) | (with_reducible apply tr_fn) | (with_reducible apply tr_read) | (with_reducible apply tr_cell) | (with_reducible apply tr_print) | (with_reducible apply tr_let) | (with_reducible apply tr_callby) | (with_reducible apply tr_call) | (with_reducible apply tr_dat2) | (with_reducible apply tr_op) | (with_reducible apply tr_write) | (with_reducible apply tr_swB) | (with_reducible apply tr_sw0) | (with_reducible apply tr_sw2) | (omega))))
theorem core_b (S : Src c μ ns g) {d : Nat} (C0 : SmallP pr c μ ns g) (C : CoreP pr c μ ns g d s h p q) (M : MadeP pr c μ ns g ((d + 1 : Nat) : Int) (4 * s + 4) (h + 2) (p + 4) (q + 2)) (B : BrP pr c μ ns g ((d + 1 : Nat) : Int) s h p q) {loc : D} {l : List (Int × Str)} {k : Str} {i a b at' cnt : Int} {hole : D} (L : LocP pr μ g loc l) (hk : k ∈ kinds) (hl : l.length + (q + 2) ≤ 1000) (hm : 3 ≤ s ∧ 1 ≤ h ∧ 3 ≤ p) (n : At i a at' cnt (4 * s + 4)) (hn : ∀ x, cnt ≤ x → pr x) :
    Ok2 ((evSs c b__law_core [some (.ref 0), some (.ref g), some loc, some (.str k), some (.int ((d + 1 : Nat) : Int)), none, none, none, none, none, none, none] (W μ ns g i a b at' cnt hole)).bind retK) (DrP pr μ ns g hole at' cnt 0 (4 * s + 4) (h + 2) (p + 4)) := by
  obtain ⟨n1, n2, n3, n4, n5, n6⟩ := n
  refine g_call ?_
  ((conv => whnf); repeat' (first | ((with_reducible refine k_smallP C0 (by assumption) (by first | assumption | exact sub_of (by assumption) (by decide +kernel) | exact List.elem_iff.mp (by decide +kernel)) (by omega) (by omega) ?_); intros; conv => whnf) | ((with_reducible refine k_coreP C (by assumption) (by first | assumption | exact sub_of (by assumption) (by decide +kernel) | exact List.elem_iff.mp (by decide +kernel)) (by omega) (by omega) (fun x hx => hn x (by omega)) ?_); intros; conv => whnf) | ((with_reducible refine k_madeP M (by assumption) (by first | assumption | exact sub_of (by assumption) (by decide +kernel) | exact List.elem_iff.mp (by decide +kernel)) (by omega) (by omega) (fun x hx => hn x (by omega)) ?_); intros; conv => whnf) | ((with_reducible refine k_brP B (by assumption) (by first | assumption | exact List.elem_iff.mp (by decide +kernel)) (by first | assumption | exact sub_of (by assumption) (by decide +kernel) | exact List.elem_iff.mp (by decide +kernel)) (by omega) (by omega) (fun x hx => hn x (by omega)) ?_); intros; conv => whnf) | ((with_reducible refine k_locPN (by assumption) (by omega) ?_); intros; conv => whnf) | ((with_reducible refine k_locP1 (by assumption) (by omega) (okI_of (by omega)) (hn _ (by omega)) ?_); intros; conv => whnf) | ((with_reducible refine k_locP2 (by assumption) (by omega) ⟨okI_of (by omega), okI_of (by omega)⟩ ⟨hn _ (by omega), hn _ (by omega)⟩ ?_); intros; conv => whnf) | ((with_reducible refine k_draw S (by omega) ?_); intros; conv => whnf) | ((with_reducible refine k_here S ?_); conv => whnf) | ((with_reducible refine k_new S ?_); conv => whnf) | (refine k_pickS rfl (by simp only [List.length_cons, List.length_nil]; omega) ?_; intros; conv => whnf) | (refine k_pickI rfl (by simp only [List.length_cons, List.length_nil]; omega) ?_; intros; conv => whnf) | (refine k_eqS (t := true) (by decide +kernel) ?_; conv => whnf) | (refine k_eqS (t := false) (by decide +kernel) ?_; conv => whnf) | ((with_reducible refine k_eq0 ?_); conv => whnf) | ((with_reducible refine k_eqI ?_ ?_) <;> (intro h; conv => whnf)) | ((with_reducible refine k_gtI ?_ ?_) <;> (intro h; conv => whnf)) | ((with_reducible refine k_ltI ?_ ?_) <;> (intro h; conv => whnf)) | ((with_reducible refine k_sub1 ?_); conv => whnf) | ((with_reducible refine k_subI ?_); conv => whnf) | ((with_reducible refine k_addI ?_); conv => whnf) | ((with_reducible refine k_tuple ?_); conv => whnf) | ((with_reducible refine k_lenL ?_); conv => whnf)))
  all_goals (refine Fin2.mk ?_; refine dr_i (by omega) ?_; apply TrP.upS; (repeat' (first | (with_reducible refine And.intro ?_ ?_) | (exact TrP.bd (by assumption) (by omega)) | (exact trivial) | (exact NmOk.bd (by assumption) (by omega)) | (exact okI_of (by omega)) | (exact okI_lit (by assumption) (by decide)) | (exact sub_of (by assumption) (by decide +kernel)) | (exact List.elem_iff.mp (by decide +kernel)) | (with_reducible apply tr_num) | (with_reducible apply tr_loc) | (with_reducible apply tr_top) | (with_reducible exact tr_hole) | (with_reducible apply tr_dat0) | (with_reducible apply tr_fn) | (with_reducible apply tr_read) | (with_reducible apply tr_cell) | (with_reducible apply tr_print) | (with_reducible apply tr_let) | (with_reducible apply tr_callby) | (with_reducible apply tr_call) | (with_reducible apply tr_dat2) | (with_reducible apply tr_op) | (with_reducible apply tr_write) | (with_reducible apply tr_swB) | (with_reducible apply tr_sw0) | (with_reducible apply tr_sw2) | (omega))))
end
end Pl

namespace Pl
open PySem L2
/-- the names in reach, all below b -/
structure LocB (μ : Mu) (g : Nat) (d : D) (l : List (Int × Str)) (b : Int) : Prop where
  loc : Loc μ g d l
  lt : ∀ q ∈ l, q.1 < b
theorem LocB.up {μ : Mu} {g : Nat} {d : D} {l : List (Int × Str)} {b b' : Int} (L : LocB μ g d l b) (h : b ≤ b') : LocB μ g d l b' := ⟨L.loc, fun q hq => Int.lt_of_lt_of_le (L.lt q hq) h⟩
section
variable {μ : Mu} {ns : List Int} {g : Nat} {i a b at' cnt B : Int} {hole : D}
theorem k_locNB {loc : D} {l : List (Int × Str)} {Q : D → Prop} (L : LocB μ g loc l B) (h : l.length ≤ 1000) (q : ∀ loc', LocB μ g loc' l B → Q loc') : OkV (binM (W μ ns g i a b at' cnt hole) .Add loc (.lst [])) Q :=
  k_locN L.loc h fun loc' h => q loc' ⟨h, L.lt⟩
theorem k_loc1B {loc : D} {l : List (Int × Str)} {x : Int} {s : Str} {Q : D → Prop} (L : LocB μ g loc l B) (h : l.length + 1 ≤ 1000) (ok : okI x) (hx : x < cnt ∧ B ≤ cnt) (q : ∀ loc' l', LocB μ g loc' l' cnt → l'.length = l.length + 1 → Q loc') : OkV (binM (W μ ns g i a b at' cnt hole) .Add loc (.lst [.tup [.int x, .str s]])) Q :=
  k_locP1 (pr := fun x => x < cnt) ⟨L.loc, fun q hq => Int.lt_of_lt_of_le (L.lt q hq) hx.2⟩ h ok hx.1 fun loc' l' h e => q loc' l' ⟨h.loc, h.av⟩ e
theorem k_loc2B {loc : D} {l : List (Int × Str)} {x y : Int} {s t : Str} {Q : D → Prop} (L : LocB μ g loc l B) (h : l.length + 2 ≤ 1000) (ok : okI x ∧ okI y) (hx : x < cnt ∧ y < cnt ∧ B ≤ cnt) (q : ∀ loc' l', LocB μ g loc' l' cnt → l'.length = l.length + 2 → Q loc') : OkV (binM (W μ ns g i a b at' cnt hole) .Add loc (.lst [.tup [.int x, .str s], .tup [.int y, .str t]])) Q :=
  k_locP2 (pr := fun x => x < cnt) ⟨L.loc, fun q hq => Int.lt_of_lt_of_le (L.lt q hq) hx.2.2⟩ h ok ⟨hx.1, hx.2.1⟩ fun loc' l' h e => q loc' l' ⟨h.loc, h.av⟩ e
end
section
variable (μ : Mu) (ns : List Int) (g : Nat)
/-- a tree with one hole is drawn, the bag tells of it -/
def ArR (at' cnt : Int) (n s h p : Nat) (r : D) (m : Mu) : Prop :=
  ∃ i a b at2 cnt2 k' loc' l', m = W μ ns g i a b at2 cnt2 (.tup [.str k', loc']) ∧ (0 ≤ i ∧ 0 ≤ a ∧ at' ≤ at2 ∧ at2 ≤ at' + s ∧ cnt ≤ cnt2 ∧ cnt2 ≤ cnt + s) ∧ Tr r 1 s h p cnt2 ∧ k' ∈ kinds ∧ LocB μ g loc' l' cnt2 ∧ l'.length ≤ n
def AroundOk (f : Nat) (c : Orc) (e : Int) (s h p q : Nat) : Prop := ∀ {loc : D} {l : List (Int × Str)} {k : Str} {i a b at' cnt : Int} {hole : D}, LocB μ g loc l cnt → k ∈ kinds → l.length + q ≤ 1000 → At i a at' cnt s →
  Ok2 (c f [.ref 0, .ref g, loc, .str k, .int e] (W μ ns g i a b at' cnt hole)) (ArR μ ns g at' cnt (l.length + q) s h p)
end
section
variable {c : Orc} {μ : Mu} {ns : List Int} {g : Nat} {s h p q : Nat}
theorem ar_i {i a b at' cnt at1 cnt1 : Int} {n : Nat} {r : D} {k : Str} {loc : D} {l : List (Int × Str)} (n1 : 0 ≤ i ∧ 0 ≤ a ∧ at1 ≤ at' ∧ at' ≤ at1 + s ∧ cnt1 ≤ cnt ∧ cnt ≤ cnt1 + s) (hk : k ∈ kinds) {B : Int} (L : LocB μ g loc l B) (hB : B ≤ cnt) (hl : l.length ≤ n) (t : Tr r 1 s h p cnt) : ArR μ ns g at1 cnt1 n s h p r (W μ ns g i a b at' cnt (.tup [.str k, loc])) := ⟨_, _, _, _, _, _, _, _, rfl, n1, t, hk, L.up hB, hl⟩
theorem k_around {f : Nat} {e : Int} (C : AroundOk μ ns g f c e s h p q) {loc : D} {l : List (Int × Str)} {k : Str} {i a b at' cnt : Int} {hole : D} {B : Int} {Q : D → Mu → Prop} (L : LocB μ g loc l B) (hB : B ≤ cnt) (hk : k ∈ kinds) (hl : l.length + q ≤ 1000) (n : 0 ≤ i ∧ 0 ≤ a ∧ 0 ≤ at' ∧ at' + s ≤ 1000000 ∧ 2 ≤ cnt ∧ cnt + s ≤ 1000000)
    (Hq : ∀ t i a b at2 cnt2 k' loc' l', 0 ≤ i → 0 ≤ a → at' ≤ at2 → at2 ≤ at' + s → cnt ≤ cnt2 → cnt2 ≤ cnt + s → Tr t 1 s h p cnt2 → k' ∈ kinds → LocB μ g loc' l' cnt2 → l'.length ≤ l.length + q → Q t (W μ ns g i a b at2 cnt2 (.tup [.str k', loc']))) : Ok2 (c f [.ref 0, .ref g, loc, .str k, .int e] (W μ ns g i a b at' cnt hole)) Q := by
  obtain ⟨t, m, e, i, a, b, at2, cnt2, k', loc', l', rfl, n, A, K, L', z⟩ := C (b := b) (hole := hole) (L.up hB) hk hl n
  exact ⟨t, _, e, Hq t i a b at2 cnt2 k' loc' l' n.1 n.2.1 n.2.2.1 n.2.2.2.1 n.2.2.2.2.1 n.2.2.2.2.2 A K L' z⟩
theorem lcA2 (c : Orc) (o0 o1 o2 o3 o4 o5 o6 o7 o8 o9 o11 o12 o13 : Option D) (x y : Int) (s t : Str) (μ : Mu) : evE c (.lc [8, 13] (.var 8) (.tp (.cons (.nm 8) (.cons (.nm 13) .nil))) (.it (.var 10)) .nil) [o0, o1, o2, o3, o4, o5, o6, o7, o8, o9, some (.lst [.tup [.int x, .str s], .tup [.int y, .str t]]), o11, o12, o13] μ = some (.lst [.int x, .int y], μ) := by kernel_rfl
theorem k_sethole {i a b at' cnt : Int} {hole d : D} {Q : Mu → Prop} (hg : 0 < g ∧ g < μ.length) (q : Q (W μ ns g i a b at' cnt d)) : OkV (setD (W μ ns g i a b at' cnt hole) (.ref g) (.str "hole") d) Q := ⟨_, q_hole hg.1 hg.2, q⟩
theorem around_b0 (hg : 0 < g ∧ g < μ.length) {loc : D} {l : List (Int × Str)} {k : Str} {i a b at' cnt : Int} {hole : D} (L : LocB μ g loc l cnt) (hk : k ∈ kinds) (n : At i a at' cnt s) (hm : 1 ≤ s ∧ 2 ≤ p) :
    Ok2 ((evSs c b__law_around [some (.ref 0), some (.ref g), some loc, some (.str k), some (.int 0), none, none, none, none, none, none, none, none, none] (W μ ns g i a b at' cnt hole)).bind retK) (ArR μ ns g at' cnt (l.length + q) s h p) := by
  obtain ⟨n1, n2, n3, n4, n5, n6⟩ := n
  refine g_call ?_
  ((conv => whnf); repeat' (first | ((with_reducible refine k_sethole hg ?_); conv => whnf) | ((with_reducible refine k_eq00 ?_); conv => whnf) | ((with_reducible refine k_draw S (by omega) ?_); intros; conv => whnf) | ((with_reducible refine k_here S ?_); conv => whnf) | ((with_reducible refine k_new S ?_); conv => whnf) | (refine k_pickS rfl (by simp only [List.length_cons, List.length_nil]; omega) ?_; intros; conv => whnf) | (refine k_pickI rfl (by simp only [List.length_cons, List.length_nil]; omega) ?_; intros; conv => whnf) | (refine k_eqS (t := true) (by decide +kernel) ?_; conv => whnf) | (refine k_eqS (t := false) (by decide +kernel) ?_; conv => whnf) | ((with_reducible refine k_eq0 ?_); conv => whnf) | ((with_reducible refine k_eqI ?_ ?_) <;> (intro h; conv => whnf)) | ((with_reducible refine k_gtI ?_ ?_) <;> (intro h; conv => whnf)) | ((with_reducible refine k_ltI ?_ ?_) <;> (intro h; conv => whnf)) | ((with_reducible refine k_sub1 ?_); conv => whnf) | ((with_reducible refine k_subI ?_); conv => whnf) | ((with_reducible refine k_addI ?_); conv => whnf) | ((with_reducible refine k_tuple ?_); conv => whnf) | ((with_reducible refine k_lenL ?_); conv => whnf)))
  all_goals exact Fin2.mk <| ar_i (by omega) (by assumption) (by assumption) (by omega) (by omega) (TrP.upS tr_hole (by omega))
section
variable (S : Src c μ ns g) {d : Nat} (C1 : CoreOk c μ ns g 1 16 3 7 2) (C2 : CoreOk c μ ns g 2 68 5 11 4)
include S C1 C2
theorem around_made_b (A : AroundOk μ ns g 33 c (d : Nat) s h p q) {loc : D} {l : List (Int × Str)} {k : Str} {i a b at' cnt : Int} {hole : D} (L : LocB μ g loc l cnt) (hk : k ∈ kinds) (hl : l.length + (q + 2) ≤ 1000) (hm : 6 ≤ h ∧ 11 ≤ p ∧ 4 ≤ q) (n : At i a at' cnt (s + 72)) :
    Ok2 ((evSs c b__law_around_made [some (.ref 0), some (.ref g), some loc, some (.str k), some (.int ((d + 1 : Nat) : Int)), none, none, none] (W μ ns g i a b at' cnt hole)).bind retK) (ArR μ ns g at' cnt (l.length + (q + 2)) (s + 72) (h + 1) (p + 3)) := by
  obtain ⟨n1, n2, n3, n4, n5, n6⟩ := n
  refine g_call ?_
  simp only [kinds, List.mem_cons, List.not_mem_nil, or_false] at hk
  rcases hk with rfl | rfl | rfl | rfl | rfl
  all_goals (((conv => whnf); repeat' (first | ((with_reducible refine k_core C1 (LocB.loc (by assumption)) (by first | assumption | exact sub_of (by assumption) (by decide +kernel) | exact List.elem_iff.mp (by decide +kernel)) (by omega) (by omega) ?_); intros; conv => whnf) | ((with_reducible refine k_core C2 (LocB.loc (by assumption)) (by first | assumption | exact sub_of (by assumption) (by decide +kernel) | exact List.elem_iff.mp (by decide +kernel)) (by omega) (by omega) ?_); intros; conv => whnf) | ((with_reducible refine k_around A (by assumption) (by omega) (by first | assumption | exact sub_of (by assumption) (by decide +kernel) | exact List.elem_iff.mp (by decide +kernel)) (by omega) (by omega) ?_); intros; conv => whnf) | ((with_reducible refine k_locNB (by assumption) (by omega) ?_); intros; conv => whnf) | ((with_reducible refine k_loc1B (by assumption) (by omega) (okI_of (by omega)) (by omega) ?_); intros; conv => whnf) | ((with_reducible refine k_loc2B (by assumption) (by omega) ⟨okI_of (by omega), okI_of (by omega)⟩ (by omega) ?_); intros; conv => whnf) | ((with_reducible refine k_draw S (by omega) ?_); intros; conv => whnf) | ((with_reducible refine k_here S ?_); conv => whnf) | ((with_reducible refine k_new S ?_); conv => whnf) | (refine k_pickS rfl (by simp only [List.length_cons, List.length_nil]; omega) ?_; intros; conv => whnf) | (refine k_pickI rfl (by simp only [List.length_cons, List.length_nil]; omega) ?_; intros; conv => whnf) | (refine k_eqS (t := true) (by decide +kernel) ?_; conv => whnf) | (refine k_eqS (t := false) (by decide +kernel) ?_; conv => whnf) | ((with_reducible refine k_eq0 ?_); conv => whnf) | ((with_reducible refine k_eqI ?_ ?_) <;> (intro h; conv => whnf)) | ((with_reducible refine k_gtI ?_ ?_) <;> (intro h; conv => whnf)) | ((with_reducible refine k_ltI ?_ ?_) <;> (intro h; conv => whnf)) | ((with_reducible refine k_sub1 ?_); conv => whnf) | ((with_reducible refine k_subI ?_); conv => whnf) | ((with_reducible refine k_addI ?_); conv => whnf) | ((with_reducible refine k_tuple ?_); conv => whnf) | ((with_reducible refine k_lenL ?_); conv => whnf))))
  all_goals (refine Fin2.mk ?_; refine ar_i (by omega) (by assumption) (by assumption) (by omega) (by omega) ?_; apply TrP.upS; (repeat' (first | (with_reducible refine And.intro ?_ ?_) | (exact TrP.bd (by assumption) (by omega)) | (exact trivial) | (exact NmOk.bd (by assumption) (by omega)) | (exact okI_of (by omega)) | (exact okI_lit (by assumption) (by decide)) | (exact sub_of (by assumption) (by decide +kernel)) | (exact List.elem_iff.mp (by decide +kernel)) | (with_reducible apply tr_num) | (with_reducible apply tr_loc) | (with_reducible apply tr_top) | (with_reducible exact tr_hole) | (with_reducible apply tr_dat0) | (with_reducible apply tr_fn) | (with_reducible apply tr_read) | (with_reducible apply tr_cell) | (with_reducible apply tr_print) | (with_reducible apply tr_let) | (with_reducible apply tr_callby) | (with_reducible apply tr_call) | (with_reducible apply tr_dat2) | (with_reducible apply tr_op) | (with_reducible apply tr_write) | (with_reducible apply tr_swB) | (with_reducible apply tr_sw0) | (with_reducible apply tr_sw2) | (omega))))
theorem around_b (A : AroundOk μ ns g 33 c (d : Nat) s h p q) (M : AroundOk μ ns g 34 c ((d + 1 : Nat) : Int) (s + 72) (h + 1) (p + 3) (q + 2)) (B : BrOk c μ ns g 2 16 3 7 2) {loc : D} {l : List (Int × Str)} {k : Str} {i a b at' cnt : Int} {hole : D} (L : LocB μ g loc l cnt) (hk : k ∈ kinds) (hl : l.length + (q + 2) ≤ 1000) (hm : 6 ≤ h ∧ 11 ≤ p ∧ 4 ≤ q) (n : At i a at' cnt (s + 72)) :
    Ok2 ((evSs c b__law_around [some (.ref 0), some (.ref g), some loc, some (.str k), some (.int ((d + 1 : Nat) : Int)), none, none, none, none, none, none, none, none, none] (W μ ns g i a b at' cnt hole)).bind retK) (ArR μ ns g at' cnt (l.length + (q + 2)) (s + 72) (h + 1) (p + 3)) := by
  obtain ⟨n1, n2, n3, n4, n5, n6⟩ := n
  refine g_call ?_
  ((conv => whnf); repeat' (first | ((with_reducible refine k_core C1 (LocB.loc (by assumption)) (by first | assumption | exact sub_of (by assumption) (by decide +kernel) | exact List.elem_iff.mp (by decide +kernel)) (by omega) (by omega) ?_); intros; conv => whnf) | ((with_reducible refine k_core C2 (LocB.loc (by assumption)) (by first | assumption | exact sub_of (by assumption) (by decide +kernel) | exact List.elem_iff.mp (by decide +kernel)) (by omega) (by omega) ?_); intros; conv => whnf) | ((with_reducible refine k_around A (by assumption) (by omega) (by first | assumption | exact sub_of (by assumption) (by decide +kernel) | exact List.elem_iff.mp (by decide +kernel)) (by omega) (by omega) ?_); intros; conv => whnf) | ((with_reducible refine k_around M (by assumption) (by omega) (by first | assumption | exact sub_of (by assumption) (by decide +kernel) | exact List.elem_iff.mp (by decide +kernel)) (by omega) (by omega) ?_); intros; conv => whnf) | ((with_reducible refine k_br B (LocB.loc (by assumption)) (by first | assumption | exact List.elem_iff.mp (by decide +kernel)) (by first | assumption | exact sub_of (by assumption) (by decide +kernel) | exact List.elem_iff.mp (by decide +kernel)) (by omega) (by omega) ?_); intros; conv => whnf) | ((with_reducible refine k_locNB (by assumption) (by omega) ?_); intros; conv => whnf) | ((with_reducible refine k_loc1B (by assumption) (by omega) (okI_of (by omega)) (by omega) ?_); intros; conv => whnf) | ((with_reducible refine k_loc2B (by assumption) (by omega) ⟨okI_of (by omega), okI_of (by omega)⟩ (by omega) ?_); intros; conv => whnf) | ((with_reducible refine k_draw S (by omega) ?_); intros; conv => whnf) | ((with_reducible refine k_here S ?_); conv => whnf) | ((with_reducible refine k_new S ?_); conv => whnf) | (refine k_pickS rfl (by simp only [List.length_cons, List.length_nil]; omega) ?_; intros; conv => whnf) | (refine k_pickI rfl (by simp only [List.length_cons, List.length_nil]; omega) ?_; intros; conv => whnf) | ((with_reducible refine ok2 (lcA2 ..) ?_); conv => whnf) | ((with_reducible refine okv (lcA2 ..) ?_); conv => whnf) | (refine k_eqS (t := true) (by decide +kernel) ?_; conv => whnf) | (refine k_eqS (t := false) (by decide +kernel) ?_; conv => whnf) | ((with_reducible refine k_eq0 ?_); conv => whnf) | ((with_reducible refine k_eqI ?_ ?_) <;> (intro h; conv => whnf)) | ((with_reducible refine k_gtI ?_ ?_) <;> (intro h; conv => whnf)) | ((with_reducible refine k_ltI ?_ ?_) <;> (intro h; conv => whnf)) | ((with_reducible refine k_sub1 ?_); conv => whnf) | ((with_reducible refine k_subI ?_); conv => whnf) | ((with_reducible refine k_addI ?_); conv => whnf) | ((with_reducible refine k_tuple ?_); conv => whnf) | ((with_reducible refine k_lenL ?_); conv => whnf)))
  all_goals (refine Fin2.mk ?_; refine ar_i (by omega) (by assumption) (by assumption) (by omega) (by omega) ?_; apply TrP.upS; (repeat' (first | (with_reducible refine And.intro ?_ ?_) | (exact TrP.bd (by assumption) (by omega)) | (exact trivial) | (exact NmOk.bd (by assumption) (by omega)) | (exact okI_of (by omega)) | (exact okI_lit (by assumption) (by decide)) | (exact sub_of (by assumption) (by decide +kernel)) | (exact List.elem_iff.mp (by decide +kernel)) | (with_reducible apply tr_num) | (with_reducible apply tr_loc) | (with_reducible apply tr_top) | (with_reducible exact tr_hole) | (with_reducible apply tr_dat0) | (with_reducible apply tr_fn) | (with_reducible apply tr_read) | (with_reducible apply tr_cell) | (with_reducible apply tr_print) | (with_reducible apply tr_let) | (with_reducible apply tr_callby) | (with_reducible apply tr_call) | (with_reducible apply tr_dat2) | (with_reducible apply tr_op) | (with_reducible apply tr_write) | (with_reducible apply tr_swB) | (with_reducible apply tr_sw0) | (with_reducible apply tr_sw2) | (omega))))
end
end
end Pl

namespace Pl
open PySem L2
def cs : Nat → Nat
  | 0 => 3
  | d + 1 => 4 * cs d + 4
theorem cs_le : ∀ d, 3 ≤ cs d
  | 0 => Nat.le_refl _
  | d + 1 => by have := cs_le d; simp only [cs]; omega
section
variable (R : List PDef) {μ : Mu} {ns : List Int} {g : Nat}
theorem small_okP (pr : Int → Prop) (hg : 0 < g ∧ g < μ.length) {n : Nat} (h : 2 ≤ n) : SmallP pr (callF (Pc ++ R) n) μ ns g := by
  obtain ⟨m, rfl⟩ : ∃ m, n = m + 2 := ⟨n - 2, by omega⟩
  intro loc l k i a b at' cnt hole L hk hl n
  rw [cf__law_small]
  exact small_b (src_at R m hg.1 hg.2) L hk hl n
theorem small_ok (hg : 0 < g ∧ g < μ.length) {n : Nat} (h : 2 ≤ n) : SmallOk (callF (Pc ++ R) n) μ ns g := by
  intro loc l k i a b at' cnt hole L hk hl n
  exact small_okP R _ hg h ⟨L, fun q _ => trivial⟩ hk hl n
theorem core_okP (pr : Int → Prop) (hg : 0 < g ∧ g < μ.length) (d : Nat) : ∀ n : Nat, 2 * d + 3 ≤ n → CoreP pr (callF (Pc ++ R) n) μ ns g (d : Nat) (cs d) (2 * d + 1) (4 * d + 3) (2 * d) := by
  induction d with
  | zero =>
    intro n h
    obtain ⟨m, rfl⟩ : ∃ m, n = m + 3 := ⟨n - 3, by omega⟩
    intro loc l k i a b at' cnt hole L hk hl nn hn
    rw [cf__law_core]
    exact core_b0 (src_at R (m + 1) hg.1 hg.2) (@small_okP R μ ns g pr hg _ (by omega)) L hk hl nn
  | succ d ih =>
    intro n h
    obtain ⟨m, rfl⟩ : ∃ m, n = m + 3 := ⟨n - 3, by omega⟩
    have S2 := src_at (ns := ns) R (m + 1) hg.1 hg.2
    have S1 := src_at (ns := ns) R m hg.1 hg.2
    have C2 := @ih (m + 2) (by omega)
    have C1 := @ih (m + 1) (by omega)
    have hc := cs_le d
    have M : MadeP pr (callF (Pc ++ R) (m + 2)) μ ns g ((d + 1 : Nat) : Int) (4 * cs d + 4) ((2 * d + 1) + 2) ((4 * d + 3) + 4) (2 * d + 2) := by
      intro loc l k i a b at' cnt hole L hk hl n hn
      rw [cf__law_made]
      exact made_b S1 C1 L hk hl n hn
    have B : BrP pr (callF (Pc ++ R) (m + 2)) μ ns g ((d + 1 : Nat) : Int) (cs d) (2 * d + 1) (4 * d + 3) (2 * d) := by
      intro asked loc l k i a b at' cnt hole L hs hk hl n hn
      rw [cf__law_branches]
      exact br_b S1 C1 L hs hk hl n hn
    intro loc l k i a b at' cnt hole L hk hl nn hn
    rw [cf__law_core]
    exact core_b S2 (@small_okP R μ ns g pr hg _ (by omega)) C2 M B L hk hl ⟨hc, by omega, by omega⟩ nn hn
theorem core_ok (hg : 0 < g ∧ g < μ.length) (d n : Nat) (h : 2 * d + 3 ≤ n) : CoreOk (callF (Pc ++ R) n) μ ns g (d : Nat) (cs d) (2 * d + 1) (4 * d + 3) (2 * d) := by
  intro loc l k i a b at' cnt hole L hk hl nn
  exact core_okP R _ hg d n h ⟨L, fun q _ => trivial⟩ hk hl nn (fun x _ => trivial)
theorem br_ok (hg : 0 < g ∧ g < μ.length) (d n : Nat) (h : 2 * d + 4 ≤ n) : BrOk (callF (Pc ++ R) n) μ ns g ((d + 1 : Nat) : Int) (cs d) (2 * d + 1) (4 * d + 3) (2 * d) := by
  obtain ⟨m, rfl⟩ : ∃ m, n = m + 2 := ⟨n - 2, by omega⟩
  intro asked loc l k i a b at' cnt hole L hs hk hl n
  rw [cf__law_branches]
  exact br_b (src_at R m hg.1 hg.2) (@core_okP R μ ns g _ hg d (m + 1) (by omega)) ⟨L, fun q _ => trivial⟩ hs hk hl n (fun x _ => trivial)
theorem around_ok (hg : 0 < g ∧ g < μ.length) (d : Nat) : ∀ n : Nat, 2 * d + 9 ≤ n → AroundOk μ ns g 33 (callF (Pc ++ R) n) (d : Nat) (72 * d + 1) (d + 6) (3 * d + 11) (2 * d + 8) := by
  induction d with
  | zero =>
    intro n h
    obtain ⟨m, rfl⟩ : ∃ m, n = m + 3 := ⟨n - 3, by omega⟩
    intro loc l k i a b at' cnt hole L hk hl nn
    rw [cf__law_around]
    exact around_b0 hg L hk nn (by omega)
  | succ d ih =>
    intro n h
    obtain ⟨m, rfl⟩ : ∃ m, n = m + 3 := ⟨n - 3, by omega⟩
    have S2 := src_at (ns := ns) R (m + 1) hg.1 hg.2
    have S1 := src_at (ns := ns) R m hg.1 hg.2
    have A2 := @ih (m + 2) (by omega)
    have A1 := @ih (m + 1) (by omega)
    have c11 := @core_ok R μ ns g hg 1 (m + 1) (by omega)
    have c12 := @core_ok R μ ns g hg 1 (m + 2) (by omega)
    have c21 := @core_ok R μ ns g hg 2 (m + 1) (by omega)
    have c22 := @core_ok R μ ns g hg 2 (m + 2) (by omega)
    have B := @br_ok R μ ns g hg 1 (m + 2) (by omega)
    have M : AroundOk μ ns g 34 (callF (Pc ++ R) (m + 2)) ((d + 1 : Nat) : Int) ((72 * d + 1) + 72) ((d + 6) + 1) ((3 * d + 11) + 3) ((2 * d + 8) + 2) := by
      intro loc l k i a b at' cnt hole L hk hl n
      rw [cf__law_around_made]
      exact around_made_b S1 c11 c21 A1 L hk hl (by omega) n
    intro loc l k i a b at' cnt hole L hk hl nn
    rw [cf__law_around]
    exact around_b S2 c12 c22 A2 M B L hk hl (by omega) nn
end
section
variable {μ : Mu} {ns : List Int} {g : Nat} {i a b at' cnt : Int} {hole : D}
theorem w_len : (W μ ns g i a b at' cnt hole).length = μ.length := by simp [W, SS]
theorem w_app (o : Mu) (hg : g < μ.length) : W μ ns g i a b at' cnt hole ++ o = W (μ ++ o) ns g i a b at' cnt hole := by
  have h0 : 0 < μ.length := by omega
  unfold W SS
  rw [List.set_append_left _ _ hg, List.set_append_left _ _ (by rw [List.length_set]; exact h0)]
theorem w_setAt {r : Nat} {o : Ob} (h0 : r ≠ 0) (h1 : r ≠ g) : (W μ ns g i a b at' cnt hole).set r o = W (μ.set r o) ns g i a b at' cnt hole := by
  unfold W SS
  rw [List.set_comm _ _ (Ne.symm h0), List.set_comm _ _ (Ne.symm h1)]
theorem w_get {r : Nat} (h0 : r ≠ 0) (h1 : r ≠ g) : (W μ ns g i a b at' cnt hole)[r]? = μ[r]? := by
  unfold W SS
  rw [List.getElem?_set_ne (Ne.symm h0), List.getElem?_set_ne (Ne.symm h1)]
theorem lc_rep {f : D → Mu → Option (Option D × Mu)} {μ : Mu} {e : D} : ∀ (xs : List D), (∀ x, f x μ = some (some e, μ)) → lcLoop f xs μ = some (List.replicate xs.length e, μ)
  | [], _ => rfl
  | x :: xs, h => by
    rw [lcLoop, h x, Option.bind_some, lc_rep xs h]
    rfl
theorem cut_take {α : Type} (xs : List α) (n : Nat) : cutL xs none (some (n : Nat)) = xs.take n := by
  have h : ¬ ((n : Int) < 0) := by omega
  unfold cutL HT.sIx
  simp [h]
  try omega
end
end Pl

namespace Pl
open PySem L2
section
variable (R : List PDef) {μ : Mu} {ns : List Int} {g : Nat} {i a b at' cnt : Int} {hole : D}
theorem bag_m (n : Nat) (m : Mu) : callF (Pc ++ R) (n + 1) 40 [] m = some (.ref m.length, m ++ [bagO 0 2 .non]) := by kernel_rfl
theorem ss_bag (h : 0 < μ.length) : SS μ ns i a b ++ [bagO 0 2 .non] = W (μ ++ [bagO 0 2 .non]) ns μ.length i a b 0 2 .non := by
  have hl : μ.length < (μ ++ [bagO 0 2 .non]).length := by simp
  unfold W SS
  rw [List.set_append_right _ _ (Nat.le_refl _), Nat.sub_self]
  show _ = List.set (μ ++ [bagO 0 2 .non]) 0 _
  rw [List.set_append_left _ _ h]
theorem bag_ok (n : Nat) (h : 0 < μ.length) : callF (Pc ++ R) (n + 1) 40 [] (SS μ ns i a b) = some (.ref μ.length, W (μ ++ [bagO 0 2 .non]) ns μ.length i a b 0 2 .non) := by
  rw [bag_m, ss_bag h]
  simp [SS]
def cutD (n : Nat) (tl : List D) : D := .tup (cutL tl none (some (n : Nat)))
theorem told_b {c : Orc} {m : Mu} {o1 o2 o3 o4 o5 o6 : Option D} (hc : 0 ≤ cnt ∧ cnt ≤ 1000000) (hi : idxD m (.ref g) (.str "count") = some (.int cnt)) :
    evE c (.lc [6] (.tup (.cons (.lit (.str "")) (.cons (.tup (.cons (.lit (.str "word")) (.cons (.lit (.str "int")) (.cons (.tup .nil) .nil)))) .nil))) (.nm 6) (.rng (.idx (.var 0) (.lit (.str "count")))) .nil) [some (.ref g), o1, o2, o3, o4, o5, o6] m = some (.lst (tlW cnt.toNat), m) := by
  have e1 : evSrc c (.rng (.idx (.var 0) (.lit (.str "count")))) [some (.ref g), o1, o2, o3, o4, o5, o6] m = some ((List.range cnt.toNat).map fun i => D.int (0 + (i : Nat)), none, m) := by
    show ((idxD m (.ref g) (.str "count")).map fun z => (z, m)).bind _ = _
    rw [hi]
    exact if_pos ⟨hc.2, by omega⟩
  have e2 := lc_rep (μ := m) (e := entW) (f := fun d μ1 => if okG none μ1 = true then (asgT (.nm 6) d (wipeD [some (.ref g), o1, o2, o3, o4, o5, o6] [6])).bind fun e => (evBs c .And .nil e μ1).bind fun q =>
        if q.1 = true then (evE c (.tup (.cons (.lit (.str "")) (.cons (.tup (.cons (.lit (.str "word")) (.cons (.lit (.str "int")) (.cons (.tup .nil) .nil)))) .nil))) e q.2).map fun y => (some y.1, y.2) else some (none, q.2) else none) ((List.range cnt.toNat).map fun i => D.int (0 + (i : Nat))) (fun x => rfl)
  rw [List.length_map, List.length_range] at e2
  simp only [evE, e1, Option.bind_some]
  exact (congrArg (fun x => Option.bind x _) e2).trans rfl
theorem put3 (m : Mu) (b : D) (tl : List D) : setD (m ++ [.dct [(.inr "m.f", fD b tl), (.inr "m.g", gD tl)]]) (.ref m.length) (.str "m.h") (hD tl) = some (m ++ [fns3 b tl]) := by
  have h : (m ++ [Ob.dct [(.inr "m.f", fD b tl), (.inr "m.g", gD tl)]])[m.length]? = some (Ob.dct [(.inr "m.f", fD b tl), (.inr "m.g", gD tl)]) := by simp
  have h2 : 2 < sizeLine := by rw [sizeLine_eq]; omega
  unfold setD
  simp only [h]
  refine (if_pos h2).trans ?_
  refine congrArg some ?_
  rw [List.set_append_right _ _ (Nat.le_refl _), Nat.sub_self]
  refine congrArg (fun z => m ++ [Ob.dct z]) ?_
  kernel_rfl
theorem k_ndc {m : Mu} {x y : D} {Q : D → Mu → Prop} (q : Q (.ref m.length) (m ++ [.dct [(.inr "m.f", x), (.inr "m.g", y)]])) : OkV (if (["m.f", "m.g"] : List Str).length = [x, y].length ∧ (["m.f", "m.g"] : List Str).Nodup then some () else none) fun _ => New m (.dct (((["m.f", "m.g"] : List Str).map Sum.inr).zip [x, y])) Q :=
  ⟨(), if_pos ⟨rfl, by decide +kernel⟩, ⟨q⟩⟩
theorem k_cut {m : Mu} {n : Nat} {xs : List D} {Q : D → Prop} (q : Q (.tup (xs.take n))) : OkV (slD m none (some ((n : Nat) : Int)) (.tup xs)) Q := ⟨_, by simp only [slD, cut_take], q⟩
theorem fns_b {c : Orc} {m : Mu} {d : D} (hc : 0 ≤ cnt ∧ cnt ≤ 1000000) (hi : idxD m (.ref g) (.str "count") = some (.int cnt)) :
    Ok2 ((evSs c b__law_functions_of [some (.ref g), some d, none, none, none, none, none] m).bind retK) (fun r m' => r = .ref m.length ∧ m' = m ++ [fns3 d (tlW cnt.toNat)]) := by
  refine g_call ?_
  ((conv => whnf); repeat' (first | ((with_reducible refine k_ndc ?_); conv => whnf) | (refine k_cut (n := 2) ?_; conv => whnf) | (refine k_cut (n := 1) ?_; conv => whnf) | ((with_reducible refine ok2 (told_b hc hi) ?_); conv => whnf) | ((with_reducible refine okv (told_b hc hi) ?_); conv => whnf) | ((with_reducible refine ok2 (put3 _ _ _) ?_); conv => whnf) | ((with_reducible refine okv (put3 _ _ _) ?_); conv => whnf) | (refine k_eqS (t := true) (by decide +kernel) ?_; conv => whnf) | (refine k_eqS (t := false) (by decide +kernel) ?_; conv => whnf) | ((with_reducible refine k_eq0 ?_); conv => whnf) | ((with_reducible refine k_eqI ?_ ?_) <;> (intro h; conv => whnf)) | ((with_reducible refine k_gtI ?_ ?_) <;> (intro h; conv => whnf)) | ((with_reducible refine k_ltI ?_ ?_) <;> (intro h; conv => whnf)) | ((with_reducible refine k_sub1 ?_); conv => whnf) | ((with_reducible refine k_subI ?_); conv => whnf) | ((with_reducible refine k_addI ?_); conv => whnf) | ((with_reducible refine k_tuple ?_); conv => whnf) | ((with_reducible refine k_lenL ?_); conv => whnf)))
  exact ⟨rfl, rfl⟩
theorem fns_ok (hg : 0 < g ∧ g < μ.length) (n : Nat) (d : D) (hc : 0 ≤ cnt ∧ cnt ≤ 1000000) :
    callF (Pc ++ R) (n + 1) 41 [.ref g, d] (W μ ns g i a b at' cnt hole) = some (.ref μ.length, W (μ ++ [fns3 d (tlW cnt.toNat)]) ns g i a b at' cnt hole) := by
  rw [cf__law_functions_of, ← w_app _ hg.2, ← w_len (μ := μ) (ns := ns) (g := g) (i := i) (a := a) (b := b) (at' := at') (cnt := cnt) (hole := hole)]
  exact ok2_is (fns_b hc (b_cnt hg.1 hg.2))
end
end Pl

namespace Pl
open PySem L2
/-- a rule of a step, whose def is f, does not fit, or makes u of s -/
def RuleNo (s : T) (f : Nat) : Prop := ∀ (R : List PDef) (n i : Nat) (v : Int) (μ : Mu), callF (Pc ++ R) (n + 70) f [enc s, .ref i, .int v] μ = some (.non, μ)
def RuleYes (s : T) (f : Nat) (u : T) : Prop := ∀ (R : List PDef) (n i : Nat) (v : Int) (μ : Mu), callF (Pc ++ R) (n + 70) f [enc s, .ref i, .int v] μ = some (enc u, μ)
/-- the other rules do not fit -/
def Oths (s : T) (rule : Str) (also : List Str) : Prop := ∀ x ∈ rules9, x = rule ∨ x ∈ also ∨ ∃ f, lookE tab_RULES x = some (some f) ∧ RuleNo s f
theorem inD_strs (μ : Mu) (x : Str) (also : List Str) : inD μ (.str x) (.lst (also.map .str)) = some (decide (x ∈ also)) := by
  have h1 : (also.map D.str).all flatD = true := by simp [List.all_eq_true, flatD]
  have h2 : (also.map D.str).any (fun y => flatEq y (.str x)) = decide (x ∈ also) := by
    induction also with
    | nil => rfl
    | cons y l ih => 
      have := ih (by simp [List.all_eq_true, flatD])
      rw [List.map_cons, List.any_cons, this]
      by_cases e : y = x
      · subst e; simp [flatEq]
      · have e' : ¬ x = y := fun h => e h.symm
        simp [flatEq, e, e']
  unfold inD itemsD
  simp only [h1, h2]
  simp [flatD]
structure Lib (c : Orc) (ns : List Int) : Prop where
  bag : ∀ {μ : Mu} {i a b : Int}, 0 < μ.length → c 40 [] (SS μ ns i a b) = some (.ref μ.length, W (μ ++ [bagO 0 2 .non]) ns μ.length i a b 0 2 .non)
  src : ∀ {μ : Mu} {g : Nat}, 0 < g ∧ g < μ.length → Src c μ ns g
  small : ∀ {μ : Mu} {g : Nat}, 0 < g ∧ g < μ.length → SmallOk c μ ns g
  core : ∀ {μ : Mu} {g : Nat} (d : Nat), 0 < g ∧ g < μ.length → d ≤ 6 → CoreOk c μ ns g (d : Nat) (cs d) (2 * d + 1) (4 * d + 3) (2 * d)
  br : ∀ {μ : Mu} {g : Nat} (d : Nat), 0 < g ∧ g < μ.length → d ≤ 6 → BrOk c μ ns g ((d + 1 : Nat) : Int) (cs d) (2 * d + 1) (4 * d + 3) (2 * d)
  around : ∀ {μ : Mu} {g : Nat} (d : Nat), 0 < g ∧ g < μ.length → d ≤ 6 → AroundOk μ ns g 33 c (d : Nat) (72 * d + 1) (d + 6) (3 * d + 11) (2 * d + 8)
  path : ∀ {μ : Mu} {t : T}, t.ht ≤ 60 → c 38 [enc t] μ = some (optP t.path, μ)
  fill : ∀ {μ : Mu} {t s : T}, t.ht ≤ 60 → c 37 [enc t, enc s] μ = some (enc (t.fill s), μ)
  coreP : ∀ (pr : Int → Prop) {μ : Mu} {g : Nat} (d : Nat), 0 < g ∧ g < μ.length → d ≤ 6 → CoreP pr c μ ns g (d : Nat) (cs d) (2 * d + 1) (4 * d + 3) (2 * d)
  stepNo : ∀ {μ : Mu} {i k f : Nat} {t s : T} {p : List Nat} {rule : Str}, t.fit → μ[i]? = some (fns3 (enc t) (tlW k)) → t.at p = some s → lookE tab_RULES rule = some (some f) → RuleNo s f → c 25 [.ref i, stepD p rule] μ = some (.non, μ)
  fns : ∀ {μ : Mu} {g : Nat} {i a b at' cnt : Int} {hole d : D}, 0 < g ∧ g < μ.length → 0 ≤ cnt ∧ cnt ≤ 1000000 → c 41 [.ref g, d] (W μ ns g i a b at' cnt hole) = some (.ref μ.length, W (μ ++ [fns3 d (tlW cnt.toNat)]) ns g i a b at' cnt hole)
/-- with _law_is_step -/
structure LibS (c : Orc) (ns : List Int) : Prop extends Lib c ns where
  no : ∀ {μ : Mu} {i k f : Nat} {t s : T} {p : List Nat} {rule : Str} {also : List Str}, t.fit → k ≤ 5000 → μ[i]? = some (fns3 (enc t) (tlW k)) → t.at p = some s → lookE tab_RULES rule = some (some f) → RuleNo s f → Oths s rule also →
    c 43 [.ref i, natsD p, .str rule, .non, .lst (also.map .str)] μ = some (.bl true, μ)
  yes : ∀ {μ : Mu} {i k f : Nat} {t s u d : T} {p : List Nat} {rule : Str} {also : List Str}, t.fit → k ≤ 5000 → μ[i]? = some (fns3 (enc t) (tlW k)) → t.at p = some s → lookE tab_RULES rule = some (some f) → RuleYes s f u → t.put p u = some d → d.fit → p.length ≤ 60 → Oths s rule also →
    ∃ e, c 43 [.ref i, natsD p, .str rule, enc d, .lst (also.map .str)] μ = some (.bl true, μ ++ e)
theorem lib_ok (R : List PDef) (ns : List Int) : Lib (callF (Pc ++ R) 99) ns where
  bag := fun h => bag_ok R 98 h
  src := fun h => src_at R 98 h.1 h.2
  small := fun h => @small_ok R _ _ _ h 99 (by decide)
  core := fun d h hd => @core_ok R _ _ _ h d 99 (by omega)
  br := fun d h hd => @br_ok R _ _ _ h d 99 (by omega)
  around := fun d h hd => @around_ok R _ _ _ h d 99 (by omega)
  path := fun {μ t} h => path_ok R μ t 97 (by omega) (by omega)
  fill := fun {μ t s} h => fill_ok R μ s t 97 (by omega)
  coreP := fun pr {_ _} d h hd => @core_okP R _ _ _ pr h d 99 (by omega)
  stepNo := fun {μ i k f t s p rule} h hf ha hr hc => step_no (R := R) (m := 28) h hf ha hr (fun v => hc R 28 i v μ)
  fns := fun h hc => fns_ok R h 98 _ hc
theorem libS_ok (R : List PDef) (ns : List Int) : LibS (callF (Pc ++ Rs R) 99) ns where
  toLib := lib_ok (Rs R) ns
  no := fun {μ i k f t s p rule also} h hk hf ha hr hc ho => is_no (R := R) (m := 27) h hk hf ha hr (fun v => hc (Rs R) 27 i v μ) (fun μ x hx => by
    rcases ho x hx with h | h | ⟨f, h1, h2⟩
    · exact .inl h
    · exact .inr (.inl (by rw [inD_strs, decide_eq_true h]))
    · by_cases e : x = rule
      · exact .inl e
      · by_cases e2 : x ∈ also
        · exact .inr (.inl (by rw [inD_strs, decide_eq_true e2]))
        · exact .inr (.inr ⟨e, by rw [inD_strs, decide_eq_false e2], f, h1, fun v => h2 (Rs R) 27 i v μ⟩))
  yes := fun {μ i k f t s u d p rule also} h hk hf ha hr hc hp hd hl ho => is_yes (R := R) (m := 27) h hk hf ha hr (fun μ v => hc (Rs R) 27 i v μ) hp hd hl (fun μ x hx => by
    rcases ho x hx with h | h | ⟨f, h1, h2⟩
    · exact .inl h
    · exact .inr (.inl (by rw [inD_strs, decide_eq_true h]))
    · by_cases e : x = rule
      · exact .inl e
      · by_cases e2 : x ∈ also
        · exact .inr (.inl (by rw [inD_strs, decide_eq_true e2]))
        · exact .inr (.inr ⟨e, by rw [inD_strs, decide_eq_false e2], f, h1, fun v => h2 (Rs R) 27 i v μ⟩))
theorem for_inv {c : Orc} {t : AT} {b : ASs} (P : List D → En → Mu → Prop) (step : ∀ x rest env m, P (x :: rest) env m → asgK t x env fun e => wSs c b e m (Fin3 fun f e' m' => f = .nx ∧ P rest e' m')) :
    ∀ {xs : List D} {env : En} {m : Mu} {Q : Fl → En → Mu → Prop}, P xs env m → (∀ e m, P [] e m → Q .nx e m) → Ok3 (forLoop none t (fun e m => evSs c b e m) xs env m) Q := by
  intro xs
  induction xs with
  | nil => intro env m Q h q; exact ⟨.nx, env, m, rfl, q env m h⟩
  | cons x rest ih =>
    intro env m Q h q
    obtain ⟨e, e1, h1⟩ := asgK_ok (step x rest env m h)
    obtain ⟨f, e', m', e2, h2⟩ := wSs_ok h1
    obtain ⟨rfl, h3⟩ := h2.q
    obtain ⟨f2, e3, m3, e4, h4⟩ := ih h3 q
    refine ⟨f2, e3, m3, ?_, h4⟩
    rw [forLoop, if_pos (show okG none m = true from rfl), e1, Option.bind_some, e2, Option.bind_some]
    exact e4
theorem k_rng {c : Orc} {e : AE} {env : En} {m : Mu} {Q : List D → Grd → Mu → Prop} (h : wE c e env m fun x m => ∃ j : Nat, x = .int (j : Nat) ∧ j ≤ 1000000 ∧ Q ((List.range j).map fun i => .int (0 + (i : Nat))) none m) : Ok3 (evSrc c (.rng e) env m) Q := by
  obtain ⟨x, m', e1, j, rfl, hj, q⟩ := wE_ok h
  refine ⟨_, _, _, ?_, q⟩
  simp only [evSrc, e1, Option.bind_some]
  rw [if_pos ⟨by omega, by omega⟩, Int.toNat_natCast]
section
variable {c : Orc} {μ : Mu} {ns : List Int} {g : Nat} {s h p q : Nat}
def DrT (μ : Mu) (ns : List Int) (g : Nat) (hole : D) (at' cnt : Int) (s h p : Nat) (Q : D → Mu → Prop) : Prop := ∀ (t : T) i a b at2 cnt2, 0 ≤ i → 0 ≤ a → at' ≤ at2 → at2 ≤ at' + s → cnt ≤ cnt2 → cnt2 ≤ cnt + s → Good t 0 s h p cnt2 → Q (enc t) (W μ ns g i a b at2 cnt2 hole)
theorem k_drT {x : Option (D × Mu)} {hole : D} {at' cnt : Int} {Q : D → Mu → Prop} (D : Ok2 x (Dr μ ns g hole at' cnt 0 s h p)) (q : DrT μ ns g hole at' cnt s h p Q) : Ok2 x Q := by
  obtain ⟨t, m, e, i, a, b, at2, cnt2, rfl, n, A⟩ := D
  obtain ⟨t, rfl, A, _⟩ := A
  exact ⟨_, _, e, q t i a b at2 cnt2 n.1 n.2.1 n.2.2.1 n.2.2.2.1 n.2.2.2.2.1 n.2.2.2.2.2 A⟩
theorem k_smallT (C : SmallOk c μ ns g) {loc : D} {l : List (Int × Str)} {k : Str} {i a b at' cnt : Int} {hole : D} {Q : D → Mu → Prop} (L : Loc μ g loc l) (hk : k ∈ kinds) (hl : l.length ≤ 1000) (n : 0 ≤ i ∧ 0 ≤ a ∧ 0 ≤ at' ∧ at' + (3 : Nat) ≤ 1000000 ∧ 2 ≤ cnt ∧ cnt + (3 : Nat) ≤ 1000000)
    (q : DrT μ ns g hole at' cnt 3 1 3 Q) : Ok2 (c 29 [.ref 0, .ref g, loc, .str k] (W μ ns g i a b at' cnt hole)) Q := k_drT (C L hk hl n) q
theorem k_coreT {e : Int} (C : CoreOk c μ ns g e s h p q) {loc : D} {l : List (Int × Str)} {k : Str} {i a b at' cnt : Int} {hole : D} {Q : D → Mu → Prop} (L : Loc μ g loc l) (hk : k ∈ kinds) (hl : l.length + q ≤ 1000) (n : 0 ≤ i ∧ 0 ≤ a ∧ 0 ≤ at' ∧ at' + s ≤ 1000000 ∧ 2 ≤ cnt ∧ cnt + s ≤ 1000000)
    (q : DrT μ ns g hole at' cnt s h p Q) : Ok2 (c 30 [.ref 0, .ref g, loc, .str k, .int e] (W μ ns g i a b at' cnt hole)) Q := k_drT (C L hk hl n) q
theorem k_aroundT {e : Int} (C : AroundOk μ ns g 33 c e s h p q) {loc : D} {l : List (Int × Str)} {k : Str} {i a b at' cnt : Int} {hole : D} {B : Int} {Q : D → Mu → Prop} (L : LocB μ g loc l B) (hB : B ≤ cnt) (hk : k ∈ kinds) (hl : l.length + q ≤ 1000) (n : 0 ≤ i ∧ 0 ≤ a ∧ 0 ≤ at' ∧ at' + s ≤ 1000000 ∧ 2 ≤ cnt ∧ cnt + s ≤ 1000000)
    (Hq : ∀ (t : T) i a b at2 cnt2 k' loc' l', 0 ≤ i → 0 ≤ a → at' ≤ at2 → at2 ≤ at' + s → cnt ≤ cnt2 → cnt2 ≤ cnt + s → Good t 1 s h p cnt2 → k' ∈ kinds → LocB μ g loc' l' cnt2 → l'.length ≤ l.length + q → Q (enc t) (W μ ns g i a b at2 cnt2 (.tup [.str k', loc']))) : Ok2 (c 33 [.ref 0, .ref g, loc, .str k, .int e] (W μ ns g i a b at' cnt hole)) Q := by
  obtain ⟨t, m, e, i, a, b, at2, cnt2, k', loc', l', rfl, n, A, K, L', z⟩ := C (b := b) (hole := hole) (L.up hB) hk hl n
  obtain ⟨t, rfl, A, _⟩ := A
  exact ⟨_, _, e, Hq t i a b at2 cnt2 k' loc' l' n.1 n.2.1 n.2.2.1 n.2.2.2.1 n.2.2.2.2.1 n.2.2.2.2.2 A K L' z⟩
end
/-- the first locals -/
theorem loc_0 {μ : Mu} {g : Nat} : LocB μ g (.lst [.tup [.int 0, .str "int"], .tup [.int 1, .str "list"]]) [(0, "int"), (1, "list")] 2 := ⟨⟨.inl rfl, by decide, fun q hq => by
  simp only [List.mem_cons, List.not_mem_nil, or_false] at hq
  rcases hq with rfl | rfl
  · exact okI_of (by decide)
  · exact okI_of (by decide)⟩, fun q hq => by
  simp only [List.mem_cons, List.not_mem_nil, or_false] at hq
  rcases hq with rfl | rfl
  · decide
  · decide⟩
theorem Loc.app {μ : Mu} {g : Nat} {d : D} {l : List (Int × Str)} (h : Loc μ g d l) (o : Mu) : Loc (μ ++ o) g d l := ⟨by
  rcases h.kind with h | ⟨r, h1, h2, h3, h4⟩
  · exact .inl h
  · refine .inr ⟨r, h1, h2, h3, ?_⟩
    rw [List.getElem?_append_left (List.getElem?_eq_some_iff.mp h4).1]
    exact h4, h.few, h.ok⟩
theorem Good.bd {t : T} {k s h p : Nat} {b b' : Int} (A : Good t k s h p b) (e : b ≤ b') : Good t k s h p b' := ⟨A.ho, A.lim, A.sz, A.ht, A.dp, fun x hx => Int.lt_of_lt_of_le (A.gv x hx) e⟩
theorem Good.up {t : T} {k s h p k1 s1 h1 p1 : Nat} {b b' : Int} (A : Good t k s h p b) (e : k = k1 ∧ s ≤ s1 ∧ h ≤ h1 ∧ p ≤ p1 ∧ b ≤ b') : Good t k1 s1 h1 p1 b' :=
  ⟨by rw [A.ho]; exact e.1, A.lim, Nat.le_trans A.sz e.2.1, Nat.le_trans A.ht e.2.2.1, Nat.le_trans A.dp e.2.2.2.1, fun x hx => Int.lt_of_lt_of_le (A.gv x hx) e.2.2.2.2⟩
theorem Good.fit {t : T} {k s h p : Nat} {b : Int} (A : Good t k s h p b) (e : s ≤ 2000 ∧ h ≤ 60 ∧ p ≤ 54) : t.fit := ⟨A.lim, Nat.le_trans A.sz e.1, Nat.le_trans A.ht e.2.1, Nat.le_trans A.dp e.2.2⟩
theorem good_2 {l : L2t} {a d : T} {k s h p k1 s1 h1 p1 : Nat} {b : Int} (lim : l.lim) (own : ∀ x ∈ own2 l, x < b) (A : Good a k s h p b) (B : Good d k1 s1 h1 p1 b) : Good (.n2 l a d) (k + k1) (s + s1 + 1) (max h h1 + 1) (max p p1 + 2) b := by
  refine ⟨by simp only [T.holes, A.ho, B.ho], ⟨lim, A.lim, B.lim⟩, ?_, ?_, ?_, fun x hx => ?_⟩
  · have := A.sz; have := B.sz; simp only [T.size]; omega
  · have := A.ht; have := B.ht; simp only [T.ht]; omega
  · have := A.dp; have := B.dp; simp only [T.dep]; omega
  · simp only [T.given, List.mem_append] at hx
    rcases hx with hx | hx | hx
    · exact own x hx
    · exact A.gv x hx
    · exact B.gv x hx
theorem good_3 {l : L3} {a d e : T} {k s h p k1 s1 h1 p1 k2 s2 h2 p2 : Nat} {b : Int} (lim : l.lim) (own : ∀ x ∈ own3 l, x < b) (A : Good a k s h p b) (B : Good d k1 s1 h1 p1 b) (C : Good e k2 s2 h2 p2 b) : Good (.n3 l a d e) (k + k1 + k2) (s + s1 + s2 + 1) (max h (max h1 h2) + 1) (max p (max p1 p2) + 3) b := by
  refine ⟨by simp only [T.holes, A.ho, B.ho, C.ho], ⟨lim, A.lim, B.lim, C.lim⟩, ?_, ?_, ?_, fun x hx => ?_⟩
  · have := A.sz; have := B.sz; have := C.sz; simp only [T.size]; omega
  · have := A.ht; have := B.ht; have := C.ht; simp only [T.ht]; omega
  · have := A.dp; have := B.dp; have := C.dp; simp only [T.dep]; omega
  · simp only [T.given, List.mem_append] at hx
    rcases hx with hx | hx | hx | hx
    · exact own x hx
    · exact A.gv x hx
    · exact B.gv x hx
    · exact C.gv x hx
end Pl

namespace Pl
open PySem L2
section
variable {μ : Mu} {ns : List Int} {g r : Nat} {i a b at' cnt : Int} {hole : D} {xs : List D}
theorem w_at' (h : r ≠ 0 ∧ r ≠ g) (e : μ[r]? = some (.lst xs)) : (W μ ns g i a b at' cnt hole)[r]? = some (.lst xs) := by rw [w_get h.1 h.2]; exact e
theorem k_newW {o : Ob} {Q : D → Mu → Prop} (hg : g < μ.length) (q : Q (.ref μ.length) (W (μ ++ [o]) ns g i a b at' cnt hole)) : New (W μ ns g i a b at' cnt hole) o Q := ⟨by rw [w_len, w_app _ hg]; exact q⟩
theorem k_nlist {loc : D} {l : List (Int × Str)} {Q : D → Mu → Prop} (hg : g < μ.length) (L : Loc μ g loc l) (q : Q (.ref μ.length) (W (μ ++ [.lst (l.map encP)]) ns g i a b at' cnt hole)) : Ok2 (biD (W μ ns g i a b at' cnt hole) .nlist [loc]) Q := by
  refine ⟨_, _, ?_, q⟩
  rw [← w_app _ hg, ← w_len (μ := μ) (ns := ns) (g := g) (i := i) (a := a) (b := b) (at' := at') (cnt := cnt) (hole := hole)]
  simp only [biD, L.items, Option.map_some]
theorem k_lenR {Q : D → Mu → Prop} (h : r ≠ 0 ∧ r ≠ g) (e : μ[r]? = some (.lst xs)) (q : Q (.int (xs.length : Nat)) (W μ ns g i a b at' cnt hole)) : Ok2 (biD (W μ ns g i a b at' cnt hole) .len [.ref r]) Q := by
  refine ⟨_, _, ?_, q⟩
  simp only [biD, itemsD, w_at' h e]
theorem k_appR {d : D} {Q : Mu → Prop} (h : r ≠ 0 ∧ r ≠ g) (e : μ[r]? = some (.lst xs)) (hl : xs.length ≤ 1000000) (q : Q (W (μ.set r (.lst (xs ++ [d]))) ns g i a b at' cnt hole)) : OkV (appD (W μ ns g i a b at' cnt hole) (.ref r) d) Q := by
  have hs : xs.length < sizeLine := by rw [sizeLine_eq]; omega
  refine ⟨_, ?_, q⟩
  rw [← w_setAt h.1 h.2]
  simp only [appD, w_at' h e, if_pos hs]
theorem k_isL {Q : Unit → Prop} (h : r ≠ 0 ∧ r ≠ g) (e : μ[r]? = some (.lst xs)) (q : Q ()) : OkV (if isLstD (W μ ns g i a b at' cnt hole) (.ref r) = true then some () else none) Q :=
  ⟨(), if_pos (by simp only [isLstD, w_at' h e]), q⟩
theorem k_idxR {j : Int} {d : D} {Q : D → Prop} (h : r ≠ 0 ∧ r ≠ g) (e : μ[r]? = some (.lst xs)) {k : Nat} (hj : j = (k : Nat)) (hd : xs[k]? = some d) (q : Q d) : OkV (idxD (W μ ns g i a b at' cnt hole) (.ref r) (.int j)) Q := by
  refine ⟨d, ?_, q⟩
  rw [hj]
  simp only [idxD, w_at' h e]
  exact atI_nat hd
theorem cut_drop {α : Type} (xs : List α) (n : Nat) (h : n ≤ xs.length) : cutL xs (some (n : Nat)) none = xs.drop n := by
  have h' : ¬ ((n : Int) < 0) := by omega
  unfold cutL HT.sIx
  simp [h', h]
  exact List.take_of_length_le (by rw [List.length_drop]; exact Nat.le_refl _)
theorem k_dropR {k : Nat} {Q : D → Prop} (h : r ≠ 0 ∧ r ≠ g) (e : μ[r]? = some (.lst xs)) (hk : k ≤ xs.length) (q : Q (.lst (xs.drop k))) : OkV (slD (W μ ns g i a b at' cnt hole) (some (k : Nat)) none (.ref r)) Q := by
  refine ⟨_, ?_, q⟩
  simp only [slD, w_at' h e, cut_drop xs k hk]
theorem k_takeR {k : Nat} {Q : D → Prop} (h : r ≠ 0 ∧ r ≠ g) (e : μ[r]? = some (.lst xs)) (q : Q (.lst (xs.take k))) : OkV (slD (W μ ns g i a b at' cnt hole) none (some (k : Nat)) (.ref r)) Q := by
  refine ⟨_, ?_, q⟩
  simp only [slD, w_at' h e, cut_take xs k]
end
theorem Loc.agree {μ μ' : Mu} {g : Nat} {d : D} {l : List (Int × Str)} (h : Loc μ g d l) (e : ∀ r, r < μ.length → μ'[r]? = μ[r]?) : Loc μ' g d l := ⟨by
  rcases h.kind with h | ⟨r, h1, h2, h3, h4⟩
  · exact .inl h
  · exact .inr ⟨r, h1, h2, h3, by rw [e r (List.getElem?_eq_some_iff.mp h4).1]; exact h4⟩, h.few, h.ok⟩
theorem k_mul1 {m : Mu} {k : Nat} {Q : D → Prop} (hk : k ≤ 1000) (q : Q (.tup (List.replicate k (.int 1)))) : OkV (binM m .Mult (.tup [.int 1]) (.int (k : Nat))) Q := by
  refine ⟨_, ?_, q⟩
  have h : 0 ≤ (k : Int) ∧ (k : Int) ≤ 1000 ∧ [D.int 1].length ≤ 1000 := ⟨by omega, by omega, by decide⟩
  have e : (List.replicate (k : Int).toNat [D.int 1]).flatten = List.replicate k (.int 1) := by
    rw [Int.toNat_natCast]
    clear h q Q hk
    induction k with
    | zero => rfl
    | succ k ih => rw [List.replicate_succ, List.flatten_cons, ih]; rfl
  simp only [binM, if_pos h, e]
theorem k_addP {m : Mu} {p : List Nat} {k : Nat} {Q : D → Prop} (hl : p.length + k ≤ 1000) (q : Q (natsD (p ++ List.replicate k 1))) : OkV (binM m .Add (natsD p) (.tup (List.replicate k (.int 1)))) Q := by
  refine ⟨_, ?_, q⟩
  have h : (p.map fun i => D.int (i : Nat)).length + (List.replicate k (D.int 1)).length ≤ sizeLine := by rw [List.length_map, List.length_replicate, sizeLine_eq]; omega
  have e : natsD (p ++ List.replicate k 1) = .tup ((p.map fun i => D.int (i : Nat)) ++ List.replicate k (.int 1)) := by
    unfold natsD
    rw [List.map_append, List.map_replicate]
    rfl
  rw [e]
  simp only [natsD, binM, binD, if_pos h]
theorem for_rng {c : Orc} {t : AT} {b : ASs} (n : Nat) (P : Nat → En → Mu → Prop) (step : ∀ j env m, j < n → P j env m → asgK t (.int (j : Nat)) env fun e => wSs c b e m (Fin3 fun f e' m' => f = .nx ∧ P (j + 1) e' m'))
    {env : En} {m : Mu} {Q : Fl → En → Mu → Prop} (h : P 0 env m) (q : ∀ e m, P n e m → Q .nx e m) : Ok3 (forLoop none t (fun e m => evSs c b e m) ((List.range n).map fun i => .int (0 + (i : Nat))) env m) Q := by
  have key : ∀ k j env m, j + k = n → P j env m → Ok3 (forLoop none t (fun e m => evSs c b e m) (((List.range n).drop j).map fun i => .int (0 + (i : Nat))) env m) Q := by
    intro k
    induction k with
    | zero =>
      intro j env m hj hp
      have : j = n := by omega
      subst this
      rw [List.drop_eq_nil_of_le (by rw [List.length_range]; exact Nat.le_refl _)]
      exact ⟨.nx, env, m, rfl, q env m hp⟩
    | succ k ih =>
      intro j env m hj hp
      have hlt : j < n := by omega
      obtain ⟨e, e1, h1⟩ := asgK_ok (step j env m hlt hp)
      obtain ⟨f, e', m', e2, h2⟩ := wSs_ok h1
      obtain ⟨rfl, h3⟩ := h2.q
      obtain ⟨f2, e3, m3, e4, h4⟩ := ih (j + 1) e' m' (by omega) h3
      refine ⟨f2, e3, m3, ?_, h4⟩
      rw [List.drop_eq_getElem_cons (by rw [List.length_range]; exact hlt), List.map_cons, List.getElem_range, Int.zero_add, forLoop, if_pos (show okG none m = true from rfl), e1, Option.bind_some, e2, Option.bind_some]
      exact e4
  have := key n 0 env m (by omega) h
  rwa [List.drop_zero] at this
end Pl

namespace Pl
open PySem L2
def b__law_value : ASs := (.cons (.asgLc 4 [5, 6] (.var 5) (.tp (.cons (.nm 5) (.cons (.nm 6) .nil))) (.it (.var 2)) (.cons (.val (.cmp .Eq (.var 6) (.var 3))) .nil)) (.cons (.ife (.boo .And (.cons (.val (.cmp .NotEq (.var 4) (.lst .nil))) (.cons (.val (.cmp .Eq (.call 26 (.cons (.var 0) (.cons (.lit (.int 3)) .nil))) (.lit (.int 0)))) .nil))) (.cons (.ret (.tup (.cons (.lit (.str "local")) (.cons (.idx (.var 4) (.call 26 (.cons (.var 0) (.cons (.bi .len (.cons (.var 4) .nil)) .nil)))) (.cons (.call 27 (.cons (.var 1) .nil)) .nil))))) .nil) .nil) (.cons (.ife (.val (.cmp .Eq (.var 3) (.lit (.str "int")))) (.cons (.ret (.tup (.cons (.lit (.str "number")) (.cons (.call 26 (.cons (.var 0) (.cons (.lit (.int 1000)) .nil))) (.cons (.call 27 (.cons (.var 1) .nil)) .nil))))) .nil) .nil) (.cons (.ife (.boo .And (.cons (.val (.cmp .Eq (.var 3) (.lit (.str "fn")))) (.cons (.val (.cmp .Eq (.call 26 (.cons (.var 0) (.cons (.lit (.int 2)) .nil))) (.lit (.int 0)))) .nil))) (.cons (.ret (.tup (.cons (.lit (.str "top")) (.cons (.lit (.str "m.h")) (.cons (.call 27 (.cons (.var 1) .nil)) .nil))))) .nil) .nil) (.cons (.ife (.val (.cmp .Eq (.var 3) (.lit (.str "fn")))) (.cons (.asg (.nm 5) (.call 28 (.cons (.var 1) .nil))) (.cons (.ret (.tup (.cons (.lit (.str "fn")) (.cons (.tup (.cons (.var 5) .nil)) (.cons (.call 30 (.cons (.var 0) (.cons (.var 1) (.cons (.bin .Add (.var 2) (.lst (.cons (.tup (.cons (.var 5) (.cons (.lit (.str "int")) .nil))) .nil))) (.cons (.lit (.str "int")) (.cons (.lit (.int 2)) .nil)))))) (.cons (.call 27 (.cons (.var 1) .nil)) .nil)))))) .nil)) .nil) (.cons (.ret (.tup (.cons (.lit (.str "data")) (.cons (.ife (.val (.cmp .Eq (.var 3) (.lit (.str "bool")))) (.call 26 (.cons (.var 0) (.cons (.lit (.int 2)) .nil))) (.lit (.int 0))) (.cons (.tup .nil) (.cons (.call 27 (.cons (.var 1) .nil)) .nil)))))) .nil))))))
def b__law_worked : ASs := (.cons (.ife (.val (.cmp .Eq (.var 3) (.lit (.str "int")))) (.cons (.asg (.nm 5) (.call 29 (.cons (.var 0) (.cons (.var 1) (.cons (.var 2) (.cons (.lit (.str "int")) .nil)))))) (.cons (.ife (.val (.cmp .Eq (.call 26 (.cons (.var 0) (.cons (.lit (.int 2)) .nil))) (.lit (.int 0)))) (.cons (.ret (.tup (.cons (.lit (.str "op")) (.cons (.lit (.str "/")) (.cons (.var 5) (.cons (.tup (.cons (.lit (.str "local")) (.cons (.lit (.int 0)) (.cons (.call 27 (.cons (.var 1) .nil)) .nil)))) (.cons (.call 27 (.cons (.var 1) .nil)) .nil))))))) .nil) .nil) (.cons (.ret (.tup (.cons (.lit (.str "call")) (.cons (.lit (.str "m.g")) (.cons (.tup (.cons (.var 5) (.cons (.call 29 (.cons (.var 0) (.cons (.var 1) (.cons (.var 2) (.cons (.lit (.str "list")) .nil))))) .nil))) (.cons (.call 27 (.cons (.var 1) .nil)) .nil)))))) .nil))) .nil) (.cons (.ife (.val (.cmp .Eq (.var 3) (.lit (.str "bool")))) (.cons (.ret (.tup (.cons (.lit (.str "op")) (.cons (.lit (.str "<")) (.cons (.tup (.cons (.lit (.str "local")) (.cons (.lit (.int 0)) (.cons (.call 27 (.cons (.var 1) .nil)) .nil)))) (.cons (.call 29 (.cons (.var 0) (.cons (.var 1) (.cons (.var 2) (.cons (.lit (.str "int")) .nil))))) (.cons (.call 27 (.cons (.var 1) .nil)) .nil))))))) .nil) .nil) (.cons (.ife (.val (.cmp .Eq (.var 3) (.lit (.str "cell")))) (.cons (.ret (.tup (.cons (.lit (.str "cell")) (.cons (.tup (.cons (.lit (.str "print")) (.cons (.call 29 (.cons (.var 0) (.cons (.var 1) (.cons (.var 2) (.cons (.lit (.str "int")) .nil))))) (.cons (.call 27 (.cons (.var 1) .nil)) .nil)))) (.cons (.call 27 (.cons (.var 1) .nil)) .nil))))) .nil) .nil) (.cons (.asg (.nm 4) (.tup (.cons (.lit (.str "call")) (.cons (.lit (.str "m.g")) (.cons (.tup (.cons (.call 29 (.cons (.var 0) (.cons (.var 1) (.cons (.var 2) (.cons (.lit (.str "int")) .nil))))) (.cons (.tup (.cons (.lit (.str "local")) (.cons (.lit (.int 1)) (.cons (.call 27 (.cons (.var 1) .nil)) .nil)))) .nil))) (.cons (.call 27 (.cons (.var 1) .nil)) .nil)))))) (.cons (.ret (.tup (.cons (.lit (.str "data")) (.cons (.lit (.int 1)) (.cons (.tup (.cons (.var 4) (.cons (.tup (.cons (.lit (.str "local")) (.cons (.lit (.int 1)) (.cons (.call 27 (.cons (.var 1) .nil)) .nil)))) .nil))) (.cons (.call 27 (.cons (.var 1) .nil)) .nil)))))) .nil)))))
def b__law_row : ASs := (.cons (.for_ (.tp (.cons (.nm 2) (.cons (.nm 3) (.cons (.nm 4) .nil)))) (.it (.rev (.var 0))) (.cons (.asg (.nm 1) (.tup (.cons (.lit (.str "let")) (.cons (.var 2) (.cons (.var 3) (.cons (.var 1) (.cons (.var 4) .nil))))))) .nil)) (.cons (.ret (.var 1)) .nil))
section
variable {c : Orc} {μ : Mu} {ns : List Int} {g : Nat}
/-- a generator of trees by a kind -/
def GenOk (f : Nat) (c : Orc) (μ : Mu) (ns : List Int) (g : Nat) (s h p q : Nat) : Prop := ∀ {loc : D} {l : List (Int × Str)} {k : Str} {i a b at' cnt : Int} {hole : D}, Loc μ g loc l → k ∈ kinds → l.length + q ≤ 1000 → At i a at' cnt s →
  Ok2 (c f [.ref 0, .ref g, loc, .str k] (W μ ns g i a b at' cnt hole)) (Dr μ ns g hole at' cnt 0 s h p)
theorem value_b (S : Src c μ ns g) (C2 : CoreOk c μ ns g 2 68 5 11 4) {loc : D} {l : List (Int × Str)} {k : Str} {i a b at' cnt : Int} {hole : D} (L : Loc μ g loc l) (hk : k ∈ kinds) (hl : l.length + 5 ≤ 1000) (n : At i a at' cnt 72) :
    Ok2 ((evSs c b__law_value [some (.ref 0), some (.ref g), some loc, some (.str k), none, none, none] (W μ ns g i a b at' cnt hole)).bind retK) (Dr μ ns g hole at' cnt 0 72 6 12) := by
  obtain ⟨n1, n2, n3, n4, n5, n6⟩ := n
  have nb := names_b (c := c) (k := k) (ns := ns) (i := i) (a := a) (b := b) (at' := at') (cnt := cnt) (hole := hole) L
  obtain ⟨o1, o2⟩ := ofK_ok (k := k) L
  refine g_callN ?_
  refine wSs_first nb ?_
  generalize ofK l k = nm at o1 o2
  simp only [kinds, List.mem_cons, List.not_mem_nil, or_false] at hk
  rcases hk with rfl | rfl | rfl | rfl | rfl
  all_goals (((conv => whnf); repeat' (first | ((with_reducible refine k_neN ?_ ?_) <;> (intro h; conv => whnf)) | ((with_reducible refine k_lenI ?_); conv => whnf) | ((with_reducible refine k_draw S (by first | omega | (have := pos_of_ne (by assumption); omega)) ?_); intros; conv => whnf) | ((with_reducible refine k_pickN (by omega) ?_); intros; conv => whnf) | ((with_reducible refine k_core C2 (by assumption) (by first | assumption | exact sub_of (by assumption) (by decide +kernel) | exact List.elem_iff.mp (by decide +kernel)) (by omega) (by omega) ?_); intros; conv => whnf) | ((with_reducible refine k_locN (by assumption) (by omega) ?_); intros; conv => whnf) | ((with_reducible refine k_loc1 (by assumption) (by omega) (okI_of (by omega)) ?_); intros; conv => whnf) | ((with_reducible refine k_loc2 (by assumption) (by omega) ⟨okI_of (by omega), okI_of (by omega)⟩ ?_); intros; conv => whnf) | ((with_reducible refine k_draw S (by omega) ?_); intros; conv => whnf) | ((with_reducible refine k_here S ?_); conv => whnf) | ((with_reducible refine k_new S ?_); conv => whnf) | (refine k_pickS rfl (by simp only [List.length_cons, List.length_nil]; omega) ?_; intros; conv => whnf) | (refine k_pickI rfl (by simp only [List.length_cons, List.length_nil]; omega) ?_; intros; conv => whnf) | (refine k_eqS (t := true) (by decide +kernel) ?_; conv => whnf) | (refine k_eqS (t := false) (by decide +kernel) ?_; conv => whnf) | ((with_reducible refine k_eq0 ?_); conv => whnf) | ((with_reducible refine k_eqI ?_ ?_) <;> (intro h; conv => whnf)) | ((with_reducible refine k_gtI ?_ ?_) <;> (intro h; conv => whnf)) | ((with_reducible refine k_ltI ?_ ?_) <;> (intro h; conv => whnf)) | ((with_reducible refine k_sub1 ?_); conv => whnf) | ((with_reducible refine k_subI ?_); conv => whnf) | ((with_reducible refine k_addI ?_); conv => whnf) | ((with_reducible refine k_tuple ?_); conv => whnf) | ((with_reducible refine k_lenL ?_); conv => whnf))))
  all_goals (refine Fin2.mk ?_; refine dr_i (by omega) ?_; apply TrP.upS; (repeat' (first | (exact o1 _ (by assumption)) | (with_reducible refine And.intro ?_ ?_) | (exact TrP.bd (by assumption) (by omega)) | (exact trivial) | (exact NmOk.bd (by assumption) (by omega)) | (exact okI_of (by omega)) | (exact okI_lit (by assumption) (by decide)) | (exact sub_of (by assumption) (by decide +kernel)) | (exact List.elem_iff.mp (by decide +kernel)) | (with_reducible apply tr_num) | (with_reducible apply tr_loc) | (with_reducible apply tr_top) | (with_reducible exact tr_hole) | (with_reducible apply tr_dat0) | (with_reducible apply tr_fn) | (with_reducible apply tr_read) | (with_reducible apply tr_cell) | (with_reducible apply tr_print) | (with_reducible apply tr_let) | (with_reducible apply tr_callby) | (with_reducible apply tr_call) | (with_reducible apply tr_dat2) | (with_reducible apply tr_op) | (with_reducible apply tr_write) | (with_reducible apply tr_swB) | (with_reducible apply tr_sw0) | (with_reducible apply tr_sw2) | (omega))))
theorem worked_b (S : Src c μ ns g) (C0 : SmallOk c μ ns g) {loc : D} {l : List (Int × Str)} {k : Str} {i a b at' cnt : Int} {hole : D} (L : Loc μ g loc l) (hk : k ∈ kinds) (hl : l.length ≤ 1000) (n : At i a at' cnt 12) (e4 e5 : Option D) :
    Ok2 ((evSs c b__law_worked [some (.ref 0), some (.ref g), some loc, some (.str k), e4, e5] (W μ ns g i a b at' cnt hole)).bind retK) (Dr μ ns g hole at' cnt 0 12 4 8) := by
  obtain ⟨n1, n2, n3, n4, n5, n6⟩ := n
  refine g_call ?_
  simp only [kinds, List.mem_cons, List.not_mem_nil, or_false] at hk
  rcases hk with rfl | rfl | rfl | rfl | rfl
  all_goals (((conv => whnf); repeat' (first | ((with_reducible refine k_small C0 (by assumption) (by first | assumption | exact sub_of (by assumption) (by decide +kernel) | exact List.elem_iff.mp (by decide +kernel)) (by omega) (by omega) ?_); intros; conv => whnf) | ((with_reducible refine k_draw S (by omega) ?_); intros; conv => whnf) | ((with_reducible refine k_here S ?_); conv => whnf) | ((with_reducible refine k_new S ?_); conv => whnf) | (refine k_pickS rfl (by simp only [List.length_cons, List.length_nil]; omega) ?_; intros; conv => whnf) | (refine k_pickI rfl (by simp only [List.length_cons, List.length_nil]; omega) ?_; intros; conv => whnf) | (refine k_eqS (t := true) (by decide +kernel) ?_; conv => whnf) | (refine k_eqS (t := false) (by decide +kernel) ?_; conv => whnf) | ((with_reducible refine k_eq0 ?_); conv => whnf) | ((with_reducible refine k_eqI ?_ ?_) <;> (intro h; conv => whnf)) | ((with_reducible refine k_gtI ?_ ?_) <;> (intro h; conv => whnf)) | ((with_reducible refine k_ltI ?_ ?_) <;> (intro h; conv => whnf)) | ((with_reducible refine k_sub1 ?_); conv => whnf) | ((with_reducible refine k_subI ?_); conv => whnf) | ((with_reducible refine k_addI ?_); conv => whnf) | ((with_reducible refine k_tuple ?_); conv => whnf) | ((with_reducible refine k_lenL ?_); conv => whnf))))
  all_goals (refine Fin2.mk ?_; refine dr_i (by omega) ?_; apply TrP.upS; (repeat' (first | (with_reducible refine And.intro ?_ ?_) | (exact TrP.bd (by assumption) (by omega)) | (exact trivial) | (exact NmOk.bd (by assumption) (by omega)) | (exact okI_of (by omega)) | (exact okI_lit (by assumption) (by decide)) | (exact sub_of (by assumption) (by decide +kernel)) | (exact List.elem_iff.mp (by decide +kernel)) | (with_reducible apply tr_num) | (with_reducible apply tr_loc) | (with_reducible apply tr_top) | (with_reducible exact tr_hole) | (with_reducible apply tr_dat0) | (with_reducible apply tr_fn) | (with_reducible apply tr_read) | (with_reducible apply tr_cell) | (with_reducible apply tr_print) | (with_reducible apply tr_let) | (with_reducible apply tr_callby) | (with_reducible apply tr_call) | (with_reducible apply tr_dat2) | (with_reducible apply tr_op) | (with_reducible apply tr_write) | (with_reducible apply tr_swB) | (with_reducible apply tr_sw0) | (with_reducible apply tr_sw2) | (omega))))
/-- the kind of a part of core -/
def headS : D → Str
  | .tup (.str k :: _) => k
  | _ => ""
theorem head_enc (t : T) : headS (enc t) = t.kind := by
  cases t with
  | n0 l => cases l <;> rfl
  | n1 l a => cases l <;> rfl
  | n2 l a b => cases l <;> rfl
  | n3 l a b c => cases l; rfl
/-- an operation, or a call, is drawn -/
def DrW (μ : Mu) (ns : List Int) (g : Nat) (hole : D) (at' cnt : Int) (r : D) (m : Mu) : Prop := Dr μ ns g hole at' cnt 0 12 4 8 r m ∧ (headS r = "op" ∨ headS r = "call")
theorem workedI_b (S : Src c μ ns g) (C0 : SmallOk c μ ns g) {loc : D} {l : List (Int × Str)} {i a b at' cnt : Int} {hole : D} (L : Loc μ g loc l) (hl : l.length ≤ 1000) (n : At i a at' cnt 12) (e4 e5 : Option D) :
    Ok2 ((evSs c b__law_worked [some (.ref 0), some (.ref g), some loc, some (.str "int"), e4, e5] (W μ ns g i a b at' cnt hole)).bind retK) (DrW μ ns g hole at' cnt) := by
  obtain ⟨n1, n2, n3, n4, n5, n6⟩ := n
  refine g_call ?_
  ((conv => whnf); repeat' (first | ((with_reducible refine k_small C0 (by assumption) (by first | assumption | exact sub_of (by assumption) (by decide +kernel) | exact List.elem_iff.mp (by decide +kernel)) (by omega) (by omega) ?_); intros; conv => whnf) | ((with_reducible refine k_draw S (by omega) ?_); intros; conv => whnf) | ((with_reducible refine k_here S ?_); conv => whnf) | ((with_reducible refine k_new S ?_); conv => whnf) | (refine k_pickS rfl (by simp only [List.length_cons, List.length_nil]; omega) ?_; intros; conv => whnf) | (refine k_pickI rfl (by simp only [List.length_cons, List.length_nil]; omega) ?_; intros; conv => whnf) | (refine k_eqS (t := true) (by decide +kernel) ?_; conv => whnf) | (refine k_eqS (t := false) (by decide +kernel) ?_; conv => whnf) | ((with_reducible refine k_eq0 ?_); conv => whnf) | ((with_reducible refine k_eqI ?_ ?_) <;> (intro h; conv => whnf)) | ((with_reducible refine k_gtI ?_ ?_) <;> (intro h; conv => whnf)) | ((with_reducible refine k_ltI ?_ ?_) <;> (intro h; conv => whnf)) | ((with_reducible refine k_sub1 ?_); conv => whnf) | ((with_reducible refine k_subI ?_); conv => whnf) | ((with_reducible refine k_addI ?_); conv => whnf) | ((with_reducible refine k_tuple ?_); conv => whnf) | ((with_reducible refine k_lenL ?_); conv => whnf)))
  · refine Fin2.mk ⟨Fin2.q (Q := Dr μ ns g hole at' cnt 0 12 4 8) ?_, .inl rfl⟩
    (refine Fin2.mk ?_; refine dr_i (by omega) ?_; apply TrP.upS; (repeat' (first | (with_reducible refine And.intro ?_ ?_) | (exact TrP.bd (by assumption) (by omega)) | (exact trivial) | (exact NmOk.bd (by assumption) (by omega)) | (exact okI_of (by omega)) | (exact okI_lit (by assumption) (by decide)) | (exact sub_of (by assumption) (by decide +kernel)) | (exact List.elem_iff.mp (by decide +kernel)) | (with_reducible apply tr_num) | (with_reducible apply tr_loc) | (with_reducible apply tr_top) | (with_reducible exact tr_hole) | (with_reducible apply tr_dat0) | (with_reducible apply tr_fn) | (with_reducible apply tr_read) | (with_reducible apply tr_cell) | (with_reducible apply tr_print) | (with_reducible apply tr_let) | (with_reducible apply tr_callby) | (with_reducible apply tr_call) | (with_reducible apply tr_dat2) | (with_reducible apply tr_op) | (with_reducible apply tr_write) | (with_reducible apply tr_swB) | (with_reducible apply tr_sw0) | (with_reducible apply tr_sw2) | (omega))))
  · refine Fin2.mk ⟨Fin2.q (Q := Dr μ ns g hole at' cnt 0 12 4 8) ?_, .inr rfl⟩
    (refine Fin2.mk ?_; refine dr_i (by omega) ?_; apply TrP.upS; (repeat' (first | (with_reducible refine And.intro ?_ ?_) | (exact TrP.bd (by assumption) (by omega)) | (exact trivial) | (exact NmOk.bd (by assumption) (by omega)) | (exact okI_of (by omega)) | (exact okI_lit (by assumption) (by decide)) | (exact sub_of (by assumption) (by decide +kernel)) | (exact List.elem_iff.mp (by decide +kernel)) | (with_reducible apply tr_num) | (with_reducible apply tr_loc) | (with_reducible apply tr_top) | (with_reducible exact tr_hole) | (with_reducible apply tr_dat0) | (with_reducible apply tr_fn) | (with_reducible apply tr_read) | (with_reducible apply tr_cell) | (with_reducible apply tr_print) | (with_reducible apply tr_let) | (with_reducible apply tr_callby) | (with_reducible apply tr_call) | (with_reducible apply tr_dat2) | (with_reducible apply tr_op) | (with_reducible apply tr_write) | (with_reducible apply tr_swB) | (with_reducible apply tr_sw0) | (with_reducible apply tr_sw2) | (omega))))
end
abbrev Lt : Type := Int × T × Int
def encL (q : Lt) : D := .tup [.int q.1, enc q.2.1, at_ q.2.2]
/-- core that begins with lets -/
def Rw (ls : List Lt) (b : T) : T := ls.foldr (fun q r => .n2 (.lets q.1 q.2.2) q.2.1 r) b
theorem rowL {c : Orc} (d0 : Option D) (m : Mu) : ∀ (us : List Lt) (b : T) (e2 e3 e4 : Option D), ∃ f2 f3 f4, forLoop none (.tp (.cons (.nm 2) (.cons (.nm 3) (.cons (.nm 4) .nil)))) (fun e m => evSs c (.cons (.asg (.nm 1) (.tup (.cons (.lit (.str "let")) (.cons (.var 2) (.cons (.var 3) (.cons (.var 1) (.cons (.var 4) .nil))))))) .nil) e m) (us.map encL) [d0, some (enc b), e2, e3, e4] m =
    some (.nx, [d0, some (enc (us.foldl (fun b q => .n2 (.lets q.1 q.2.2) q.2.1 b) b)), f2, f3, f4], m)
  | [], b, e2, e3, e4 => ⟨e2, e3, e4, rfl⟩
  | q :: us, b, e2, e3, e4 => by
    obtain ⟨f2, f3, f4, h⟩ := rowL (c := c) d0 m us (.n2 (.lets q.1 q.2.2) q.2.1 b) (some (.int q.1)) (some (enc q.2.1)) (some (at_ q.2.2))
    exact ⟨f2, f3, f4, h⟩
theorem row_b {c : Orc} (m : Mu) (ls : List Lt) (b : T) : Ok2 ((evSs c b__law_row [some (.lst (ls.map encL)), some (enc b), none, none, none] m).bind retK) (fun r m' => r = enc (Rw ls b) ∧ m' = m) := by
  refine g_call ?_
  conv => whnf
  refine okv (a := .lst (ls.reverse.map encL)) (by rw [List.map_reverse]; rfl) ?_
  conv => whnf
  refine okv (a := ls.reverse.map encL) rfl ?_
  conv => whnf
  obtain ⟨f2, f3, f4, h⟩ := rowL (c := c) (some (.lst (ls.map encL))) m ls.reverse b none none none
  refine ok3 h ?_
  conv => whnf
  exact ⟨by rw [List.foldl_reverse]; rfl, rfl⟩
theorem rw_at : ∀ (ls : List Lt) (b : T) (q : List Nat), (Rw ls b).at (List.replicate ls.length 1 ++ q) = b.at q
  | [], b, q => rfl
  | x :: ls, b, q => rw_at ls b q
theorem rw_put : ∀ (ls : List Lt) (b u : T) (q : List Nat), (Rw ls b).put (List.replicate ls.length 1 ++ q) u = (b.put q u).map (Rw ls)
  | [], b, u, q => by
    show b.put q u = (b.put q u).map fun x => x
    rw [Option.map_id']
  | x :: ls, b, u, q => by
    show ((Rw ls b).put (List.replicate ls.length 1 ++ q) u).map _ = _
    rw [rw_put ls b u q, Option.map_map]
    rfl
theorem rw_good {b : T} {k s h p : Nat} {B : Int} (G : Good b k s h p B) {s1 h1 p1 : Nat} : ∀ (ls : List Lt), (∀ q ∈ ls, okI q.1 ∧ okI q.2.2 ∧ q.1 < B ∧ Good q.2.1 0 s1 h1 p1 B) →
    Good (Rw ls b) k (s + (s1 + 1) * ls.length) (max h h1 + ls.length) (max p p1 + 2 * ls.length) B
  | [], _ => G.up ⟨rfl, by simp, by simp; omega, by simp; omega, Int.le_refl _⟩
  | x :: ls, H => by
    have ih := rw_good G (s1 := s1) (h1 := h1) (p1 := p1) ls fun q hq => H q (List.mem_cons_of_mem _ hq)
    obtain ⟨x1, x2, x3, x4⟩ := H x List.mem_cons_self
    refine (good_2 (l := .lets x.1 x.2.2) ⟨x1, x2⟩ (one_own x3) x4 ih).up ⟨by omega, ?_, ?_, ?_, Int.le_refl _⟩
    · rw [List.length_cons, Nat.mul_add]; omega
    · rw [List.length_cons]; omega
    · rw [List.length_cons]; omega
end Pl

namespace Pl
open PySem L2
def n__law_value : List Str := ["state", "bag", "local", "kind", "names", "name", "told"]
def n__law_worked : List Str := ["state", "bag", "local", "kind", "first", "one"]
def n__law_row : List Str := ["lets_v", "body", "name", "value", "place"]
def b_law : ASs := (.cons (.asg (.nm 1) (.nls (.cons (.bi .list (.cons (.var 0) .nil)) (.cons (.lit (.int 0)) (.cons (.lit (.int 0)) (.cons (.lit (.int 1)) .nil)))))) (.cons (.for_ (.nm 2) (.rng (.lit (.int 5))) (.cons (.asg (.nm 3) (.call 40 .nil)) (.cons (.asg (.nm 4) (.call 33 (.cons (.var 1) (.cons (.var 3) (.cons (.lst (.cons (.tup (.cons (.lit (.int 0)) (.cons (.lit (.str "int")) .nil))) (.cons (.tup (.cons (.lit (.int 1)) (.cons (.lit (.str "list")) .nil))) .nil))) (.cons (.lit (.str "int")) (.cons (.call 26 (.cons (.var 1) (.cons (.lit (.int 5)) .nil))) .nil))))))) (.cons (.asg (.tp (.cons (.nm 10) (.cons (.nm 11) .nil))) (.idx (.var 3) (.lit (.str "hole")))) (.cons (.asg (.nm 5) (.call 38 (.cons (.var 4) .nil))) (.cons (.asg2 12 13 (.nls .nil) (.bi .nlist (.cons (.var 11) .nil))) (.cons (.for_ (.nm 6) (.rng (.bin .Add (.lit (.int 1)) (.call 26 (.cons (.var 1) (.cons (.lit (.int 4)) .nil))))) (.cons (.asg (.nm 14) (.idx (.lst (.cons (.lit (.str "int")) (.cons (.lit (.str "bool")) (.cons (.lit (.str "list")) (.cons (.lit (.str "cell")) (.cons (.lit (.str "fn")) .nil)))))) (.call 26 (.cons (.var 1) (.cons (.lit (.int 5)) .nil))))) (.cons (.asg (.nm 7) (.ife (.val (.cmp .NotEq (.var 14) (.lit (.str "fn")))) (.call 45 (.cons (.var 1) (.cons (.var 3) (.cons (.var 13) (.cons (.var 14) .nil))))) (.call 44 (.cons (.var 1) (.cons (.var 3) (.cons (.var 13) (.cons (.lit (.str "fn")) .nil))))))) (.cons (.asg (.nm 15) (.call 28 (.cons (.var 3) .nil))) (.cons (.expr (.app (.var 12) (.tup (.cons (.var 15) (.cons (.var 7) (.cons (.call 27 (.cons (.var 3) .nil)) .nil)))))) (.cons (.expr (.app (.var 13) (.tup (.cons (.var 15) (.cons (.var 14) .nil))))) .nil)))))) (.cons (.asg (.nm 7) (.call 45 (.cons (.var 1) (.cons (.var 3) (.cons (.var 13) (.cons (.lit (.str "int")) .nil)))))) (.cons (.asg2 15 16 (.call 28 (.cons (.var 3) .nil)) (.call 27 (.cons (.var 3) .nil))) (.cons (.asg (.nm 8) (.call 30 (.cons (.var 1) (.cons (.var 3) (.cons (.bin .Add (.var 11) (.lst (.cons (.tup (.cons (.var 15) (.cons (.lit (.str "int")) .nil))) .nil))) (.cons (.var 10) (.cons (.lit (.int 3)) .nil))))))) (.cons (.ife (.val (.cmp .Eq (.call 26 (.cons (.var 1) (.cons (.lit (.int 2)) .nil))) (.lit (.int 0)))) (.cons (.asg (.nm 8) (.tup (.cons (.lit (.str "let")) (.cons (.call 28 (.cons (.var 3) .nil)) (.cons (.tup (.cons (.lit (.str "print")) (.cons (.tup (.cons (.lit (.str "local")) (.cons (.var 15) (.cons (.call 27 (.cons (.var 3) .nil)) .nil)))) (.cons (.call 27 (.cons (.var 3) .nil)) .nil)))) (.cons (.var 8) (.cons (.call 27 (.cons (.var 3) .nil)) .nil))))))) .nil) .nil) (.cons (.asg (.nm 9) (.nls .nil)) (.cons (.for_ (.nm 6) (.rng (.bin .Add (.bi .len (.cons (.var 12) .nil)) (.lit (.int 1)))) (.cons (.asg (.nm 17) (.tup (.cons (.lit (.str "let")) (.cons (.var 15) (.cons (.call 46 (.cons (.sl (.var 12) (.yes (.var 6)) .no) (.cons (.var 7) .nil))) (.cons (.var 8) (.cons (.var 16) .nil))))))) (.cons (.expr (.app (.var 9) (.call 37 (.cons (.var 4) (.cons (.call 46 (.cons (.sl (.var 12) .no (.yes (.var 6))) (.cons (.var 17) .nil))) .nil))))) .nil))) (.cons (.for_ (.nm 6) (.rng (.bin .Add (.bi .len (.cons (.var 12) .nil)) (.lit (.int 1)))) (.cons (.asg (.nm 18) (.ife (.val (.cmp .Lt (.var 6) (.bi .len (.cons (.var 12) .nil)))) (.idx (.var 9) (.bin .Add (.var 6) (.lit (.int 1)))) (.lit .none))) (.cons (.ife (.not (.val (.call 43 (.cons (.call 41 (.cons (.var 3) (.cons (.idx (.var 9) (.var 6)) .nil))) (.cons (.bin .Add (.var 5) (.bin .Mult (.tup (.cons (.lit (.int 1)) .nil)) (.var 6))) (.cons (.lit (.str "let of let")) (.cons (.var 18) (.cons (.lst .nil) .nil)))))))) (.cons (.ret (.lit (.bool false))) .nil) .nil) .nil))) .nil)))))))))))))) (.cons (.ret (.lit (.bool true))) .nil)))
def n_law : List Str := ["script", "state", "turn", "bag", "tree", "path", "k", "value", "body", "told", "kind", "local", "inner", "known", "sort", "name", "here", "one", "due"]
def R_k16 : List PDef := PDef.mk 4 7 b__law_value :: PDef.mk 4 6 b__law_worked :: PDef.mk 2 5 b__law_row :: PDef.mk 1 19 b_law :: []
theorem cf__law_value (n : Nat) (μ : Mu) (d0 d1 d2 d3 : D) : callF (Pc ++ Rs R_k16) (n + 1) 44 [d0, d1, d2, d3] μ = (evSs (callF (Pc ++ Rs R_k16) n) b__law_value [some d0, some d1, some d2, some d3, none, none, none] μ).bind retK := by kernel_rfl
theorem cf__law_worked (n : Nat) (μ : Mu) (d0 d1 d2 d3 : D) : callF (Pc ++ Rs R_k16) (n + 1) 45 [d0, d1, d2, d3] μ = (evSs (callF (Pc ++ Rs R_k16) n) b__law_worked [some d0, some d1, some d2, some d3, none, none] μ).bind retK := by kernel_rfl
theorem cf__law_row (n : Nat) (μ : Mu) (d0 d1 : D) : callF (Pc ++ Rs R_k16) (n + 1) 46 [d0, d1] μ = (evSs (callF (Pc ++ Rs R_k16) n) b__law_row [some d0, some d1, none, none, none] μ).bind retK := by kernel_rfl
theorem cf_law (n : Nat) (μ : Mu) (d0 : D) : callF (Pc ++ Rs R_k16) (n + 1) 47 [d0] μ = (evSs (callF (Pc ++ Rs R_k16) n) b_law [some d0, none, none, none, none, none, none, none, none, none, none, none, none, none, none, none, none, none, none] μ).bind retK := by kernel_rfl

section
variable {x h : Int} {l : L2t} {a b v c : T}
theorem no_ks : RuleNo (.n2 (.lets x h) v c) 14 := fun R n i w μ => ks_let R (n + 69) μ _ _ x h _ _
theorem no_cp : RuleNo (.n2 (.lets x h) v c) 17 := fun R n i w μ => cp_let R (n + 69) μ _ _ x h _ _
theorem no_kf : RuleNo (.n2 (.lets x h) v c) 18 := fun R n i w μ => kf_let R (n + 69) μ _ _ x h _ _
theorem no_nr : RuleNo (.n2 (.lets x h) v c) 19 := fun R n i w μ => nr_let R (n + 69) μ _ _ x h _ _
theorem no_sl : RuleNo (.n2 (.lets x h) v c) 21 := fun R n i w μ => sl_let R (n + 69) μ _ _ x h _ _
theorem no_sa : RuleNo (.n2 (.lets x h) v c) 23 := fun R n i w μ => sa_let R (n + 69) μ _ _ x h _ _
theorem no_vp2 : RuleNo (.n2 (.lets x h) (.n2 l a b) c) 15 := fun R n i w μ => by cases l <;> kernel_rfl
def L2t.nodat : L2t → Prop
  | .dat _ => False
  | _ => True
def L2t.nolet : L2t → Prop
  | .lets _ _ => False
  | _ => True
theorem no_lo2 (hl : l.nodat) : RuleNo (.n2 (.lets x h) (.n2 l a b) c) 16 := fun R n i w μ => by
  cases l <;> first | exact hl.elim | kernel_rfl
theorem no_ll2 (hl : l.nolet) : RuleNo (.n2 (.lets x h) (.n2 l a b) c) 20 := fun R n i w μ => by
  cases l <;> first | exact hl.elim | kernel_rfl
theorem yes_ll {y k : Int} : RuleYes (.n2 (.lets x h) (.n2 (.lets y k) a b) c) 20 (.n2 (.lets y k) a (.n2 (.lets x h) b c)) := fun R n i w μ => ll_let R (n + 69) μ _ _ x h y k _ _ _
end
theorem oths_ll {x h : Int} {l : L2t} {a b c : T} (hl : l.nodat) : Oths (.n2 (.lets x h) (.n2 l a b) c) "let of let" [] := fun r hr => by
  obtain ⟨t1, t2, t3, t4, t5, t6, t7, t8, t9⟩ := tabs9
  simp only [rules9, List.mem_cons, List.not_mem_nil, or_false] at hr
  rcases hr with rfl | rfl | rfl | rfl | rfl | rfl | rfl | rfl | rfl
  · exact .inr (.inr ⟨_, t1, no_ks⟩)
  · exact .inr (.inr ⟨_, t2, no_vp2⟩)
  · exact .inr (.inr ⟨_, t3, no_lo2 hl⟩)
  · exact .inr (.inr ⟨_, t4, no_cp⟩)
  · exact .inr (.inr ⟨_, t5, no_kf⟩)
  · exact .inr (.inr ⟨_, t6, no_nr⟩)
  · exact .inl rfl
  · exact .inr (.inr ⟨_, t8, no_sl⟩)
  · exact .inr (.inr ⟨_, t9, no_sa⟩)
theorem opcall {t : T} (h : t.kind = "op" ∨ t.kind = "call") : ∃ l a b, t = .n2 l a b ∧ l.nodat ∧ l.nolet := by
  cases t with
  | n0 l => cases l <;> exact absurd h (by simp only [T.kind, L0.kind]; decide +kernel)
  | n1 l a => cases l <;> exact absurd h (by simp only [T.kind, L1.kind]; decide +kernel)
  | n3 l a b c => cases l; exact absurd h (by simp only [T.kind]; decide +kernel)
  | n2 l a b =>
    refine ⟨l, a, b, rfl, ?_⟩
    cases l <;> first | exact ⟨trivial, trivial⟩ | exact absurd h (by simp only [T.kind, L2t.kind]; decide +kernel)
section
variable (t v body : T) (name here : Int) (ls : List Lt)
def Tk (k : Nat) : T := t.fill (Rw (ls.take k) (.n2 (.lets name here) (Rw (ls.drop k) v) body))
theorem rw_app (a b : List Lt) (c : T) : Rw (a ++ b) c = Rw a (Rw b c) := List.foldr_append
variable {t v body name here ls} {p : List Nat} (hp : ∀ s q, (t.fill s).at (p ++ q) = s.at q ∧ ∀ u, (t.fill s).put (p ++ q) u = (s.put q u).map t.fill)
include hp
theorem tk_at {k : Nat} (hk : k ≤ ls.length) : (Tk t v body name here ls k).at (p ++ List.replicate k 1) = some (.n2 (.lets name here) (Rw (ls.drop k) v) body) := by
  have hl : (ls.take k).length = k := by rw [List.length_take]; omega
  have := rw_at (ls.take k) (.n2 (.lets name here) (Rw (ls.drop k) v) body) []
  rw [hl, List.append_nil] at this
  rw [Tk, (hp _ _).1, this]
  rfl
theorem tk_put {k : Nat} (hk : k < ls.length) : (Tk t v body name here ls k).put (p ++ List.replicate k 1) (.n2 (.lets ls[k].1 ls[k].2.2) ls[k].2.1 (.n2 (.lets name here) (Rw (ls.drop (k + 1)) v) body)) = some (Tk t v body name here ls (k + 1)) := by
  have hl : (ls.take k).length = k := by rw [List.length_take]; omega
  have := fun u => rw_put (ls.take k) (.n2 (.lets name here) (Rw (ls.drop k) v) body) u []
  simp only [hl, List.append_nil] at this
  rw [Tk, (hp _ _).2, this]
  have e : ls.take (k + 1) = ls.take k ++ [ls[k]] := by rw [List.take_succ_eq_append_getElem hk]
  rw [Tk, e, rw_app]
  rfl
end
def turnB : ASs := lastB 1 b_law
/-- what stands behind a turn -/
def Inv (ns : List Int) (script : Option D) (e : En) (m : Mu) : Prop := ∃ r μ i a b, e = script :: some (.ref 0) :: r ∧ r.length = 17 ∧ m = SS μ ns i a b ∧ 0 < μ.length ∧ 0 ≤ i ∧ 0 ≤ a
/-- what the laws own defs do -/
structure Own16 (c : Orc) (ns : List Int) : Prop where
  value : ∀ {μ : Mu} {g : Nat}, 0 < g ∧ g < μ.length → GenOk 44 c μ ns g 72 6 12 5
  worked : ∀ {μ : Mu} {g : Nat}, 0 < g ∧ g < μ.length → GenOk 45 c μ ns g 12 4 8 0
  workedI : ∀ {μ : Mu} {g : Nat} {loc : D} {l : List (Int × Str)} {i a b at' cnt : Int} {hole : D}, 0 < g ∧ g < μ.length → Loc μ g loc l → l.length ≤ 1000 → At i a at' cnt 12 → Ok2 (c 45 [.ref 0, .ref g, loc, .str "int"] (W μ ns g i a b at' cnt hole)) (DrW μ ns g hole at' cnt)
  row : ∀ (m : Mu) (ls : List Lt) (b : T), c 46 [.lst (ls.map encL), enc b] m = some (enc (Rw ls b), m)
theorem own16 (ns : List Int) : Own16 (callF (Pc ++ Rs R_k16) 99) ns where
  value := fun {μ g} hg => @fun loc l k i a b at' cnt hole L hk hl n => by
    rw [cf__law_value]
    exact value_b (src_at (Rs R_k16) 97 hg.1 hg.2) (@core_ok (Rs R_k16) μ ns g hg 2 98 (by decide)) L hk hl n
  worked := fun {μ g} hg => @fun loc l k i a b at' cnt hole L hk hl n => by
    rw [cf__law_worked]
    exact worked_b (src_at (Rs R_k16) 97 hg.1 hg.2) (@small_ok (Rs R_k16) μ ns g hg 98 (by decide)) L hk hl n _ _
  workedI := fun {μ g loc l i a b at' cnt hole} hg L hl n => by
    rw [cf__law_worked]
    exact workedI_b (src_at (Rs R_k16) 97 hg.1 hg.2) (@small_ok (Rs R_k16) μ ns g hg 98 (by decide)) L hl n _ _
  row := fun m ls b => by
    rw [cf__law_row]
    exact ok2_is (row_b m ls b)
theorem k_drW {μ : Mu} {ns : List Int} {g : Nat} {x : Option (D × Mu)} {hole : D} {at' cnt : Int} {Q : D → Mu → Prop} (D : Ok2 x (DrW μ ns g hole at' cnt))
    (q : ∀ (t : T) i a b at2 cnt2, 0 ≤ i → 0 ≤ a → at' ≤ at2 → at2 ≤ at' + 12 → cnt ≤ cnt2 → cnt2 ≤ cnt + 12 → Good t 0 12 4 8 cnt2 → (t.kind = "op" ∨ t.kind = "call") → Q (enc t) (W μ ns g i a b at2 cnt2 hole)) : Ok2 x Q := by
  obtain ⟨t, m, e, ⟨i, a, b, at2, cnt2, rfl, n, A⟩, hd⟩ := D
  obtain ⟨t, rfl, A, _⟩ := A
  rw [head_enc] at hd
  exact ⟨_, _, e, q t i a b at2 cnt2 n.1 n.2.1 n.2.2.1 n.2.2.2.1 n.2.2.2.2.1 n.2.2.2.2.2 A hd⟩
theorem turn16b {c : Orc} {ns : List Int} (L : LibS c ns) (O : Own16 c ns) {μ : Mu} {g gi gk : Nat} {i a b at' cnt : Int} (hg : 0 < g ∧ g < μ.length) (hi : 0 ≤ i) (ha : 0 ≤ a) {t v body : T} {name here : Int} {ls : List Lt} {p : List Nat} {k' : Str} {loc' : D} (s d2 o6 d9 o14 d17 d18 : Option D)
    (ri : gi ≠ 0 ∧ gi ≠ g) (e1 : μ[gi]? = some (.lst (ls.map encL))) (hls : ∀ q ∈ ls, okI q.1 ∧ okI q.2.2 ∧ q.1 < cnt ∧ Good q.2.1 0 72 6 12 cnt) (hln : ls.length ≤ 4) (G : Good t 1 289 10 23 cnt) (Gv : Good v 0 12 4 8 cnt) (hv : v.kind = "op" ∨ v.kind = "call") (Gb : Good body 0 300 10 19 cnt)
    (hfill : ∀ s q, (t.fill s).at (p ++ q) = s.at q ∧ ∀ u, (t.fill s).put (p ++ q) u = (s.put q u).map t.fill) (hpl : p.length ≤ 10) (hnm : name < cnt) (ok : okI name ∧ okI here) (hcnt : 0 ≤ cnt ∧ cnt ≤ 5000) :
    wSs c (dropS 10 turnB) [s, some (.ref 0), d2, some (.ref g), some (enc t), some (natsD p), o6, some (enc v), some (enc body), d9, some (.str k'), some loc', some (.ref gi), some (.ref gk), o14, some (.int name), some (at_ here), d17, d18] (W μ ns g i a b at' cnt (.tup [.str k', loc']))
      (Fin3 fun f e m => f = .nx ∧ Inv ns s e m) := by
  have hgi : gi < μ.length := (List.getElem?_eq_some_iff.mp e1).1
  have rt : μ.length ≠ 0 ∧ μ.length ≠ g := by omega
  have fit : ∀ k, (Tk t v body name here ls k).fit := by
    intro k
    have h1 : (ls.take k).length ≤ 4 := by rw [List.length_take]; omega
    have h2 : (ls.drop k).length ≤ 4 := by rw [List.length_drop]; omega
    have h3 : (ls.take k).length + (ls.drop k).length ≤ 4 := by rw [List.length_take, List.length_drop]; omega
    have r1 := rw_good Gv (s1 := 72) (h1 := 6) (p1 := 12) (ls.drop k) fun q hq => hls q (List.mem_of_mem_drop hq)
    have r2 := good_2 (l := .lets name here) ok (one_own hnm) r1 Gb
    have r3 := rw_good r2 (s1 := 72) (h1 := 6) (p1 := 12) (ls.take k) fun q hq => hls q (List.mem_of_mem_take hq)
    exact (fill_good G r3 rfl).fit ⟨by omega, by omega, by omega⟩
  conv => whnf
  refine k_newW hg.2 ?_
  conv => whnf
  refine k_rng ?_
  conv => whnf
  refine k_lenR (xs := ls.map encL) ri (by rw [List.getElem?_append_left hgi]; exact e1) ?_
  conv => whnf
  refine k_addI ?_
  refine ⟨ls.length + 1, by rw [List.length_map]; rfl, by omega, ?_⟩
  refine for_rng (ls.length + 1) (P := fun k env m => ∃ (μ2 : Mu) (o6 o17 : Option D),
    env = [s, some (.ref 0), d2, some (.ref g), some (enc t), some (natsD p), o6, some (enc v), some (enc body), some (.ref μ.length), some (.str k'), some loc', some (.ref gi), some (.ref gk), o14, some (.int name), some (at_ here), o17, d18] ∧
    m = W μ2 ns g i a b at' cnt (.tup [.str k', loc']) ∧ μ2.length = μ.length + 1 ∧ μ2[gi]? = some (.lst (ls.map encL)) ∧ μ2[μ.length]? = some (.lst ((List.range k).map fun j => enc (Tk t v body name here ls j)))) ?step ?start ?next
  case start => exact ⟨_, _, _, rfl, rfl, by simp, by rw [List.getElem?_append_left hgi]; exact e1, by simp⟩
  case step =>
    rintro j env m hj ⟨μ2, o6, o17, rfl, rfl, hlen, f1, f2⟩
    conv => whnf
    refine k_dropR ri f1 (by rw [List.length_map]; omega) ?_
    conv => whnf
    refine ok2 (a := enc (Rw (ls.drop j) v)) (by rw [← List.map_drop]; exact O.row _ _ _) ?_
    conv => whnf
    refine k_isL rt f2 ?_
    conv => whnf
    refine k_takeR ri f1 ?_
    conv => whnf
    refine ok2 (a := enc (Rw (ls.take j) (.n2 (.lets name here) (Rw (ls.drop j) v) body))) (by rw [← List.map_take]; exact O.row _ (ls.take j) (.n2 (.lets name here) (Rw (ls.drop j) v) body)) ?_
    conv => whnf
    refine ok2 (L.fill (by have := G.ht; omega)) ?_
    conv => whnf
    refine k_appR rt f2 (by rw [List.length_map, List.length_range]; omega) ?_
    conv => whnf
    refine ⟨rfl, _, _, _, rfl, rfl, by rw [List.length_set]; exact hlen, ?_, ?_⟩
    · rw [List.getElem?_set_ne (by omega)]; exact f1
    · rw [List.getElem?_set_self (by omega), List.range_succ, List.map_append]; rfl
  case next =>
    rintro env m ⟨μ2, o6, o17, rfl, rfl, hlen, f1, f2⟩
    conv => whnf
    refine k_rng ?_
    conv => whnf
    refine k_lenR ri f1 ?_
    conv => whnf
    refine k_addI ?_
    refine ⟨ls.length + 1, by rw [List.length_map]; rfl, by omega, ?_⟩
    refine for_rng (ls.length + 1) (P := fun k env m => ∃ (μ3 : Mu) (o6 o18 : Option D),
      env = [s, some (.ref 0), d2, some (.ref g), some (enc t), some (natsD p), o6, some (enc v), some (enc body), some (.ref μ.length), some (.str k'), some loc', some (.ref gi), some (.ref gk), o14, some (.int name), some (at_ here), o17, o18] ∧
      m = W μ3 ns g i a b at' cnt (.tup [.str k', loc']) ∧ μ.length + 1 ≤ μ3.length ∧ μ3[gi]? = some (.lst (ls.map encL)) ∧ μ3[μ.length]? = some (.lst ((List.range (ls.length + 1)).map fun j => enc (Tk t v body name here ls j)))) ?step ?start ?next
    case start => exact ⟨_, _, _, rfl, rfl, by omega, f1, f2⟩
    case next =>
      rintro env m ⟨μ3, o6, o18, rfl, rfl, hlen, f1, f2⟩
      conv => whnf
      exact ⟨rfl, _, _, _, _, _, rfl, rfl, rfl, by rw [List.length_set]; omega, hi, ha⟩
    case step =>
      rintro j env m hj ⟨μ3, o6, o18, rfl, rfl, hlen, f1, f2⟩
      have hg3 : 0 < g ∧ g < μ3.length := by omega
      have told : ∀ k, k ≤ ls.length → ((List.range (ls.length + 1)).map fun j => enc (Tk t v body name here ls j))[k]? = some (enc (Tk t v body name here ls k)) := by
        intro k hk
        rw [List.getElem?_map, List.getElem?_range (by omega)]; rfl
      conv => whnf
      refine k_lenR ri f1 ?_
      conv => whnf
      refine k_ltI (fun hlt => ?_) (fun hlt => ?_)
      · rw [List.length_map] at hlt
        have hj2 : j < ls.length := by omega
        conv => whnf
        refine k_addI ?_
        refine k_idxR rt f2 (k := j + 1) rfl (told _ (by omega)) ?_
        conv => whnf
        refine k_idxR rt f2 (k := j) rfl (told _ (by omega)) ?_
        conv => whnf
        refine ok2 (L.fns hg3 ⟨hcnt.1, by omega⟩) ?_
        conv => whnf
        refine k_mul1 (by omega) ?_
        refine k_addP (by omega) ?_
        conv => whnf
        have hd : ls.drop j = ls[j] :: ls.drop (j + 1) := List.drop_eq_getElem_cons hj2
        have ha' := tk_at hfill (v := v) (body := body) (name := name) (here := here) (ls := ls) (k := j) (by omega)
        rw [hd] at ha'
        obtain ⟨e, he⟩ := L.yes (μ := W (μ3 ++ [fns3 (enc (Tk t v body name here ls j)) (tlW cnt.toNat)]) ns g i a b at' cnt (.tup [.str k', loc'])) (i := μ3.length) (k := cnt.toNat) (also := []) (fit j) (by omega) (by rw [w_get (by omega) (by omega)]; simp) ha' tabs9.2.2.2.2.2.2.1 yes_ll (tk_put hfill hj2) (fit (j + 1)) (by rw [List.length_append, List.length_replicate]; omega) (oths_ll (by exact trivial))
        refine ok2 he ?_
        rw [w_app _ (by simp; omega)]
        conv => whnf
        refine ⟨rfl, _, _, _, rfl, rfl, by simp; omega, ?_, ?_⟩
        · rw [List.append_assoc, List.getElem?_append_left (by omega)]; exact f1
        · rw [List.append_assoc, List.getElem?_append_left (by omega)]; exact f2
      · rw [List.length_map] at hlt
        have hj2 : j = ls.length := by omega
        subst hj2
        conv => whnf
        refine k_idxR rt f2 (k := ls.length) rfl (told _ (by omega)) ?_
        conv => whnf
        refine ok2 (L.fns hg3 ⟨hcnt.1, by omega⟩) ?_
        conv => whnf
        refine k_mul1 (by omega) ?_
        refine k_addP (by omega) ?_
        conv => whnf
        obtain ⟨l2, v1, v2, rfl, nd, nl⟩ := opcall hv
        have ha' := tk_at hfill (v := .n2 l2 v1 v2) (body := body) (name := name) (here := here) (ls := ls) (k := ls.length) (by omega)
        rw [List.drop_length] at ha'
        have he := L.no (μ := W (μ3 ++ [fns3 (enc (Tk t (.n2 l2 v1 v2) body name here ls ls.length)) (tlW cnt.toNat)]) ns g i a b at' cnt (.tup [.str k', loc'])) (i := μ3.length) (k := cnt.toNat) (also := []) (fit ls.length) (by omega) (by rw [w_get (by omega) (by omega)]; simp) ha' tabs9.2.2.2.2.2.2.1 (no_ll2 nl) (oths_ll nd)
        refine ok2 he ?_
        conv => whnf
        refine ⟨rfl, _, _, _, rfl, rfl, by simp; omega, ?_, ?_⟩
        · rw [List.getElem?_append_left (by omega)]; exact f1
        · rw [List.getElem?_append_left (by omega)]; exact f2
theorem turn16 {c : Orc} {ns : List Int} (L : LibS c ns) (O : Own16 c ns) {μ : Mu} {i a b : Int} (h0 : 0 < μ.length) (hi : 0 ≤ i) (ha : 0 ≤ a) (s d2 d3 d4 d5 d6 d7 d8 d9 d10 d11 d12 d13 d14 d15 d16 d17 d18 : Option D) :
    wSs c turnB [s, some (.ref 0), d2, d3, d4, d5, d6, d7, d8, d9, d10, d11, d12, d13, d14, d15, d16, d17, d18] (SS μ ns i a b) (Fin3 fun f e m => f = .nx ∧ Inv ns s e m) := by
  conv => whnf
  refine ok2 (L.bag h0) ?_
  conv => whnf
  have hg : 0 < μ.length ∧ μ.length < (μ ++ [bagO 0 2 .non]).length := ⟨h0, by simp⟩
  generalize μ ++ [bagO 0 2 .non] = μ1 at hg ⊢
  generalize μ.length = g at hg ⊢
  refine k_draw (L.src hg) ⟨hi, ha, by decide, by decide⟩ ?_
  intro x i a b x0 x1 hi ha
  obtain ⟨d, rfl⟩ : ∃ d : Nat, x = (d : Nat) := ⟨x.toNat, by omega⟩
  conv => whnf
  refine k_aroundT (L.around d hg (by omega)) loc_0 (by omega) (by decide +kernel) (by simp; omega) (by omega) ?_
  intro t i a b at1 cnt1 k' loc' l' hi ha ha1 ha2 hc1 hc2 G hk' LlB hl'
  have Ll := LlB.loc
  simp only [List.length_cons, List.length_nil] at hl'
  conv => whnf
  refine okv (b_hole hg.1 hg.2) ?_
  conv => whnf
  obtain ⟨p, hp, hfill⟩ := hole1 G.ho
  have hht := G.ht
  refine ok2 (L.path (by omega)) ?_
  rw [hp]
  conv => whnf
  refine k_newW hg.2 ?_
  conv => whnf
  refine k_nlist (by simp; omega) (Ll.app _) ?_
  conv => whnf
  refine k_rng ?_
  conv => whnf
  refine k_draw (L.src ⟨hg.1, by simp; omega⟩) ⟨hi, ha, by decide, by decide⟩ ?_
  intro x i a b y0 y1 hi ha
  obtain ⟨y, rfl⟩ : ∃ y : Nat, x = (y : Nat) := ⟨x.toNat, by omega⟩
  conv => whnf
  refine k_addI ?_
  refine ⟨1 + y, by simp, by omega, ?_⟩
  have hN : (μ1 ++ [Ob.lst []]).length = μ1.length + 1 := by simp
  rw [hN]
  refine for_rng (1 + y) (P := fun j env m => ∃ (ls : List Lt) (l : List (Int × Str)) (μ' : Mu) (i a b at2 cnt2 : Int) (o6 o7 o14 o15 : Option D),
    env = [s, some (.ref 0), d2, some (.ref g), some (enc t), some (natsD p), o6, o7, d8, d9, some (.str k'), some loc', some (.ref μ1.length), some (.ref (μ1.length + 1)), o14, o15, d16, d17, d18] ∧
    m = W μ' ns g i a b at2 cnt2 (.tup [.str k', loc']) ∧ μ'.length = μ1.length + 2 ∧ (∀ r, r < μ1.length → μ'[r]? = μ1[r]?) ∧ μ'[μ1.length]? = some (.lst (ls.map encL)) ∧ μ'[μ1.length + 1]? = some (.lst (l.map encP)) ∧
    ls.length = j ∧ l.length = l'.length + j ∧ (∀ q ∈ l, okI q.1) ∧ (∀ q ∈ ls, okI q.1 ∧ okI q.2.2 ∧ q.1 < cnt2 ∧ Good q.2.1 0 72 6 12 cnt2) ∧
    (0 ≤ i ∧ 0 ≤ a ∧ at1 ≤ at2 ∧ at2 ≤ at1 + 80 * j ∧ cnt1 ≤ cnt2 ∧ cnt2 ≤ cnt1 + 80 * j)) ?step ?start ?next
  case start =>
    refine ⟨[], l', _, _, _, _, _, _, d6, d7, d14, d15, rfl, rfl, by simp, fun r hr => ?_, by simp, ?_, rfl, rfl, Ll.ok, fun q hq => (by cases hq), by omega⟩
    · rw [List.append_assoc, List.getElem?_append_left hr]
    · rw [List.getElem?_append_right (by simp)]; simp
  case step =>
    rintro j env m hj ⟨ls, l, μ', i, a, b, at2, cnt2, o6, o7, o14, o15, rfl, rfl, hlen, hag, e1, e2, rfl, hl, hok, hls, hi, ha, h1, h2, h3, h4⟩
    have hg' : 0 < g ∧ g < μ'.length := ⟨hg.1, by omega⟩
    have ri : μ1.length ≠ 0 ∧ μ1.length ≠ g := by omega
    have rk : μ1.length + 1 ≠ 0 ∧ μ1.length + 1 ≠ g := by omega
    have Lk : Loc μ' g (.ref (μ1.length + 1)) l := ⟨.inr ⟨_, rfl, rk.1, rk.2, e2⟩, by omega, hok⟩
    have S := L.src (ns := ns) hg'
    conv => whnf
    refine k_draw S ⟨hi, ha, by decide, by decide⟩ ?_
    intro x i a b z0 z1 hi ha
    conv => whnf
    refine k_pickS rfl (by simp only [List.length_cons, List.length_nil]; omega) ?_
    intro so hso
    conv => whnf
    refine k_neSv (fun hn => ?_) (fun hn => ?_)
    · conv => whnf
      refine k_drT (O.worked hg' Lk (sub_of hso (by decide +kernel)) (by omega) (show At _ _ _ _ 12 from ⟨hi, ha, by omega, by omega, by omega, by omega⟩)) ?_
      intro v i a b at3 cnt3 hi ha h5 h6 h7 h8 Gv
      conv => whnf
      refine k_new S ?_
      conv => whnf
      refine k_isL ri e1 ?_
      conv => whnf
      refine k_here S ?_
      conv => whnf
      refine k_appR ri e1 (by rw [List.length_map]; omega) ?_
      conv => whnf
      refine k_isL (xs := l.map encP) rk (by rw [List.getElem?_set_ne (by omega)]; exact e2) ?_
      conv => whnf
      refine k_appR (xs := l.map encP) rk (by rw [List.getElem?_set_ne (by omega)]; exact e2) (by rw [List.length_map]; omega) ?_
      conv => whnf
      refine ⟨rfl, ls ++ [(cnt3, v, at3 + 1)], l ++ [(cnt3, so)], _, _, _, _, _, _, _, _, _, _, rfl, rfl, ?_, ?_, ?_, ?_, ?_, ?_, ?_, ?_, ?_⟩
      · rw [List.length_set, List.length_set]; exact hlen
      · intro r hr
        rw [List.getElem?_set_ne (by omega), List.getElem?_set_ne (by omega)]
        exact hag r hr
      · rw [List.getElem?_set_ne (by omega), List.getElem?_set_self (by omega), List.map_append]; rfl
      · rw [List.getElem?_set_self (by rw [List.length_set]; omega), List.map_append]; rfl
      · simp
      · simp; omega
      · intro q hq
        rcases List.mem_append.mp hq with hq | hq
        · exact hok q hq
        · simp only [List.mem_cons, List.not_mem_nil, or_false] at hq
          rw [hq]; exact okI_of (by omega)
      · intro q hq
        rcases List.mem_append.mp hq with hq | hq
        · obtain ⟨q1, q2, q3, q4⟩ := hls q hq
          exact ⟨q1, q2, by omega, q4.bd (by omega)⟩
        · simp only [List.mem_cons, List.not_mem_nil, or_false] at hq
          subst hq
          exact ⟨okI_of (by dsimp only; omega), okI_of (by dsimp only; omega), by show cnt3 < _; omega, Gv.up ⟨rfl, by decide, by decide, by decide, by omega⟩⟩
      · refine ⟨hi, ha, ?_, ?_, ?_, ?_⟩ <;> omega
    · conv => whnf
      refine k_drT (O.value hg' Lk (List.elem_iff.mp (by decide +kernel)) (by omega) (show At _ _ _ _ 72 from ⟨hi, ha, by omega, by omega, by omega, by omega⟩)) ?_
      intro v i a b at3 cnt3 hi ha h5 h6 h7 h8 Gv
      conv => whnf
      refine k_new S ?_
      conv => whnf
      refine k_isL ri e1 ?_
      conv => whnf
      refine k_here S ?_
      conv => whnf
      refine k_appR ri e1 (by rw [List.length_map]; omega) ?_
      conv => whnf
      refine k_isL (xs := l.map encP) rk (by rw [List.getElem?_set_ne (by omega)]; exact e2) ?_
      conv => whnf
      refine k_appR (xs := l.map encP) rk (by rw [List.getElem?_set_ne (by omega)]; exact e2) (by rw [List.length_map]; omega) ?_
      conv => whnf
      refine ⟨rfl, ls ++ [(cnt3, v, at3 + 1)], l ++ [(cnt3, so)], _, _, _, _, _, _, _, _, _, _, rfl, rfl, ?_, ?_, ?_, ?_, ?_, ?_, ?_, ?_, ?_⟩
      · rw [List.length_set, List.length_set]; exact hlen
      · intro r hr
        rw [List.getElem?_set_ne (by omega), List.getElem?_set_ne (by omega)]
        exact hag r hr
      · rw [List.getElem?_set_ne (by omega), List.getElem?_set_self (by omega), List.map_append]; rfl
      · rw [List.getElem?_set_self (by rw [List.length_set]; omega), List.map_append]; rfl
      · simp
      · simp; omega
      · intro q hq
        rcases List.mem_append.mp hq with hq | hq
        · exact hok q hq
        · simp only [List.mem_cons, List.not_mem_nil, or_false] at hq
          rw [hq]; exact okI_of (by omega)
      · intro q hq
        rcases List.mem_append.mp hq with hq | hq
        · obtain ⟨q1, q2, q3, q4⟩ := hls q hq
          exact ⟨q1, q2, by omega, q4.bd (by omega)⟩
        · simp only [List.mem_cons, List.not_mem_nil, or_false] at hq
          subst hq
          exact ⟨okI_of (by dsimp only; omega), okI_of (by dsimp only; omega), by show cnt3 < _; omega, Gv.up ⟨rfl, by decide, by decide, by decide, by omega⟩⟩
      · refine ⟨hi, ha, ?_, ?_, ?_, ?_⟩ <;> omega
  case next =>
    rintro env m ⟨ls, l, μ', i, a, b, at2, cnt2, o6, o7, o14, o15, rfl, rfl, hlen, hag, e1, e2, hj, hl, hok, hls, hi, ha, h1, h2, h3, h4⟩
    have hg' : 0 < g ∧ g < μ'.length := ⟨hg.1, by omega⟩
    have ri : μ1.length ≠ 0 ∧ μ1.length ≠ g := by omega
    have rk : μ1.length + 1 ≠ 0 ∧ μ1.length + 1 ≠ g := by omega
    have Lk : Loc μ' g (.ref (μ1.length + 1)) l := ⟨.inr ⟨_, rfl, rk.1, rk.2, e2⟩, by omega, hok⟩
    have Ll' : Loc μ' g loc' l' := Ll.agree hag
    have S := L.src (ns := ns) hg'
    conv => whnf
    refine k_drW (O.workedI hg' Lk (by omega) (show At _ _ _ _ 12 from ⟨hi, ha, by omega, by omega, by omega, by omega⟩)) ?_
    intro v i a b at3 cnt3 hi ha h5 h6 h7 h8 Gv hv
    conv => whnf
    refine k_new S ?_
    conv => whnf
    refine k_here S ?_
    conv => whnf
    refine k_loc1 Ll' (by omega) (okI_of (by omega)) ?_
    intro loc2 l2 L2 hl2
    have C3 : CoreOk c μ' ns g 3 276 7 15 6 := @Lib.core _ _ L.toLib _ _ 3 hg' (by decide)
    refine k_coreT C3 L2 hk' (by omega) ⟨hi, ha, by omega, by omega, by omega, by omega⟩ ?_
    intro body i a b at4 cnt4 hi ha h9 h10 h11 h12 Gb
    have h10' : at4 ≤ at3 + 1 + (276 : Nat) := h10
    have h12' : cnt4 ≤ cnt3 + 1 + (276 : Nat) := h12
    conv => whnf
    refine k_draw S ⟨hi, ha, by decide, by decide⟩ ?_
    intro x i a b z0 z1 hi ha
    conv => whnf
    have hls' : ∀ B : Int, cnt2 ≤ B → ∀ q ∈ ls, okI q.1 ∧ okI q.2.2 ∧ q.1 < B ∧ Good q.2.1 0 72 6 12 B := fun B hB q hq => by
      obtain ⟨q1, q2, q3, q4⟩ := hls q hq
      exact ⟨q1, q2, by omega, q4.bd hB⟩
    have hpl := path_len hp
    refine k_eqI (fun hx => ?_) (fun hx => ?_)
    · conv => whnf
      refine k_new S ?_
      conv => whnf
      refine k_here S ?_
      conv => whnf
      refine k_here S ?_
      conv => whnf
      refine k_here S ?_
      exact turn16b (body := .n2 (.lets cnt4 (at4 + 1 + 1 + 1)) (.n1 (.print (at4 + 1 + 1)) (.n0 (.loc cnt3 (at4 + 1)))) body) L O hg' hi ha s d2 o6 d9 o14 d17 d18 ri e1 (hls' _ (by omega)) (by omega) (G.up ⟨rfl, by omega, by omega, by omega, by omega⟩) (Gv.bd (by omega)) hv
        ((good_2 (l := .lets cnt4 (at4 + 1 + 1 + 1)) (b := cnt4 + 1) ⟨okI_of (by omega), okI_of (by omega)⟩ (one_own (by omega)) (Good.mk (t := .n1 (.print (at4 + 1 + 1)) (.n0 (.loc cnt3 (at4 + 1)))) (k := 0) (s := 2) (h := 1) (p := 3) rfl ⟨okI_of (by omega), okI_of (by omega), okI_of (by omega)⟩ (Nat.le_refl _) (Nat.le_refl _) (Nat.le_refl _) (fun x hx => by cases hx)) (Gb.bd (by omega))).up ⟨rfl, by decide, by decide, by decide, Int.le_refl _⟩)
        hfill (by omega) (by omega) ⟨okI_of (by omega), okI_of (by omega)⟩ ⟨by omega, by omega⟩
    · exact turn16b L O hg' hi ha s d2 o6 d9 o14 d17 d18 ri e1 (hls' _ (by omega)) (by omega) (G.up ⟨rfl, by omega, by omega, by omega, by omega⟩) (Gv.bd (by omega)) hv (Gb.up ⟨rfl, by decide, by decide, by decide, Int.le_refl _⟩)
        hfill (by omega) (by omega) ⟨okI_of (by omega), okI_of (by omega)⟩ ⟨by omega, by omega⟩
theorem len17 : ∀ {r : En}, r.length = 17 → ∃ d2 d3 d4 d5 d6 d7 d8 d9 d10 d11 d12 d13 d14 d15 d16 d17 d18, r = [d2, d3, d4, d5, d6, d7, d8, d9, d10, d11, d12, d13, d14, d15, d16, d17, d18]
  | [d2, d3, d4, d5, d6, d7, d8, d9, d10, d11, d12, d13, d14, d15, d16, d17, d18], _ => ⟨d2, d3, d4, d5, d6, d7, d8, d9, d10, d11, d12, d13, d14, d15, d16, d17, d18, rfl⟩
theorem law16_b {c : Orc} {ns : List Int} (L : LibS c ns) (O : Own16 c ns) : Ok2 ((evSs c b_law [some (.frz (ns.map .int)), none, none, none, none, none, none, none, none, none, none, none, none, none, none, none, none, none, none] []).bind retK) (fun r _ => r = .bl true) := by
  refine g_call ?_
  conv => whnf
  refine ok2 (a := .lst (ns.map .int)) (b := []) rfl ?_
  conv => whnf
  refine New.mk ?_
  conv => whnf
  refine k_rng ?_
  conv => whnf
  refine ⟨5, rfl, by decide, ?_⟩
  refine for_rng 5 (P := fun _ e m => Inv ns (some (.frz (ns.map .int))) e m) ?_ ⟨_, [.lst []], 0, 0, 1, rfl, rfl, rfl, by decide, by decide, by decide⟩ ?_
  · rintro j env m hj ⟨r, μ, i, a, b, rfl, hr, rfl, h0, hi, ha⟩
    obtain ⟨d2, d3, d4, d5, d6, d7, d8, d9, d10, d11, d12, d13, d14, d15, d16, d17, d18, rfl⟩ := len17 hr
    exact turn16 L O h0 hi ha _ (some (.int (j : Nat))) d3 d4 d5 d6 d7 d8 d9 d10 d11 d12 d13 d14 d15 d16 d17 d18
  · rintro env m ⟨r, μ, i, a, b, rfl, hr, rfl, h0, hi, ha⟩
    conv => whnf
    exact ⟨rfl⟩
theorem plain_k16 (ns : List Int) : ∃ μ, callF (Pc ++ Rs R_k16) 100 47 [.frz (ns.map .int)] [] = some (.bl true, μ) := by
  obtain ⟨r, m, e, h⟩ := law16_b (libS_ok R_k16 ns) (own16 ns)
  rw [h] at e
  exact ⟨m, by rw [cf_law]; exact e⟩
end Pl

namespace Pl
open PySem PySem.Spec PyProof.Rows L2
def top (i : Nat) : Stmt := PySem.Challenge.pw_samemeant_k16_lets_of_lets_are_turned.main.body.getD i (.Pass ⟨0, 0, 0, 0⟩)
def fns0 : List Str := ("strict_parts" : Str) :: ("reckoned" : Str) :: ("parts" : Str) :: ("with_part" : Str) :: ("at_path" : Str) :: ("put_at" : Str) :: ("size" : Str) :: ("uses" : Str) :: ("replaced" : Str) :: ("given" : Str) :: ("renamed" : Str) :: ("lets" : Str) :: ("is_value" : Str) :: ("is_harmless" : Str) :: ("known_switch" : Str) :: ("value_put_in" : Str) :: ("left_out" : Str) :: ("call_put_in" : Str) :: ("known_function" : Str) :: ("number_reckoned" : Str) :: ("let_of_let" : Str) :: ("switch_of_let" : Str) :: ("again" : Str) :: ("switch_again" : Str) :: ("first_free" : Str) :: ("stepped" : Str) :: ("_law_next" : Str) :: ("_law_here" : Str) :: ("_law_new" : Str) :: ("_law_small" : Str) :: ("_law_core" : Str) :: ("_law_branches" : Str) :: ("_law_made" : Str) :: ("_law_around" : Str) :: ("_law_around_made" : Str) :: ("_law_parts" : Str) :: ("_law_with_parts" : Str) :: ("_law_filled" : Str) :: ("_law_path" : Str) :: ("_law_size" : Str) :: ("_law_bag" : Str) :: ("_law_functions_of" : Str) :: ("_law_told" : Str) :: ("_law_is_step" : Str) :: ("_law_value" : Str) :: ("_law_worked" : Str) :: ("_law_row" : Str) :: ("law" : Str) :: []
def S0 : Stt := ⟨[], fns0, [("MOST_PARTS", 400)], [("RULES", tab_RULES)]⟩
theorem k_strict_parts : kSs (S0.at n_strict_parts) (defScope (top 3)) b_strict_parts (defBody (top 3)) = true := by decide +kernel
theorem k_reckoned : kSs (S0.at n_reckoned) (defScope (top 5)) b_reckoned (defBody (top 5)) = true := by decide +kernel
theorem k_parts : kSs (S0.at n_parts) (defScope (top 8)) b_parts (defBody (top 8)) = true := by decide +kernel
theorem k_with_part : kSs (S0.at n_with_part) (defScope (top 9)) b_with_part (defBody (top 9)) = true := by decide +kernel
theorem k_at_path : kSs (S0.at n_at_path) (defScope (top 10)) b_at_path (defBody (top 10)) = true := by decide +kernel
theorem k_put_at : kSs (S0.at n_put_at) (defScope (top 11)) b_put_at (defBody (top 11)) = true := by decide +kernel
theorem k_size : kSs (S0.at n_size) (defScope (top 12)) b_size (defBody (top 12)) = true := by decide +kernel
theorem k_uses : kSs (S0.at n_uses) (defScope (top 13)) b_uses (defBody (top 13)) = true := by decide +kernel
theorem k_replaced : kSs (S0.at n_replaced) (defScope (top 14)) b_replaced (defBody (top 14)) = true := by decide +kernel
theorem k_given : kSs (S0.at n_given) (defScope (top 15)) b_given (defBody (top 15)) = true := by decide +kernel
theorem k_renamed : kSs (S0.at n_renamed) (defScope (top 16)) b_renamed (defBody (top 16)) = true := by decide +kernel
theorem k_lets : kSs (S0.at n_lets) (defScope (top 17)) b_lets (defBody (top 17)) = true := by decide +kernel
theorem k_is_value : kSs (S0.at n_is_value) (defScope (top 18)) b_is_value (defBody (top 18)) = true := by decide +kernel
theorem k_is_harmless : kSs (S0.at n_is_harmless) (defScope (top 19)) b_is_harmless (defBody (top 19)) = true := by decide +kernel
theorem k_known_switch : kSs (S0.at n_known_switch) (defScope (top 20)) b_known_switch (defBody (top 20)) = true := by decide +kernel
theorem k_value_put_in : kSs (S0.at n_value_put_in) (defScope (top 21)) b_value_put_in (defBody (top 21)) = true := by decide +kernel
theorem k_left_out : kSs (S0.at n_left_out) (defScope (top 22)) b_left_out (defBody (top 22)) = true := by decide +kernel
theorem k_call_put_in : kSs (S0.at n_call_put_in) (defScope (top 23)) b_call_put_in (defBody (top 23)) = true := by decide +kernel
theorem k_known_function : kSs (S0.at n_known_function) (defScope (top 24)) b_known_function (defBody (top 24)) = true := by decide +kernel
theorem k_number_reckoned : kSs (S0.at n_number_reckoned) (defScope (top 25)) b_number_reckoned (defBody (top 25)) = true := by decide +kernel
theorem k_let_of_let : kSs (S0.at n_let_of_let) (defScope (top 26)) b_let_of_let (defBody (top 26)) = true := by decide +kernel
theorem k_switch_of_let : kSs (S0.at n_switch_of_let) (defScope (top 27)) b_switch_of_let (defBody (top 27)) = true := by decide +kernel
theorem k_again : kSs (S0.at n_again) (defScope (top 28)) b_again (defBody (top 28)) = true := by decide +kernel
theorem k_switch_again : kSs (S0.at n_switch_again) (defScope (top 29)) b_switch_again (defBody (top 29)) = true := by decide +kernel
theorem k_first_free : kSs (S0.at n_first_free) (defScope (top 31)) b_first_free (defBody (top 31)) = true := by decide +kernel
theorem k_stepped : kSs (S0.at n_stepped) (defScope (top 32)) b_stepped (defBody (top 32)) = true := by decide +kernel
theorem k__law_next : kSs (S0.at n__law_next) (defScope (top 34)) b__law_next (defBody (top 34)) = true := by decide +kernel
theorem k__law_here : kSs (S0.at n__law_here) (defScope (top 35)) b__law_here (defBody (top 35)) = true := by decide +kernel
theorem k__law_new : kSs (S0.at n__law_new) (defScope (top 36)) b__law_new (defBody (top 36)) = true := by decide +kernel
theorem k__law_small : kSs (S0.at n__law_small) (defScope (top 37)) b__law_small (defBody (top 37)) = true := by decide +kernel
theorem k__law_core : kSs (S0.at n__law_core) (defScope (top 38)) b__law_core (defBody (top 38)) = true := by decide +kernel
theorem k__law_branches : kSs (S0.at n__law_branches) (defScope (top 39)) b__law_branches (defBody (top 39)) = true := by decide +kernel
theorem k__law_made : kSs (S0.at n__law_made) (defScope (top 40)) b__law_made (defBody (top 40)) = true := by decide +kernel
theorem k__law_around : kSs (S0.at n__law_around) (defScope (top 41)) b__law_around (defBody (top 41)) = true := by decide +kernel
theorem k__law_around_made : kSs (S0.at n__law_around_made) (defScope (top 42)) b__law_around_made (defBody (top 42)) = true := by decide +kernel
theorem k__law_parts : kSs (S0.at n__law_parts) (defScope (top 43)) b__law_parts (defBody (top 43)) = true := by decide +kernel
theorem k__law_with_parts : kSs (S0.at n__law_with_parts) (defScope (top 44)) b__law_with_parts (defBody (top 44)) = true := by decide +kernel
theorem k__law_filled : kSs (S0.at n__law_filled) (defScope (top 45)) b__law_filled (defBody (top 45)) = true := by decide +kernel
theorem k__law_path : kSs (S0.at n__law_path) (defScope (top 46)) b__law_path (defBody (top 46)) = true := by decide +kernel
theorem k__law_size : kSs (S0.at n__law_size) (defScope (top 47)) b__law_size (defBody (top 47)) = true := by decide +kernel
theorem k__law_bag : kSs (S0.at n__law_bag) (defScope (top 48)) b__law_bag (defBody (top 48)) = true := by decide +kernel
theorem k__law_functions_of : kSs (S0.at n__law_functions_of) (defScope (top 49)) b__law_functions_of (defBody (top 49)) = true := by decide +kernel
theorem k__law_told : kSs (S0.at n__law_told) (defScope (top 50)) b__law_told (defBody (top 50)) = true := by decide +kernel
theorem k__law_is_step : kSs (S0.at n__law_is_step) (defScope (top 51)) b__law_is_step (defBody (top 51)) = true := by decide +kernel
theorem k__law_value : kSs (S0.at n__law_value) (defScope (top 52)) b__law_value (defBody (top 52)) = true := by decide +kernel
theorem k__law_worked : kSs (S0.at n__law_worked) (defScope (top 53)) b__law_worked (defBody (top 53)) = true := by decide +kernel
theorem k__law_row : kSs (S0.at n__law_row) (defScope (top 54)) b__law_row (defBody (top 54)) = true := by decide +kernel
theorem k_law : kSs (S0.at n_law) (defScope (top 55)) b_law (defBody (top 55)) = true := by decide +kernel
def rows0 : List DRow := ("strict_parts", 3, PDef.mk 1 2 b_strict_parts) :: ("reckoned", 5, PDef.mk 3 4 b_reckoned) :: ("parts", 8, PDef.mk 1 4 b_parts) :: ("with_part", 9, PDef.mk 3 6 b_with_part) :: ("at_path", 10, PDef.mk 2 4 b_at_path) :: ("put_at", 11, PDef.mk 3 3 b_put_at) :: ("size", 12, PDef.mk 1 2 b_size) :: ("uses", 13, PDef.mk 2 3 b_uses) :: ("replaced", 14, PDef.mk 3 5 b_replaced) :: ("given", 15, PDef.mk 1 6 b_given) :: ("renamed", 16, PDef.mk 2 9 b_renamed) :: ("lets", 17, PDef.mk 4 6 b_lets) :: ("is_value", 18, PDef.mk 1 1 b_is_value) :: ("is_harmless", 19, PDef.mk 1 2 b_is_harmless) :: ("known_switch", 20, PDef.mk 3 5 b_known_switch) :: ("value_put_in", 21, PDef.mk 3 3 b_value_put_in) :: ("left_out", 22, PDef.mk 3 3 b_left_out) :: ("call_put_in", 23, PDef.mk 3 8 b_call_put_in) :: ("known_function", 24, PDef.mk 3 3 b_known_function) :: ("number_reckoned", 25, PDef.mk 3 3 b_number_reckoned) :: ("let_of_let", 26, PDef.mk 3 4 b_let_of_let) :: ("switch_of_let", 27, PDef.mk 3 4 b_switch_of_let) :: ("again", 28, PDef.mk 4 10 b_again) :: ("switch_again", 29, PDef.mk 3 9 b_switch_again) :: ("first_free", 31, PDef.mk 1 1 b_first_free) :: ("stepped", 32, PDef.mk 2 11 b_stepped) :: ("_law_next", 34, PDef.mk 2 4 b__law_next) :: ("_law_here", 35, PDef.mk 1 1 b__law_here) :: ("_law_new", 36, PDef.mk 1 1 b__law_new) :: ("_law_small", 37, PDef.mk 4 7 b__law_small) :: ("_law_core", 38, PDef.mk 5 12 b__law_core) :: ("_law_branches", 39, PDef.mk 6 10 b__law_branches) :: ("_law_made", 40, PDef.mk 5 9 b__law_made) :: ("_law_around", 41, PDef.mk 5 14 b__law_around) :: ("_law_around_made", 42, PDef.mk 5 8 b__law_around_made) :: ("_law_parts", 43, PDef.mk 1 4 b__law_parts) :: ("_law_with_parts", 44, PDef.mk 2 7 b__law_with_parts) :: ("_law_filled", 45, PDef.mk 2 3 b__law_filled) :: ("_law_path", 46, PDef.mk 1 4 b__law_path) :: ("_law_size", 47, PDef.mk 1 2 b__law_size) :: ("_law_bag", 48, PDef.mk 0 0 b__law_bag) :: ("_law_functions_of", 49, PDef.mk 2 7 b__law_functions_of) :: ("_law_told", 50, PDef.mk 1 1 b__law_told) :: ("_law_is_step", 51, PDef.mk 5 9 b__law_is_step) :: ("_law_value", 52, PDef.mk 4 7 b__law_value) :: ("_law_worked", 53, PDef.mk 4 6 b__law_worked) :: ("_law_row", 54, PDef.mk 2 5 b__law_row) :: ("law", 55, PDef.mk 1 19 b_law) :: []
theorem plain0 (ns : List Int) (h : ns.length ≤ 63) : ∃ μ, callF (rows0.map (·.2.2)) 100 47 [.frz (ns.map .int)] [] = some (.bl true, μ) := by
  have e : rows0.map (·.2.2) = Pc ++ Rs R_k16 := rfl
  rw [e]
  exact plain_k16 ns
theorem r_strict_parts : RowOk S0 "strict_parts" (top 3) (PDef.mk 1 2 b_strict_parts) := ⟨n_strict_parts, n_strict_parts.take 1, okScope_eq (by decide +kernel), fun _ _ _ _ _ _ us hl => match us, hl with | [_], _ => rfl, rfl, rfl, k_strict_parts⟩
theorem r_reckoned : RowOk S0 "reckoned" (top 5) (PDef.mk 3 4 b_reckoned) := ⟨n_reckoned, n_reckoned.take 3, okScope_eq (by decide +kernel), fun _ _ _ _ _ _ us hl => match us, hl with | [_, _, _], _ => rfl, rfl, rfl, k_reckoned⟩
theorem r_parts : RowOk S0 "parts" (top 8) (PDef.mk 1 4 b_parts) := ⟨n_parts, n_parts.take 1, okScope_eq (by decide +kernel), fun _ _ _ _ _ _ us hl => match us, hl with | [_], _ => rfl, rfl, rfl, k_parts⟩
theorem r_with_part : RowOk S0 "with_part" (top 9) (PDef.mk 3 6 b_with_part) := ⟨n_with_part, n_with_part.take 3, okScope_eq (by decide +kernel), fun _ _ _ _ _ _ us hl => match us, hl with | [_, _, _], _ => rfl, rfl, rfl, k_with_part⟩
theorem r_at_path : RowOk S0 "at_path" (top 10) (PDef.mk 2 4 b_at_path) := ⟨n_at_path, n_at_path.take 2, okScope_eq (by decide +kernel), fun _ _ _ _ _ _ us hl => match us, hl with | [_, _], _ => rfl, rfl, rfl, k_at_path⟩
theorem r_put_at : RowOk S0 "put_at" (top 11) (PDef.mk 3 3 b_put_at) := ⟨n_put_at, n_put_at.take 3, okScope_eq (by decide +kernel), fun _ _ _ _ _ _ us hl => match us, hl with | [_, _, _], _ => rfl, rfl, rfl, k_put_at⟩
theorem r_size : RowOk S0 "size" (top 12) (PDef.mk 1 2 b_size) := ⟨n_size, n_size.take 1, okScope_eq (by decide +kernel), fun _ _ _ _ _ _ us hl => match us, hl with | [_], _ => rfl, rfl, rfl, k_size⟩
theorem r_uses : RowOk S0 "uses" (top 13) (PDef.mk 2 3 b_uses) := ⟨n_uses, n_uses.take 2, okScope_eq (by decide +kernel), fun _ _ _ _ _ _ us hl => match us, hl with | [_, _], _ => rfl, rfl, rfl, k_uses⟩
theorem r_replaced : RowOk S0 "replaced" (top 14) (PDef.mk 3 5 b_replaced) := ⟨n_replaced, n_replaced.take 3, okScope_eq (by decide +kernel), fun _ _ _ _ _ _ us hl => match us, hl with | [_, _, _], _ => rfl, rfl, rfl, k_replaced⟩
theorem r_given : RowOk S0 "given" (top 15) (PDef.mk 1 6 b_given) := ⟨n_given, n_given.take 1, okScope_eq (by decide +kernel), fun _ _ _ _ _ _ us hl => match us, hl with | [_], _ => rfl, rfl, rfl, k_given⟩
theorem r_renamed : RowOk S0 "renamed" (top 16) (PDef.mk 2 9 b_renamed) := ⟨n_renamed, n_renamed.take 2, okScope_eq (by decide +kernel), fun _ _ _ _ _ _ us hl => match us, hl with | [_, _], _ => rfl, rfl, rfl, k_renamed⟩
theorem r_lets : RowOk S0 "lets" (top 17) (PDef.mk 4 6 b_lets) := ⟨n_lets, n_lets.take 4, okScope_eq (by decide +kernel), fun _ _ _ _ _ _ us hl => match us, hl with | [_, _, _, _], _ => rfl, rfl, rfl, k_lets⟩
theorem r_is_value : RowOk S0 "is_value" (top 18) (PDef.mk 1 1 b_is_value) := ⟨n_is_value, n_is_value.take 1, okScope_eq (by decide +kernel), fun _ _ _ _ _ _ us hl => match us, hl with | [_], _ => rfl, rfl, rfl, k_is_value⟩
theorem r_is_harmless : RowOk S0 "is_harmless" (top 19) (PDef.mk 1 2 b_is_harmless) := ⟨n_is_harmless, n_is_harmless.take 1, okScope_eq (by decide +kernel), fun _ _ _ _ _ _ us hl => match us, hl with | [_], _ => rfl, rfl, rfl, k_is_harmless⟩
theorem r_known_switch : RowOk S0 "known_switch" (top 20) (PDef.mk 3 5 b_known_switch) := ⟨n_known_switch, n_known_switch.take 3, okScope_eq (by decide +kernel), fun _ _ _ _ _ _ us hl => match us, hl with | [_, _, _], _ => rfl, rfl, rfl, k_known_switch⟩
theorem r_value_put_in : RowOk S0 "value_put_in" (top 21) (PDef.mk 3 3 b_value_put_in) := ⟨n_value_put_in, n_value_put_in.take 3, okScope_eq (by decide +kernel), fun _ _ _ _ _ _ us hl => match us, hl with | [_, _, _], _ => rfl, rfl, rfl, k_value_put_in⟩
theorem r_left_out : RowOk S0 "left_out" (top 22) (PDef.mk 3 3 b_left_out) := ⟨n_left_out, n_left_out.take 3, okScope_eq (by decide +kernel), fun _ _ _ _ _ _ us hl => match us, hl with | [_, _, _], _ => rfl, rfl, rfl, k_left_out⟩
theorem r_call_put_in : RowOk S0 "call_put_in" (top 23) (PDef.mk 3 8 b_call_put_in) := ⟨n_call_put_in, n_call_put_in.take 3, okScope_eq (by decide +kernel), fun _ _ _ _ _ _ us hl => match us, hl with | [_, _, _], _ => rfl, rfl, rfl, k_call_put_in⟩
theorem r_known_function : RowOk S0 "known_function" (top 24) (PDef.mk 3 3 b_known_function) := ⟨n_known_function, n_known_function.take 3, okScope_eq (by decide +kernel), fun _ _ _ _ _ _ us hl => match us, hl with | [_, _, _], _ => rfl, rfl, rfl, k_known_function⟩
theorem r_number_reckoned : RowOk S0 "number_reckoned" (top 25) (PDef.mk 3 3 b_number_reckoned) := ⟨n_number_reckoned, n_number_reckoned.take 3, okScope_eq (by decide +kernel), fun _ _ _ _ _ _ us hl => match us, hl with | [_, _, _], _ => rfl, rfl, rfl, k_number_reckoned⟩
theorem r_let_of_let : RowOk S0 "let_of_let" (top 26) (PDef.mk 3 4 b_let_of_let) := ⟨n_let_of_let, n_let_of_let.take 3, okScope_eq (by decide +kernel), fun _ _ _ _ _ _ us hl => match us, hl with | [_, _, _], _ => rfl, rfl, rfl, k_let_of_let⟩
theorem r_switch_of_let : RowOk S0 "switch_of_let" (top 27) (PDef.mk 3 4 b_switch_of_let) := ⟨n_switch_of_let, n_switch_of_let.take 3, okScope_eq (by decide +kernel), fun _ _ _ _ _ _ us hl => match us, hl with | [_, _, _], _ => rfl, rfl, rfl, k_switch_of_let⟩
theorem r_again : RowOk S0 "again" (top 28) (PDef.mk 4 10 b_again) := ⟨n_again, n_again.take 4, okScope_eq (by decide +kernel), fun _ _ _ _ _ _ us hl => match us, hl with | [_, _, _, _], _ => rfl, rfl, rfl, k_again⟩
theorem r_switch_again : RowOk S0 "switch_again" (top 29) (PDef.mk 3 9 b_switch_again) := ⟨n_switch_again, n_switch_again.take 3, okScope_eq (by decide +kernel), fun _ _ _ _ _ _ us hl => match us, hl with | [_, _, _], _ => rfl, rfl, rfl, k_switch_again⟩
theorem r_first_free : RowOk S0 "first_free" (top 31) (PDef.mk 1 1 b_first_free) := ⟨n_first_free, n_first_free.take 1, okScope_eq (by decide +kernel), fun _ _ _ _ _ _ us hl => match us, hl with | [_], _ => rfl, rfl, rfl, k_first_free⟩
theorem r_stepped : RowOk S0 "stepped" (top 32) (PDef.mk 2 11 b_stepped) := ⟨n_stepped, n_stepped.take 2, okScope_eq (by decide +kernel), fun _ _ _ _ _ _ us hl => match us, hl with | [_, _], _ => rfl, rfl, rfl, k_stepped⟩
theorem r__law_next : RowOk S0 "_law_next" (top 34) (PDef.mk 2 4 b__law_next) := ⟨n__law_next, n__law_next.take 2, okScope_eq (by decide +kernel), fun _ _ _ _ _ _ us hl => match us, hl with | [_, _], _ => rfl, rfl, rfl, k__law_next⟩
theorem r__law_here : RowOk S0 "_law_here" (top 35) (PDef.mk 1 1 b__law_here) := ⟨n__law_here, n__law_here.take 1, okScope_eq (by decide +kernel), fun _ _ _ _ _ _ us hl => match us, hl with | [_], _ => rfl, rfl, rfl, k__law_here⟩
theorem r__law_new : RowOk S0 "_law_new" (top 36) (PDef.mk 1 1 b__law_new) := ⟨n__law_new, n__law_new.take 1, okScope_eq (by decide +kernel), fun _ _ _ _ _ _ us hl => match us, hl with | [_], _ => rfl, rfl, rfl, k__law_new⟩
theorem r__law_small : RowOk S0 "_law_small" (top 37) (PDef.mk 4 7 b__law_small) := ⟨n__law_small, n__law_small.take 4, okScope_eq (by decide +kernel), fun _ _ _ _ _ _ us hl => match us, hl with | [_, _, _, _], _ => rfl, rfl, rfl, k__law_small⟩
theorem r__law_core : RowOk S0 "_law_core" (top 38) (PDef.mk 5 12 b__law_core) := ⟨n__law_core, n__law_core.take 5, okScope_eq (by decide +kernel), fun _ _ _ _ _ _ us hl => match us, hl with | [_, _, _, _, _], _ => rfl, rfl, rfl, k__law_core⟩
theorem r__law_branches : RowOk S0 "_law_branches" (top 39) (PDef.mk 6 10 b__law_branches) := ⟨n__law_branches, n__law_branches.take 6, okScope_eq (by decide +kernel), fun _ _ _ _ _ _ us hl => match us, hl with | [_, _, _, _, _, _], _ => rfl, rfl, rfl, k__law_branches⟩
theorem r__law_made : RowOk S0 "_law_made" (top 40) (PDef.mk 5 9 b__law_made) := ⟨n__law_made, n__law_made.take 5, okScope_eq (by decide +kernel), fun _ _ _ _ _ _ us hl => match us, hl with | [_, _, _, _, _], _ => rfl, rfl, rfl, k__law_made⟩
theorem r__law_around : RowOk S0 "_law_around" (top 41) (PDef.mk 5 14 b__law_around) := ⟨n__law_around, n__law_around.take 5, okScope_eq (by decide +kernel), fun _ _ _ _ _ _ us hl => match us, hl with | [_, _, _, _, _], _ => rfl, rfl, rfl, k__law_around⟩
theorem r__law_around_made : RowOk S0 "_law_around_made" (top 42) (PDef.mk 5 8 b__law_around_made) := ⟨n__law_around_made, n__law_around_made.take 5, okScope_eq (by decide +kernel), fun _ _ _ _ _ _ us hl => match us, hl with | [_, _, _, _, _], _ => rfl, rfl, rfl, k__law_around_made⟩
theorem r__law_parts : RowOk S0 "_law_parts" (top 43) (PDef.mk 1 4 b__law_parts) := ⟨n__law_parts, n__law_parts.take 1, okScope_eq (by decide +kernel), fun _ _ _ _ _ _ us hl => match us, hl with | [_], _ => rfl, rfl, rfl, k__law_parts⟩
theorem r__law_with_parts : RowOk S0 "_law_with_parts" (top 44) (PDef.mk 2 7 b__law_with_parts) := ⟨n__law_with_parts, n__law_with_parts.take 2, okScope_eq (by decide +kernel), fun _ _ _ _ _ _ us hl => match us, hl with | [_, _], _ => rfl, rfl, rfl, k__law_with_parts⟩
theorem r__law_filled : RowOk S0 "_law_filled" (top 45) (PDef.mk 2 3 b__law_filled) := ⟨n__law_filled, n__law_filled.take 2, okScope_eq (by decide +kernel), fun _ _ _ _ _ _ us hl => match us, hl with | [_, _], _ => rfl, rfl, rfl, k__law_filled⟩
theorem r__law_path : RowOk S0 "_law_path" (top 46) (PDef.mk 1 4 b__law_path) := ⟨n__law_path, n__law_path.take 1, okScope_eq (by decide +kernel), fun _ _ _ _ _ _ us hl => match us, hl with | [_], _ => rfl, rfl, rfl, k__law_path⟩
theorem r__law_size : RowOk S0 "_law_size" (top 47) (PDef.mk 1 2 b__law_size) := ⟨n__law_size, n__law_size.take 1, okScope_eq (by decide +kernel), fun _ _ _ _ _ _ us hl => match us, hl with | [_], _ => rfl, rfl, rfl, k__law_size⟩
theorem r__law_bag : RowOk S0 "_law_bag" (top 48) (PDef.mk 0 0 b__law_bag) := ⟨n__law_bag, n__law_bag.take 0, okScope_eq (by decide +kernel), fun _ _ _ _ _ _ us hl => match us, hl with | [], _ => rfl, rfl, rfl, k__law_bag⟩
theorem r__law_functions_of : RowOk S0 "_law_functions_of" (top 49) (PDef.mk 2 7 b__law_functions_of) := ⟨n__law_functions_of, n__law_functions_of.take 2, okScope_eq (by decide +kernel), fun _ _ _ _ _ _ us hl => match us, hl with | [_, _], _ => rfl, rfl, rfl, k__law_functions_of⟩
theorem r__law_told : RowOk S0 "_law_told" (top 50) (PDef.mk 1 1 b__law_told) := ⟨n__law_told, n__law_told.take 1, okScope_eq (by decide +kernel), fun _ _ _ _ _ _ us hl => match us, hl with | [_], _ => rfl, rfl, rfl, k__law_told⟩
theorem r__law_is_step : RowOk S0 "_law_is_step" (top 51) (PDef.mk 5 9 b__law_is_step) := ⟨n__law_is_step, n__law_is_step.take 5, okScope_eq (by decide +kernel), fun _ _ _ _ _ _ us hl => match us, hl with | [_, _, _, _, _], _ => rfl, rfl, rfl, k__law_is_step⟩
theorem r__law_value : RowOk S0 "_law_value" (top 52) (PDef.mk 4 7 b__law_value) := ⟨n__law_value, n__law_value.take 4, okScope_eq (by decide +kernel), fun _ _ _ _ _ _ us hl => match us, hl with | [_, _, _, _], _ => rfl, rfl, rfl, k__law_value⟩
theorem r__law_worked : RowOk S0 "_law_worked" (top 53) (PDef.mk 4 6 b__law_worked) := ⟨n__law_worked, n__law_worked.take 4, okScope_eq (by decide +kernel), fun _ _ _ _ _ _ us hl => match us, hl with | [_, _, _, _], _ => rfl, rfl, rfl, k__law_worked⟩
theorem r__law_row : RowOk S0 "_law_row" (top 54) (PDef.mk 2 5 b__law_row) := ⟨n__law_row, n__law_row.take 2, okScope_eq (by decide +kernel), fun _ _ _ _ _ _ us hl => match us, hl with | [_, _], _ => rfl, rfl, rfl, k__law_row⟩
theorem r_law : RowOk S0 "law" (top 55) (PDef.mk 1 19 b_law) := ⟨n_law, n_law.take 1, okScope_eq (by decide +kernel), fun _ _ _ _ _ _ us hl => match us, hl with | [_], _ => rfl, rfl, rfl, k_law⟩
theorem all0 : AllRows S0 top rows0 := ⟨r_strict_parts, r_reckoned, r_parts, r_with_part, r_at_path, r_put_at, r_size, r_uses, r_replaced, r_given, r_renamed, r_lets, r_is_value, r_is_harmless, r_known_switch, r_value_put_in, r_left_out, r_call_put_in, r_known_function, r_number_reckoned, r_let_of_let, r_switch_of_let, r_again, r_switch_again, r_first_free, r_stepped, r__law_next, r__law_here, r__law_new, r__law_small, r__law_core, r__law_branches, r__law_made, r__law_around, r__law_around_made, r__law_parts, r__law_with_parts, r__law_filled, r__law_path, r__law_size, r__law_bag, r__law_functions_of, r__law_told, r__law_is_step, r__law_value, r__law_worked, r__law_row, r_law, trivial⟩
abbrev R0 : PySem.W.OpenRow := PySem.W.OpenLaw.row PySem.Challenge.rw_samemeant_k16_lets_of_lets_are_turned
abbrev Q0 : PySem.Program := PySem.W.view R0.prog [55]
def loose0 : List PySem.Str := ("__name__" : PySem.Str) :: ("LEAST" : PySem.Str) :: ("GREATEST" : PySem.Str) :: ("strict_parts" : PySem.Str) :: ("Trap" : PySem.Str) :: ("reckoned" : PySem.Str) :: ("MOST_PARTS" : PySem.Str) :: ("parts" : PySem.Str) :: ("with_part" : PySem.Str) :: ("at_path" : PySem.Str) :: ("put_at" : PySem.Str) :: ("size" : PySem.Str) :: ("uses" : PySem.Str) :: ("replaced" : PySem.Str) :: ("given" : PySem.Str) :: ("renamed" : PySem.Str) :: ("lets" : PySem.Str) :: ("is_value" : PySem.Str) :: ("is_harmless" : PySem.Str) :: ("known_switch" : PySem.Str) :: ("value_put_in" : PySem.Str) :: ("left_out" : PySem.Str) :: ("call_put_in" : PySem.Str) :: ("known_function" : PySem.Str) :: ("number_reckoned" : PySem.Str) :: ("let_of_let" : PySem.Str) :: ("switch_of_let" : PySem.Str) :: ("again" : PySem.Str) :: ("switch_again" : PySem.Str) :: ("RULES" : PySem.Str) :: ("first_free" : PySem.Str) :: ("stepped" : PySem.Str) :: ("_law_next" : PySem.Str) :: ("_law_here" : PySem.Str) :: ("_law_new" : PySem.Str) :: ("_law_small" : PySem.Str) :: ("_law_core" : PySem.Str) :: ("_law_branches" : PySem.Str) :: ("_law_made" : PySem.Str) :: ("_law_around" : PySem.Str) :: ("_law_around_made" : PySem.Str) :: ("_law_parts" : PySem.Str) :: ("_law_with_parts" : PySem.Str) :: ("_law_filled" : PySem.Str) :: ("_law_path" : PySem.Str) :: ("_law_size" : PySem.Str) :: ("_law_bag" : PySem.Str) :: ("_law_functions_of" : PySem.Str) :: ("_law_told" : PySem.Str) :: ("_law_is_step" : PySem.Str) :: ("_law_value" : PySem.Str) :: ("_law_worked" : PySem.Str) :: ("_law_row" : PySem.Str) :: []
abbrev hk0 : PySem.W.Hook := hkOf S0 top rows0
theorem run0 : ∀ w : World, HandSHeadRun.RunEq R0 Q0 hk0 (obOf S0 top rows0) 3000 loose0 w :=
  PySem.W.byRow2 "special-get-raises" (P := fun w => HandSHeadRun.RunEq R0 Q0 hk0 (obOf S0 top rows0) 3000 loose0 w) (fun w os => by kernel_rfl) (fun w os => by kernel_rfl)
end Pl
open PySem PySem.W PySem.Calls PyProof.Rows
theorem PySem.Challenge.cw_samemeant_k16_lets_of_lets_are_turned_holds : PySem.Challenge.rw_samemeant_k16_lets_of_lets_are_turned.Holds := by
  w_on; o_law
  refine HandSHeadRun.head_any (r := Pl.R0) (q := Pl.Q0) (H := Pl.hk0) (ob := Pl.obOf Pl.S0 Pl.top Pl.rows0) (M := 3000) (loose := Pl.loose0) (d := HandSHeadRun.topDef Pl.R0.prog 55) (kwd := []) (Pl.obOf_eq _ _ _)
    (by kernel_rfl) (fun s => by kernel_rfl) Pl.run0 (by kernel_rfl) (by kernel_rfl) (by kernel_rfl) (by rfl) (by first | assumption | decide +kernel) (by decide +kernel) ⟨rfl, rfl, rfl, rfl, rfl, by decide +kernel⟩ ?hw ?hc
  case hw => w_witness2
  case hc => exact Pl.endG (l := PySem.Challenge.rw_samemeant_k16_lets_of_lets_are_turned) (k := 100) (f := 47) rfl (by decide) (by kernel_rfl) ⟨rfl, by decide, by decide⟩ (by kernel_rfl) rfl Pl.all0 Pl.plain0
