import PyProof.Rows.All
import Wide.All
import OpenK.AllK
import Wide.FinOn
import HandS.ForMost
import HandS.ForExc
import HandS.CallSlots
import HandS.Walk
import HandS.TupAny
import HandS.Deep
import HandS.IsInst
import HandS.Zip
import HandS.SortInts
import HandS.TupSets
import HandS.SetFor
import HandS.Strs
import PySem.Challenge.RW_meetloft_k07_whole_lookers_walked
set_option Elab.async false
set_option linter.all false
set_option maxRecDepth 100000
/-! Python data as plain Lean data: D; a store of things that change; what a heap bears of them. -/
namespace Dv
open PySem L2

inductive D where
  | non : D
  | bl (b : Bool) : D
  | int (i : Int) : D
  | str (x : Str) : D
  | tup (xs : List D) : D
  | lst (xs : List D) : D
  | scr (xs : List Int) : D
  | dct (kvs : List (Key × D)) : D
  | loc (n : Nat) : D
  | ty (n : String) : D

inductive O where
  | lst (xs : List D)
  | dct (kvs : List (Key × D))
  | ins (c : Str) (fs : List (Str × D))

abbrev Store := List O
abbrev Env := List (Option D)

def KLst (K : PySem.W.Frag) (a : Addr) (xs : List V) : Prop := SqL K (fun _ => none) a xs
theorem rd_none {a : Addr} {u : HO} (h : Rd (fun _ => none) a u) : False := by
  rcases h with h | ⟨o, h⟩
  · cases h
  · cases h
theorem KLst.sq {K : PySem.W.Frag} {a : Addr} {xs : List V} (h : KLst K a xs) (H : Hp) : SqL K H a xs := by
  rcases h with h | h
  · exact (rd_none h).elim
  · exact .inr h
theorem KLst.len {K : PySem.W.Frag} {a : Addr} {xs : List V} (h : KLst K a xs) : xs.length ≤ sizeLine := by
  rcases h with h | ⟨o, its, n, _, _, _, _, hz, r⟩
  · exact (rd_none h).elim
  · rw [r.length, Array.length_toList]
    exact hz

/-- the addresses of what may change: loc those of the store, hid those that no value tells -/
structure Tb where
  loc : List Addr
  hid : List Addr
def Tb.off (T : Tb) (a : Addr) : Prop := a ∉ T.loc ∧ a ∉ T.hid

def LAt (K : PySem.W.Frag) (T : Tb) (H : Hp) (a : Addr) (xs : List V) : Prop := (Rd H a (.lst xs) ∧ T.off a) ∨ KLst K a xs

mutual
inductive Rep (K : PySem.W.Frag) (T : Tb) (H : Hp) : V → D → Prop
  | non : Rep K T H .non .non
  | bl (b : Bool) : Rep K T H (.bl b) (.bl b)
  | int (i : Int) : Rep K T H (.int i) (.int i)
  | str (x : Str) : Rep K T H (.str x) (.str x)
  | ty (x : String) : Rep K T H (.ty x) (.ty x)
  | tup {a : Addr} {xs : List V} {ds : List D} : H a = some (.tup xs) → T.off a → RepL K T H xs ds → Rep K T H (.ref a) (.tup ds)
  | lst {a : Addr} {xs : List V} {ds : List D} : H a = some (.lst xs) → T.off a → RepL K T H xs ds → Rep K T H (.ref a) (.lst ds)
  | scr {a : Addr} {ns : List Int} : LAt K T H a (ns.map V.int) → Rep K T H (.ref a) (.scr ns)
  | dct {a : Addr} {kvs : List (Key × V)} {kds : List (Key × D)} : Rd H a (.dK kvs) → T.off a → kvs.map (·.1) = kds.map (·.1) → RepL K T H (kvs.map (·.2)) (kds.map (·.2)) → Rep K T H (.ref a) (.dct kds)
  | loc {a : Addr} {n : Nat} : T.loc[n]? = some a → Rep K T H (.ref a) (.loc n)
inductive RepL (K : PySem.W.Frag) (T : Tb) (H : Hp) : List V → List D → Prop
  | nil : RepL K T H [] []
  | cons {v : V} {vs : List V} {d : D} {ds : List D} : Rep K T H v d → RepL K T H vs ds → RepL K T H (v :: vs) (d :: ds)
end

structure Step (T : Tb) (H : Hp) (T' : Tb) (H' : Hp) : Prop where
  ext : ∃ more, T'.loc = T.loc ++ more
  hid : T'.hid = T.hid
  hkeep : ∀ b, b ∈ T.hid → H' b = H b
  keep : ∀ b u, T.off b → H b = some u → H' b = some u
  new : ∀ a, a ∈ T'.loc → a ∉ T.loc → H a = none

theorem rd_some {H : Hp} {a : Addr} {u : HO} (h : Rd H a u) : H a ≠ none := by
  rcases h with h | ⟨o, h⟩ <;> rw [h] <;> exact fun e => by cases e
theorem rd_keep {H H' : Hp} {a : Addr} {u : HO} (k : ∀ v, H a = some v → H' a = some v) (h : Rd H a u) : Rd H' a u := by
  rcases h with h | ⟨o, h⟩
  · exact .inl (k _ h)
  · exact .inr ⟨o, k _ h⟩
theorem Step.refl (T : Tb) (H : Hp) : Step T H T H := ⟨⟨[], by simp⟩, rfl, fun _ _ => rfl, fun _ _ _ h => h, fun _ h n => absurd h n⟩
theorem Step.out {T T' : Tb} {H H' : Hp} (s : Step T H T' H') {b : Addr} (h : H b ≠ none) (n : T.off b) : T'.off b := ⟨fun m => h (s.new b m n.1), by rw [s.hid]; exact n.2⟩
theorem Step.rd {T T' : Tb} {H H' : Hp} (s : Step T H T' H') {b : Addr} {u : HO} (h : Rd H b u) (n : T.off b) : Rd H' b u := rd_keep (fun v => s.keep b v n) h
theorem Step.trans {T T1 T2 : Tb} {H H1 H2 : Hp} (a : Step T H T1 H1) (b : Step T1 H1 T2 H2) : Step T H T2 H2 where
  ext := by
    obtain ⟨m1, e1⟩ := a.ext
    obtain ⟨m2, e2⟩ := b.ext
    exact ⟨m1 ++ m2, by rw [e2, e1, List.append_assoc]⟩
  hid := b.hid.trans a.hid
  hkeep := fun c hc => (b.hkeep c (by rw [a.hid]; exact hc)).trans (a.hkeep c hc)
  keep := fun c u n h => b.keep c u (a.out (by rw [h]; exact fun e => by cases e) n) (a.keep c u n h)
  new := fun c m n => by
    by_cases h : c ∈ T1.loc
    · exact a.new c h n
    · cases q : H c with
      | none => rfl
      | some o =>
        have h2 := b.new c m h
        by_cases hc : c ∈ T.hid
        · rw [a.hkeep c hc, q] at h2
          cases h2
        · rw [a.keep c o ⟨n, hc⟩ q] at h2
          cases h2
theorem Step.get {T T' : Tb} {H H' : Hp} (s : Step T H T' H') {n : Nat} {a : Addr} (h : T.loc[n]? = some a) : T'.loc[n]? = some a := by
  obtain ⟨m, e⟩ := s.ext
  rw [e, List.getElem?_append_left (List.getElem?_eq_some_iff.mp h).1]
  exact h
section
variable {K : PySem.W.Frag} {T T' : Tb} {H H' : Hp}
theorem LAt.sq {a : Addr} {xs : List V} (h : LAt K T H a xs) : SqL K H a xs := by
  rcases h with ⟨h, n⟩ | h
  · exact .inl h
  · exact h.sq H
/-- what is true of one heap and table is true of another one that keeps all that a value may tell -/
structure Kp (T : Tb) (H : Hp) (T' : Tb) (H' : Hp) : Prop where
  sq : ∀ b u, (∃ xs, u = .tup xs ∨ u = .lst xs ∨ ∃ o, u = .frz o (.lst xs)) → T.off b → H b = some u → H' b = some u ∧ T'.off b
  dk : ∀ b kvs, T.off b → Rd H b (.dK kvs) → Rd H' b (.dK kvs) ∧ T'.off b
  get : ∀ (n : Nat) (a : Addr), T.loc[n]? = some a → T'.loc[n]? = some a
theorem some_ne {H : Hp} {a : Addr} {u : HO} (h : H a = some u) : H a ≠ none := by
  rw [h]
  exact fun e => by cases e
theorem Step.kp (s : Step T H T' H') : Kp T H T' H' := ⟨fun b u _ n h => ⟨s.keep b u n h, s.out (some_ne h) n⟩, fun b _ n h => ⟨s.rd h n, s.out (rd_some h) n⟩, fun _ _ h => s.get h⟩
theorem Kp.tup (s : Kp T H T' H') {b : Addr} {xs : List V} (n : T.off b) (h : H b = some (.tup xs)) : H' b = some (.tup xs) ∧ T'.off b := s.sq b _ ⟨xs, .inl rfl⟩ n h
theorem Kp.lst (s : Kp T H T' H') {b : Addr} {xs : List V} (n : T.off b) (h : H b = some (.lst xs)) : H' b = some (.lst xs) ∧ T'.off b := s.sq b _ ⟨xs, .inr (.inl rfl)⟩ n h
theorem LAt.kp {a : Addr} {xs : List V} (s : Kp T H T' H') (h : LAt K T H a xs) : LAt K T' H' a xs := by
  rcases h with ⟨h | ⟨o, h⟩, n⟩ | h
  · exact .inl ⟨.inl (s.lst n h).1, (s.lst n h).2⟩
  · have q := s.sq a _ ⟨xs, .inr (.inr ⟨o, rfl⟩)⟩ n h
    exact .inl ⟨.inr ⟨o, q.1⟩, q.2⟩
  · exact .inr h
mutual
theorem Rep.kp (s : Kp T H T' H') : ∀ {v : V} {d : D}, Rep K T H v d → Rep K T' H' v d
  | _, _, .non => .non
  | _, _, .bl b => .bl b
  | _, _, .int i => .int i
  | _, _, .str x => .str x
  | _, _, .ty x => .ty x
  | _, _, .tup h n r => .tup (s.tup n h).1 (s.tup n h).2 (RepL.kp s r)
  | _, _, .lst h n r => .lst (s.lst n h).1 (s.lst n h).2 (RepL.kp s r)
  | _, _, .scr h => .scr (h.kp s)
  | _, _, .dct h n e r => .dct (s.dk _ _ n h).1 (s.dk _ _ n h).2 e (RepL.kp s r)
  | _, _, .loc h => .loc (s.get _ _ h)
theorem RepL.kp (s : Kp T H T' H') : ∀ {vs : List V} {ds : List D}, RepL K T H vs ds → RepL K T' H' vs ds
  | _, _, .nil => .nil
  | _, _, .cons h r => .cons (Rep.kp s h) (RepL.kp s r)
end
theorem Rep.step (s : Step T H T' H') {v : V} {d : D} (h : Rep K T H v d) : Rep K T' H' v d := h.kp s.kp
theorem RepL.step (s : Step T H T' H') {vs : List V} {ds : List D} (h : RepL K T H vs ds) : RepL K T' H' vs ds := h.kp s.kp
theorem RepL.length : ∀ {vs : List V} {ds : List D}, RepL K T H vs ds → vs.length = ds.length
  | _, _, .nil => rfl
  | _, _, .cons _ r => by rw [List.length_cons, List.length_cons, RepL.length r]
theorem RepL.get : ∀ {vs : List V} {ds : List D} {i : Nat} {d : D}, RepL K T H vs ds → ds[i]? = some d → ∃ v, vs[i]? = some v ∧ Rep K T H v d
  | _, _, i, _, .nil, e => by simp at e
  | _, _, 0, _, .cons r _, e => by simp at e; subst e; exact ⟨_, rfl, r⟩
  | _, _, i + 1, d, .cons _ t, e => by
    obtain ⟨v, h1, h2⟩ := RepL.get (i := i) (d := d) t (by simpa using e)
    exact ⟨v, by simpa using h1, h2⟩
theorem RepL.getV : ∀ {vs : List V} {ds : List D} {i : Nat} {v : V}, RepL K T H vs ds → vs[i]? = some v → ∃ d, ds[i]? = some d ∧ Rep K T H v d
  | _, _, i, _, .nil, e => by simp at e
  | _, _, 0, _, .cons r _, e => by simp at e; subst e; exact ⟨_, rfl, r⟩
  | _, _, i + 1, v, .cons _ t, e => by
    obtain ⟨d, h1, h2⟩ := RepL.getV (i := i) (v := v) t (by simpa using e)
    exact ⟨d, by simpa using h1, h2⟩
theorem RepL.append : ∀ {vs ws : List V} {ds es : List D}, RepL K T H vs ds → RepL K T H ws es → RepL K T H (vs ++ ws) (ds ++ es)
  | _, _, _, _, .nil, s => s
  | _, _, _, _, .cons r t, s => .cons r (RepL.append t s)
theorem RepL.set {v : V} {d : D} (r : Rep K T H v d) : ∀ {vs : List V} {ds : List D} (i : Nat), RepL K T H vs ds → RepL K T H (vs.set i v) (ds.set i d)
  | _, _, _, .nil => .nil
  | _, _, 0, .cons _ t => .cons r t
  | _, _, i + 1, .cons q t => .cons q (RepL.set r i t)
theorem RepL.take : ∀ {vs : List V} {ds : List D} (n : Nat), RepL K T H vs ds → RepL K T H (vs.take n) (ds.take n)
  | _, _, 0, _ => .nil
  | _, _, _ + 1, .nil => .nil
  | _, _, n + 1, .cons r t => .cons r (RepL.take n t)
theorem RepL.drop : ∀ {vs : List V} {ds : List D} (n : Nat), RepL K T H vs ds → RepL K T H (vs.drop n) (ds.drop n)
  | _, _, 0, r => r
  | _, _, _ + 1, .nil => .nil
  | _, _, n + 1, .cons _ t => RepL.drop n t
theorem RepL.reverse : ∀ {vs : List V} {ds : List D}, RepL K T H vs ds → RepL K T H vs.reverse ds.reverse
  | _, _, .nil => .nil
  | _, _, .cons r t => by
    rw [List.reverse_cons, List.reverse_cons]
    exact RepL.append (RepL.reverse t) (.cons r .nil)
theorem RepL.rep {vs : List V} {ds : List D} (h : RepL K T H vs ds) : ∀ k : Nat, RepL K T H (List.replicate k vs).flatten (List.replicate k ds).flatten
  | 0 => .nil
  | k + 1 => by
    rw [List.replicate_succ, List.replicate_succ, List.flatten_cons, List.flatten_cons]
    exact RepL.append h (RepL.rep h k)
theorem RepL.ints : ∀ (ns : List Int), RepL K T H (ns.map V.int) (ns.map D.int)
  | [] => .nil
  | n :: ns => .cons (.int n) (RepL.ints ns)
theorem RepL.of_ints : ∀ {vs : List V} {ns : List Int}, RepL K T H vs (ns.map D.int) → vs = ns.map V.int
  | _, [], .nil => rfl
  | _, n :: ns, .cons (.int _) r => by rw [RepL.of_ints r]; rfl
theorem RepL.bls : ∀ (ns : List Bool), RepL K T H (ns.map V.bl) (ns.map D.bl)
  | [] => .nil
  | n :: ns => .cons (.bl n) (RepL.bls ns)
theorem RepL.of_bls : ∀ {vs : List V} {ns : List Bool}, RepL K T H vs (ns.map D.bl) → vs = ns.map V.bl
  | _, [], .nil => rfl
  | _, n :: ns, .cons (.bl _) r => by rw [RepL.of_bls r]; rfl
theorem RepL.strs : ∀ (ns : List Str), RepL K T H (ns.map V.str) (ns.map D.str)
  | [] => .nil
  | n :: ns => .cons (.str n) (RepL.strs ns)
theorem RepL.of_strs : ∀ {vs : List V} {ns : List Str}, RepL K T H vs (ns.map D.str) → vs = ns.map V.str
  | _, [], .nil => rfl
  | _, n :: ns, .cons (.str _) r => by rw [RepL.of_strs r]; rfl
end

def HLen (H : Hp) : Prop := ∀ a xs, (Rd H a (.lst xs) ∨ Rd H a (.tup xs)) → xs.length ≤ sizeLine

def ORep (K : PySem.W.Frag) (mg : Str → Option Value) (T : Tb) (H : Hp) (a : Addr) : O → Prop
  | .lst ds => ∃ xs, H a = some (.lst xs) ∧ RepL K T H xs ds
  | .dct kds => ∃ kvs, H a = some (.dK kvs) ∧ kvs.map (·.1) = kds.map (·.1) ∧ RepL K T H (kvs.map (·.2)) (kds.map (·.2))
  | .ins c fs => ∃ C dx fvs, mg c = some (.ref C) ∧ H a = some (.ins C dx fvs) ∧ fvs.map (·.1) = fs.map (·.1) ∧ RepL K T H (fvs.map (·.2)) (fs.map (·.2))

structure Sim (K : PySem.W.Frag) (mg : Str → Option Value) (T : Tb) (S : Store) (H : Hp) : Prop where
  len : T.loc.length = S.length
  nd : (T.loc ++ T.hid).Nodup
  obj : ∀ (i : Nat) (a : Addr) (o : O), T.loc[i]? = some a → S[i]? = some o → ORep K mg T H a o
  hid : ∀ a, a ∈ T.hid → H a ≠ none
  hl : HLen H

section
variable {K : PySem.W.Frag} {mg : Str → Option Value} {T T' : Tb} {H H' : Hp} {S : Store}
theorem ORep.kp {a : Addr} {o : O} (s : Kp T H T' H') (e : H' a = H a) (h : ORep K mg T H a o) : ORep K mg T' H' a o := by
  cases o with
  | lst ds =>
    obtain ⟨xs, h1, h2⟩ := h
    exact ⟨xs, e.trans h1, h2.kp s⟩
  | dct kds =>
    obtain ⟨kvs, h1, h2, h3⟩ := h
    exact ⟨kvs, e.trans h1, h2, h3.kp s⟩
  | ins c fs =>
    obtain ⟨C, dx, fvs, h1, h2, h3, h4⟩ := h
    exact ⟨C, dx, fvs, h1, e.trans h2, h3, h4.kp s⟩
theorem ORep.step {a : Addr} {o : O} (s : Step T H T' H') (e : H' a = H a) (h : ORep K mg T H a o) : ORep K mg T' H' a o := h.kp s.kp e
theorem ORep.some {a : Addr} {o : O} (h : ORep K mg T H a o) : H a ≠ none := by
  cases o with
  | lst ds => obtain ⟨xs, h1, _⟩ := h; rw [h1]; exact fun e => by cases e
  | dct kds => obtain ⟨kvs, h1, _⟩ := h; rw [h1]; exact fun e => by cases e
  | ins c fs => obtain ⟨C, dx, fvs, _, h2, _⟩ := h; rw [h2]; exact fun e => by cases e
theorem Sim.ndl (s : Sim K mg T S H) : T.loc.Nodup := (List.nodup_append.mp s.nd).1
theorem Sim.apart (s : Sim K mg T S H) {a : Addr} (h : a ∈ T.loc) (h2 : a ∈ T.hid) : False := (List.nodup_append.mp s.nd).2.2 a h a h2 rfl
theorem Sim.there (s : Sim K mg T S H) {a : Addr} (h : a ∈ T.loc) : H a ≠ none := by
  obtain ⟨i, hi, e⟩ := List.mem_iff_getElem.mp h
  have h1 : T.loc[i]? = some a := by rw [List.getElem?_eq_getElem hi, e]
  have hi2 : i < S.length := by rw [← s.len]; exact hi
  exact (s.obj i a S[i] h1 (List.getElem?_eq_getElem hi2)).some
theorem Sim.off (s : Sim K mg T S H) {p : Addr} (hp : H p = none) : T.off p := ⟨fun h => s.there h hp, fun h => s.hid p h hp⟩
/-- a heap that grew by things that nobody may change -/
theorem Sim.grow (s : Sim K mg T S H) (st : Step T H T H') (e : ∀ a ∈ T.loc, H' a = H a) (hl : HLen H') : Sim K mg T S H' :=
  ⟨s.len, s.nd, fun i a o h1 h2 => (s.obj i a o h1 h2).step st (e a (List.mem_of_getElem? h1)), fun a h => by rw [st.hkeep a h]; exact s.hid a h, hl⟩
/-- a new thing at p -/
theorem Sim.stepNew {p : Addr} {o : HO} (s : Sim K mg T S H) (hp : H p = none) : Step T H T (upd H p o) :=
  ⟨⟨[], by simp⟩, rfl, fun b hb => upd_ne fun e => s.hid b hb (by rw [e]; exact hp), fun b u _ h => by rw [upd_ne (ne_of_none h hp)]; exact h, fun _ h n => absurd h n⟩
theorem hlen_new {p : Addr} {o : HO} (h : HLen H) (ho : ∀ xs, (o = .lst xs ∨ o = .tup xs ∨ (∃ x, o = .frz x (.lst xs)) ∨ ∃ x, o = .frz x (.tup xs)) → xs.length ≤ sizeLine) : HLen (upd H p o) := fun a xs hr => by
  by_cases e : a = p
  · subst e
    refine ho xs ?_
    rcases hr with (q | ⟨x, q⟩) | (q | ⟨x, q⟩) <;> rw [upd_same] at q <;> cases q
    · exact .inl rfl
    · exact .inr (.inr (.inl ⟨x, rfl⟩))
    · exact .inr (.inl rfl)
    · exact .inr (.inr (.inr ⟨x, rfl⟩))
  · refine h a xs ?_
    rcases hr with (q | ⟨x, q⟩) | (q | ⟨x, q⟩) <;> rw [upd_ne e] at q
    · exact .inl (.inl q)
    · exact .inl (.inr ⟨x, q⟩)
    · exact .inr (.inl q)
    · exact .inr (.inr ⟨x, q⟩)
theorem hlen_lst {p : Addr} {xs : List V} (h : HLen H) (hx : xs.length ≤ sizeLine) : HLen (upd H p (.lst xs)) := hlen_new h fun ys q => by
  rcases q with q | q | ⟨x, q⟩ | ⟨x, q⟩ <;> cases q
  exact hx
theorem hlen_tup {p : Addr} {xs : List V} (h : HLen H) (hx : xs.length ≤ sizeLine) : HLen (upd H p (.tup xs)) := hlen_new h fun ys q => by
  rcases q with q | q | ⟨x, q⟩ | ⟨x, q⟩ <;> cases q
  exact hx
theorem hlen_oth {p : Addr} {o : HO} (h : HLen H) (ho : ∀ xs, o ≠ .lst xs ∧ o ≠ .tup xs ∧ (∀ x, o ≠ .frz x (.lst xs)) ∧ ∀ x, o ≠ .frz x (.tup xs)) : HLen (upd H p o) := hlen_new h fun ys q => by
  obtain ⟨h1, h2, h3, h4⟩ := ho ys
  rcases q with q | q | ⟨x, q⟩ | ⟨x, q⟩
  · exact absurd q h1
  · exact absurd q h2
  · exact absurd q (h3 x)
  · exact absurd q (h4 x)
theorem Sim.new {p : Addr} {o : HO} (s : Sim K mg T S H) (hp : H p = none) (hl : HLen (upd H p o)) : Sim K mg T S (upd H p o) :=
  s.grow (s.stepNew hp) (fun a ha => upd_ne fun e => s.there ha (by rw [e]; exact hp)) hl
theorem Sim.llen (s : Sim K mg T S H) {a : Addr} {xs : List V} (h : LAt K T H a xs) : xs.length ≤ sizeLine := by
  rcases h with ⟨h, _⟩ | h
  · exact s.hl a xs (.inl h)
  · exact h.len
/-- a new thing that may change -/
def Tb.add (T : Tb) (p : Addr) : Tb := ⟨T.loc ++ [p], T.hid⟩
theorem Sim.stepAlloc {p : Addr} {o : HO} (s : Sim K mg T S H) (hp : H p = none) : Step T H (T.add p) (upd H p o) := ⟨⟨[p], rfl⟩, rfl, (s.stepNew hp).hkeep, (s.stepNew hp).keep, fun a h n => by
  rcases List.mem_append.mp h with h | h
  · exact absurd h n
  · rw [List.mem_singleton.mp h]; exact hp⟩
theorem Sim.alloc {p : Addr} {u : HO} {o : O} (s : Sim K mg T S H) (hp : H p = none) (hl : HLen (upd H p u)) (ho : ORep K mg (T.add p) (upd H p u) p o) : Sim K mg (T.add p) (S ++ [o]) (upd H p u) where
  len := by
    show (T.loc ++ [p]).length = _
    rw [List.length_append, List.length_append, s.len]; rfl
  nd := by
    have h0 := List.nodup_append.mp s.nd
    refine List.nodup_append.mpr ⟨List.nodup_append.mpr ⟨h0.1, by simp, fun a ha b hb e => (s.off hp).1 (by rw [← List.mem_singleton.mp hb, ← e]; exact ha)⟩, h0.2.1, fun a ha b hb e => ?_⟩
    rcases List.mem_append.mp ha with ha | ha
    · exact h0.2.2 a ha b hb e
    · exact (s.off hp).2 (by rw [← List.mem_singleton.mp ha, e]; exact hb)
  obj := fun i a o' h1 h2 => by
    have h1 : (T.loc ++ [p])[i]? = Option.some a := h1
    by_cases hi : i < T.loc.length
    · rw [List.getElem?_append_left hi] at h1
      rw [List.getElem?_append_left (by rw [← s.len]; exact hi)] at h2
      exact (s.obj i a o' h1 h2).step (s.stepAlloc hp) (upd_ne fun e => (s.off hp).1 (by rw [← e]; exact List.mem_of_getElem? h1))
    · rw [List.getElem?_append_right (by omega)] at h1
      rw [List.getElem?_append_right (by rw [← s.len]; omega)] at h2
      rw [← s.len] at h2
      cases k : i - T.loc.length with
      | zero =>
        rw [k] at h1 h2
        cases h1; cases h2
        exact ho
      | succ j =>
        rw [k] at h1
        cases h1
  hid := fun a h => by rw [(s.stepNew hp).hkeep a h]; exact s.hid a h
  hl := hl
/-- a thing of the store changes -/
theorem Sim.stepSet {p : Addr} {u : HO} (s : Sim K mg T S H) (hp : p ∈ T.loc) : Step T H T (upd H p u) := ⟨⟨[], by simp⟩, rfl, fun b hb => upd_ne fun e => s.apart hp (by rw [← e]; exact hb), fun b v n h => by
  rw [upd_ne fun e => n.1 (by rw [e]; exact hp)]
  exact h, fun _ h n => absurd h n⟩
theorem Sim.set {p : Addr} {u : HO} {o : O} {n : Nat} (s : Sim K mg T S H) (hp : T.loc[n]? = Option.some p) (hl : HLen (upd H p u)) (ho : ORep K mg T (upd H p u) p o) : Sim K mg T (S.set n o) (upd H p u) where
  len := by rw [List.length_set, s.len]
  nd := s.nd
  obj := fun i a o' h1 h2 => by
    by_cases hi : i = n
    · subst hi
      rw [hp] at h1; cases h1
      have hlt : i < S.length := by rw [← s.len]; exact (List.getElem?_eq_some_iff.mp hp).1
      rw [List.getElem?_set_self hlt] at h2
      cases h2
      exact ho
    · rw [List.getElem?_set_ne (Ne.symm hi)] at h2
      refine (s.obj i a o' h1 h2).step (s.stepSet (List.mem_of_getElem? hp)) (upd_ne fun e => hi ?_)
      subst e
      exact nd_ix s.ndl h1 hp
  hid := fun a h => by rw [(s.stepSet (List.mem_of_getElem? hp)).hkeep a h]; exact s.hid a h
  hl := hl
end

def RepSt (K : PySem.W.Frag) (T : Tb) (H : Hp) (r : Env) (g : St) : Prop := r.length = g.length ∧ ∀ (i : Nat) (d : D), r[i]? = some (some d) → ∃ v, g[i]? = some (some v) ∧ Rep K T H v d
section
variable {K : PySem.W.Frag} {T T' : Tb} {H H' : Hp} {r : Env} {g : St}
theorem RepSt.kp (s : Kp T H T' H') (h : RepSt K T H r g) : RepSt K T' H' r g := ⟨h.1, fun i d e => by
  obtain ⟨v, h1, h2⟩ := h.2 i d e
  exact ⟨v, h1, h2.kp s⟩⟩
theorem RepSt.step (s : Step T H T' H') (h : RepSt K T H r g) : RepSt K T' H' r g := h.kp s.kp
theorem RepSt.set {i : Nat} {v : V} {d : D} (h : RepSt K T H r g) (hv : Rep K T H v d) : RepSt K T H (r.set i (some d)) (g.set i (some v)) := ⟨by rw [List.length_set, List.length_set, h.1], fun j e q => by
  by_cases hj : j = i
  · subst hj
    by_cases hl : j < r.length
    · rw [List.getElem?_set_self hl] at q
      cases q
      exact ⟨v, by rw [List.getElem?_set_self (by rw [← h.1]; exact hl)], hv⟩
    · rw [List.getElem?_eq_none (by rw [List.length_set]; omega)] at q
      cases q
  · rw [List.getElem?_set_ne (Ne.symm hj)] at q ⊢
    exact h.2 j e q⟩
theorem RepSt.forget {i : Nat} (h : RepSt K T H r g) : RepSt K T H (r.set i none) g := ⟨by rw [List.length_set, h.1], fun j e q => by
  by_cases hj : j = i
  · subst hj
    by_cases hl : j < r.length
    · rw [List.getElem?_set_self hl] at q
      cases q
    · rw [List.getElem?_eq_none (by rw [List.length_set]; omega)] at q
      cases q
  · rw [List.getElem?_set_ne (Ne.symm hj)] at q
    exact h.2 j e q⟩
theorem RepSt.forgetB {i : Nat} (h : RepSt K T H r g) : RepSt K T H (r.set i none) (g.set i none) := ⟨by rw [List.length_set, List.length_set, h.1], fun j e q => by
  by_cases hj : j = i
  · subst hj
    by_cases hl : j < r.length
    · rw [List.getElem?_set_self hl] at q
      cases q
    · rw [List.getElem?_eq_none (by rw [List.length_set]; omega)] at q
      cases q
  · rw [List.getElem?_set_ne (Ne.symm hj)] at q ⊢
    exact h.2 j e q⟩
end

/-! ### what an expression, a statement comes to -/
inductive R (α : Type) where
  | ok (a : α) (S : Store) : R α
  | exc (n : Str) (S : Store) : R α
  | bad : R α
def R.bind {α β : Type} (x : R α) (f : α → Store → R β) : R β := match x with
  | .ok a S => f a S
  | .exc n S => .exc n S
  | .bad => .bad
theorem R.bind_ok {α β : Type} (a : α) (S : Store) (f : α → Store → R β) : (R.ok a S).bind f = f a S := rfl
theorem R.bind_exc {α β : Type} (n : Str) (S : Store) (f : α → Store → R β) : (R.exc n S : R α).bind f = .exc n S := rfl
theorem R.bind_bad {α β : Type} (f : α → Store → R β) : (R.bad : R α).bind f = .bad := rfl
abbrev EM := Env → Store → R D
abbrev AM := Env → Store → R (List D)
abbrev BM := Env → Store → R Bool
inductive Fl where
  | next | ret (d : D) | brk | cont
inductive Z where
  | ok (f : Fl) (r : Env) (S : Store) : Z
  | exc (n : Str) (r : Env) (S : Store) : Z
  | bad : Z
abbrev SM := Env → Store → Z

section
variable (K : PySem.W.Frag) (mg : Str → Option Value) (Wx : WX)
def Wish (n : Str) (g : St) (H : Hp) : Prop := ∀ cls, mg n = some cls → Wx cls none g H
def Out {α β : Type} (rel : Tb → Hp → β → α → Prop) (T : Tb) (g : St) (H : Hp) (x : R α) (Q : β → Hp → Prop) : Prop := match x with
  | .ok d S => ∀ T' H' v, Step T H T' H' → Sim K mg T' S H' → rel T' H' v d → Q v H'
  | .exc n S => ∀ T' H', Step T H T' H' → Sim K mg T' S H' → Wish mg Wx n g H'
  | .bad => False
/-- the reading of an expression that comes to m -/
def tD (m : EM) : TE := fun g H Q => ∃ T r S, RepSt K T H r g ∧ Sim K mg T S H ∧ Out K mg Wx (Rep K) T g H (m r S) Q
def tDA (m : AM) : TA := fun g H Q => ∃ T r S, RepSt K T H r g ∧ Sim K mg T S H ∧ Out K mg Wx (RepL K) T g H (m r S) Q
/-- a test: a truth -/
def tDT (m : BM) : TT := fun g H Q => ∃ T r S, RepSt K T H r g ∧ Sim K mg T S H ∧ Out K mg Wx (fun _ _ v d => v = d) T g H (m r S) Q
def ZOut (T : Tb) (H : Hp) (z : Z) (E : Ends) : Prop := match z with
  | .ok .next r' S' => ∀ T' H' g', Step T H T' H' → Sim K mg T' S' H' → RepSt K T' H' r' g' → E.nx g' H'
  | .ok (.ret d) r' S' => ∀ T' H' v, Step T H T' H' → Sim K mg T' S' H' → Rep K T' H' v d → E.rt v H'
  | .ok .brk r' S' => ∀ T' H' g', Step T H T' H' → Sim K mg T' S' H' → RepSt K T' H' r' g' → E.bk g' H'
  | .ok .cont r' S' => ∀ T' H' g', Step T H T' H' → Sim K mg T' S' H' → RepSt K T' H' r' g' → E.ct g' H'
  | .exc n r' S' => ∀ T' H' g', Step T H T' H' → Sim K mg T' S' H' → RepSt K T' H' r' g' → Wish mg Wx n g' H'
  | .bad => False
def tDS (m : SM) : TS := fun E g H => ∃ T r S, RepSt K T H r g ∧ Sim K mg T S H ∧ ZOut K mg Wx T H (m r S) E
end
end Dv
namespace Dv
open PySem L2
theorem Sim.newGet {K : PySem.W.Frag} {mg : Str → Option Value} {T : Tb} {S : Store} {H : Hp} (s : Sim K mg T S H) {p : Addr} : (T.add p).loc[S.length]? = some p := by
  show (T.loc ++ [p])[S.length]? = some p
  rw [← s.len, List.getElem?_append_right (Nat.le_refl _), Nat.sub_self]
  rfl
/-! ### weaker readings -/
section
variable {X : Cx}
theorem pe_imp {e : Expr} {t t' : TE} (h : PE X e t) (i : ∀ g H Q, t' g H Q → t g H Q) : PE X e t' := ⟨fun pins s g H Q I w => h.run pins s g H Q I (i g H Q w)⟩
theorem pt_imp {e : Expr} {t t' : TT} (h : PT X e t) (i : ∀ g H Q, t' g H Q → t g H Q) : PT X e t' := ⟨fun pins s g H Q I w => h.run pins s g H Q I (i g H Q w)⟩
theorem pw_imp {e : Expr} {t t' : TT} (h : PW X e t) (i : ∀ g H Q, t' g H Q → t g H Q) : PW X e t' := ⟨fun wh pins s g H Q I w => h.run wh pins s g H Q I (i g H Q w)⟩
theorem pa_imp {es : List Expr} {t t' : TA} (h : PA X es t) (i : ∀ g H Q, t' g H Q → t g H Q) : PA X es t' := ⟨fun pos pins s g H Q I w => h.run pos pins s g H Q I (i g H Q w)⟩
theorem ps_imp {st : Stmt} {t t' : TS} (h : PS X st t) (i : ∀ E g H, t' E g H → t E g H) : PS X st t' := ⟨fun pins s g H E I w => h.run pins s g H E I (i E g H w)⟩
theorem pss_imp {st : List Stmt} {t t' : TS} (h : PSs X st t) (i : ∀ E g H, t' E g H → t E g H) : PSs X st t' := ⟨fun pins s g H E I w => h.run pins s g H E I (i E g H w)⟩
theorem pi_imp {tg e : Expr} {t t' : TI} (h : PI X tg e t) (i : ∀ g H R, t' g H R → t g H R) : PI X tg e t' := ⟨fun pins s g H R I w => h.run pins s g H R I (i g H R w)⟩
end

def ofO {α : Type} (o : Option α) (S : Store) : R α := match o with
  | some a => .ok a S
  | none => .bad

/-! ### going on behind a part -/
section
variable {K : PySem.W.Frag} {mg : Str → Option Value} {Wx : WX} {α β γ δ : Type} {relA : Tb → Hp → β → α → Prop} {relB : Tb → Hp → δ → γ → Prop} {T : Tb} {g : St} {H : Hp}
/-- behind a part that came to x the rest is to be shown from any state that it may leave -/
theorem Out.bind {x : R α} {f : α → Store → R γ} {Q : δ → Hp → Prop} {Q1 : β → Hp → Prop} (h : Out K mg Wx relB T g H (x.bind f) Q)
    (k : ∀ a S T1 H1 v, Step T H T1 H1 → Sim K mg T1 S H1 → relA T1 H1 v a → Out K mg Wx relB T1 g H1 (f a S) Q → Q1 v H1) : Out K mg Wx relA T g H x Q1 := by
  cases x with
  | bad => exact h
  | exc n S => exact h
  | ok a S =>
    intro T1 H1 v st sim rel
    refine k a S T1 H1 v st sim rel ?_
    have h : Out K mg Wx relB T g H (f a S) Q := h
    revert h
    cases f a S with
    | bad => exact fun h => h
    | exc n S2 => exact fun h T2 H2 st2 sim2 => h T2 H2 (st.trans st2) sim2
    | ok b S2 => exact fun h T2 H2 w st2 sim2 rel2 => h T2 H2 w (st.trans st2) sim2 rel2
theorem Out.use {o : Option γ} {S : Store} {Q : δ → Hp → Prop} {P : Prop} (h : Out K mg Wx relB T g H (ofO o S) Q)
    (k : ∀ b, o = some b → (∀ T' H' v, Step T H T' H' → Sim K mg T' S H' → relB T' H' v b → Q v H') → P) : P := by
  cases o with
  | none => exact h.elim
  | some b => exact k b rfl h
end

/-! ### names and constants -/
def mVar (i : Nat) : EM := fun r S => match r[i]? with
  | some (some d) => .ok d S
  | _ => .bad
def mC (d : D) : EM := fun _ S => .ok d S
section
variable {X : Cx} {Wx : WX}
theorem jv (i : Nat) {x : Str} {pos : Pos} (hN : X.N[i]? = some x := by rfl) (hv : Vis X.env.scope x := by first | exact Or.inl rfl | exact Or.inr (Or.inl rfl) | exact Or.inr (Or.inr rfl)) (hd : (x == ("__debug__" : Str)) = false := by decide)
    (hcd : (x == ("__classdict__" : Str)) = false := by decide) : PE X (.Name x pos) (tD X.K X.mg Wx (mVar i)) := by
  refine pe_imp (pe_var hN hv hd hcd) fun g H Q h => ?_
  obtain ⟨T, r, S, rs, sim, h⟩ := h
  unfold mVar at h
  split at h
  · rename_i d e
    obtain ⟨v, h1, h2⟩ := rs.2 i d e
    exact ⟨v, h1, h T H v (Step.refl T H) sim h2⟩
  · exact h.elim
theorem j_c {e : Expr} {v : V} {d : D} (h : PE X e (tC v)) (hd : ∀ T H, Rep X.K T H v d) : PE X e (tD X.K X.mg Wx (mC d)) := by
  refine pe_imp h fun g H Q h => ?_
  obtain ⟨T, r, S, rs, sim, h⟩ := h
  exact h T H v (Step.refl T H) sim (hd T H)
theorem j_int {i j pos} : PE X (.Constant (.int i) j pos) (tD X.K X.mg Wx (mC (.int i))) := j_c pe_int fun _ _ => .int i
theorem j_bl {i j pos} : PE X (.Constant (.bool i) j pos) (tD X.K X.mg Wx (mC (.bl i))) := j_c pe_bl fun _ _ => .bl i
theorem j_str {i j pos} : PE X (.Constant (.str i) j pos) (tD X.K X.mg Wx (mC (.str i))) := j_c pe_str fun _ _ => .str i
theorem j_non {j pos} : PE X (.Constant .none j pos) (tD X.K X.mg Wx (mC .non)) := j_c pe_non fun _ _ => .non
theorem j_globI {x : Str} {i : Int} {t : Tok} {pos : Pos} (hg : Gl X x) (hm : X.mg x = some (.int i t)) (hd : (x == ("__debug__" : Str)) = false := by decide) : PE X (.Name x pos) (tD X.K X.mg Wx (mC (.int i))) := j_c (pe_glob (v := .int i) hg hm ⟨t, rfl⟩ hd) fun _ _ => .int i
end

/-! ### argument lists, displays -/
def mNil : AM := fun _ S => .ok [] S
def mCons (m : EM) (ms : AM) : AM := fun r S => (m r S).bind fun d S1 => (ms r S1).bind fun ds S2 => .ok (d :: ds) S2
def mTup (ms : AM) : EM := fun r S => (ms r S).bind fun ds S1 => if ds.length ≤ 100000 then .ok (.tup ds) S1 else .bad
def mLst (ms : AM) : EM := fun r S => (ms r S).bind fun ds S1 => if ds.length ≤ 100000 then .ok (.lst ds) S1 else .bad
/-- a new list of the store -/
def mNewL (ms : AM) : EM := fun r S => (ms r S).bind fun ds S1 => if ds.length ≤ 100000 then .ok (.loc S1.length) (S1 ++ [.lst ds]) else .bad
theorem sz5 {n : Nat} (h : n ≤ 100000) : n ≤ sizeLine := Nat.le_trans h (by decide)
section
variable {X : Cx} {Wx : WX} {e : Expr} {es : List Expr} {pos : Pos} {m : EM} {ms : AM}
theorem ja_nil : PA X [] (tDA X.K X.mg Wx mNil) := by
  refine pa_imp pa_nil fun g H Q h => ?_
  obtain ⟨T, r, S, rs, sim, h⟩ := h
  exact h T H [] (Step.refl T H) sim .nil
theorem ja_cons (ha : PE X e (tD X.K X.mg Wx m)) (hr : PA X es (tDA X.K X.mg Wx ms)) (hs : starEach (e :: es) X.env = (false, eval e X.env) :: starEach es X.env := by rfl) : PA X (e :: es) (tDA X.K X.mg Wx (mCons m ms)) := by
  refine pa_imp (pa_cons ha hr hs) fun g H Q h => ?_
  obtain ⟨T, r, S, rs, sim, h⟩ := h
  refine ⟨T, r, S, rs, sim, Out.bind h fun d S1 T1 H1 v st sim1 rel h1 => ?_⟩
  refine ⟨T1, r, S1, rs.step st, sim1, Out.bind h1 fun ds S2 T2 H2 vs st2 sim2 rel2 h2 => ?_⟩
  exact h2 T2 H2 (v :: vs) (Step.refl T2 H2) sim2 (.cons (rel.step st2) rel2)
theorem j_tup {x1} (h : PA X es (tDA X.K X.mg Wx ms)) : PE X (.Tuple es x1 pos) (tD X.K X.mg Wx (mTup ms)) := by
  refine pe_imp (pe_tup h) fun g H Q h => ?_
  obtain ⟨T, r, S, rs, sim, h⟩ := h
  refine ⟨T, r, S, rs, sim, Out.bind h fun ds S1 T1 H1 vs st sim1 rel h1 => ?_⟩
  split at h1
  · rename_i hz
    have hz' : vs.length ≤ sizeLine := by rw [rel.length]; exact sz5 hz
    refine ⟨hz', fun p hp => ?_⟩
    have st1 : Step T1 H1 T1 (upd H1 p (.tup vs)) := sim1.stepNew hp
    exact h1 T1 _ _ st1 (sim1.new hp (hlen_tup sim1.hl hz')) (.tup upd_same (sim1.off hp) (rel.step st1))
  · exact h1.elim
theorem j_lst (h : PA X es (tDA X.K X.mg Wx ms)) : PE X (.List es pos) (tD X.K X.mg Wx (mLst ms)) := by
  refine pe_imp (pe_lst h) fun g H Q h => ?_
  obtain ⟨T, r, S, rs, sim, h⟩ := h
  refine ⟨T, r, S, rs, sim, Out.bind h fun ds S1 T1 H1 vs st sim1 rel h1 => ?_⟩
  split at h1
  · rename_i hz
    have hz' : vs.length ≤ sizeLine := by rw [rel.length]; exact sz5 hz
    refine ⟨hz', fun p hp => ?_⟩
    have st1 : Step T1 H1 T1 (upd H1 p (.lst vs)) := sim1.stepNew hp
    exact h1 T1 _ _ st1 (sim1.new hp (hlen_lst sim1.hl hz')) (.lst upd_same (sim1.off hp) (rel.step st1))
  · exact h1.elim
theorem j_newL (h : PA X es (tDA X.K X.mg Wx ms)) : PE X (.List es pos) (tD X.K X.mg Wx (mNewL ms)) := by
  refine pe_imp (pe_lst h) fun g H Q h => ?_
  obtain ⟨T, r, S, rs, sim, h⟩ := h
  refine ⟨T, r, S, rs, sim, Out.bind h fun ds S1 T1 H1 vs st sim1 rel h1 => ?_⟩
  split at h1
  · rename_i hz
    have hz' : vs.length ≤ sizeLine := by rw [rel.length]; exact sz5 hz
    refine ⟨hz', fun p hp => ?_⟩
    have st1 : Step T1 H1 (T1.add p) (upd H1 p (.lst vs)) := sim1.stepAlloc hp
    refine h1 (T1.add p) _ _ st1 (sim1.alloc hp (hlen_lst sim1.hl hz') ⟨vs, upd_same, rel.step st1⟩) (.loc ?_)
    exact sim1.newGet
  · exact h1.elim
end

/-! ### operators by values: the store is read, the heap may grow by what nobody may change -/
section
variable (K : PySem.W.Frag) (mg : Str → Option Value)
def POk (r : List V → Hp → VK → Prop) (f : List D → Store → Option D) : Prop := ∀ T S H vs ds d (Q : VK), Sim K mg T S H → RepL K T H vs ds → f ds S = some d →
  (∀ H' v, Step T H T H' → Sim K mg T S H' → Rep K T H' v d → Q v H') → r vs H Q
def POk2 (r : R2) (f : D → D → Store → Option D) : Prop := ∀ T S H x y a b d (Q : VK), Sim K mg T S H → Rep K T H x a → Rep K T H y b → f a b S = some d →
  (∀ H' v, Step T H T H' → Sim K mg T S H' → Rep K T H' v d → Q v H') → r x y H Q
def POk1 (r : V → Hp → VK → Prop) (f : D → Store → Option D) : Prop := ∀ T S H x a d (Q : VK), Sim K mg T S H → Rep K T H x a → f a S = some d →
  (∀ H' v, Step T H T H' → Sim K mg T S H' → Rep K T H' v d → Q v H') → r x H Q
end
def mBin (f : D → D → Store → Option D) (ma mb : EM) : EM := fun r S => (ma r S).bind fun a S1 => (mb r S1).bind fun b S2 => ofO (f a b S2) S2
def mUn (f : D → Store → Option D) (ma : EM) : EM := fun r S => (ma r S).bind fun a S1 => ofO (f a S1) S1
def mCall (f : List D → Store → Option D) (ms : AM) : EM := fun r S => (ms r S).bind fun ds S1 => ofO (f ds S1) S1
section
variable {X : Cx} {Wx : WX} {a b : Expr} {es : List Expr} {pos : Pos} {ma mb : EM} {ms : AM}
theorem tOp_of {K : PySem.W.Frag} {mg : Str → Option Value} {r : R2} {f : D → D → Store → Option D} (hf : POk2 K mg r f) : ∀ g H Q, tD K mg Wx (mBin f ma mb) g H Q → tOp r (tD K mg Wx ma) (tD K mg Wx mb) g H Q := by
  intro g H Q h
  obtain ⟨T, r, S, rs, sim, h⟩ := h
  refine ⟨T, r, S, rs, sim, Out.bind h fun x S1 T1 H1 v st sim1 rel h1 => ?_⟩
  refine ⟨T1, r, S1, rs.step st, sim1, Out.bind h1 fun y S2 T2 H2 w st2 sim2 rel2 h2 => ?_⟩
  exact Out.use h2 fun d e k => hf T2 S2 H2 v w x y d Q sim2 (rel.step st2) rel2 e fun H' v' s' => k T2 H' v' s'
theorem j_bin {op : Operator} {r : R2} {f : D → D → Store → Option D} (ho : OpR X (binaryOp op) r) (hf : POk2 X.K X.mg r f) (ha : PE X a (tD X.K X.mg Wx ma)) (hb : PE X b (tD X.K X.mg Wx mb)) : PE X (.BinOp a op b pos) (tD X.K X.mg Wx (mBin f ma mb)) :=
  pe_imp (pe_op ho ha hb) (tOp_of hf)
theorem j_cmp {op : CmpOp} {r : R2} {f : D → D → Store → Option D} (ho : OpR X (compareOp op) r) (hf : POk2 X.K X.mg r f) (hm : behindInMarks op b = false) (ha : PE X a (tD X.K X.mg Wx ma)) (hb : PE X b (tD X.K X.mg Wx mb)) : PE X (.Compare a [op] [b] pos) (tD X.K X.mg Wx (mBin f ma mb)) :=
  pe_imp (pe_cmpR ho ha hb hm) (tOp_of hf)
theorem j_un {op : UnaryOp} {r : V → Hp → VK → Prop} {f : D → Store → Option D} (ho : UnR X (unaryOp op) r) (hf : POk1 X.K X.mg r f) (ha : PE X a (tD X.K X.mg Wx ma)) : PE X (.UnaryOp op a pos) (tD X.K X.mg Wx (mUn f ma)) := by
  refine pe_imp (pe_un ho ha) fun g H Q h => ?_
  obtain ⟨T, r, S, rs, sim, h⟩ := h
  refine ⟨T, r, S, rs, sim, Out.bind h fun x S1 T1 H1 v st sim1 rel h1 => ?_⟩
  exact Out.use h1 fun d e k => hf T1 S1 H1 v x d Q sim1 rel e fun H' v' s' => k T1 H' v' s'
theorem j_ix {r : R2} {f : D → D → Store → Option D} (ho : IxR X r) (hf : POk2 X.K X.mg r f) (hs : PlainIx b) (ha : PE X a (tD X.K X.mg Wx ma)) (hb : PE X b (tD X.K X.mg Wx mb)) : PE X (.Subscript a b pos) (tD X.K X.mg Wx (mBin f ma mb)) :=
  pe_imp (pe_ix ho ha hb hs) (tOp_of hf)
theorem tCB_of {K : PySem.W.Frag} {mg : Str → Option Value} {r : List V → Hp → VK → Prop} {f : List D → Store → Option D} (hf : POk K mg r f) : ∀ g H Q, tD K mg Wx (mCall f ms) g H Q → tCB r (tDA K mg Wx ms) g H Q := by
  intro g H Q h
  obtain ⟨T, r, S, rs, sim, h⟩ := h
  refine ⟨T, r, S, rs, sim, Out.bind h fun x S1 T1 H1 v st sim1 rel h1 => ?_⟩
  exact Out.use h1 fun d e k => hf T1 S1 H1 v x d Q sim1 rel e fun H' v' s' => k T1 H' v' s'
theorem j_callB {x : Str} {p : Pos} {e : Expr} {id : String} {r : List V → Hp → VK → Prop} {f : List D → Store → Option D} (hc : CallR X (.builtin id) r) (hf : POk X.K X.mg r f) (hg : Gl X x) (hm : X.mg x = none) (hv : bootBuiltins x = some (.builtin id)) (ha : PA X (e :: es) (tDA X.K X.mg Wx ms))
    (hn : x ≠ "__name__" := by decide) (hdb : (x == ("__debug__" : Str)) = false := by decide) (he : starEach (e :: es) X.env = (false, eval e X.env) :: starEach es X.env := by rfl) (hpl : (backTo pos (starEach es X.env)).any (·.1) = false := by rfl) :
    PE X (.Call (.Name x p) (e :: es) [] pos) (tD X.K X.mg Wx (mCall f ms)) := pe_imp (pe_callB hc hg hm hv ha hn hdb he hpl) (tCB_of hf)
theorem j_callT {x : Str} {p : Pos} {e : Expr} {id : String} {r : List V → Hp → VK → Prop} {f : List D → Store → Option D} (hc : CallR X (.type id) r) (hf : POk X.K X.mg r f) (hg : Gl X x) (hm : X.mg x = none) (hv : bootBuiltins x = some (.type id)) (ha : PA X (e :: es) (tDA X.K X.mg Wx ms))
    (hn : x ≠ "__name__" := by decide) (hdb : (x == ("__debug__" : Str)) = false := by decide) (he : starEach (e :: es) X.env = (false, eval e X.env) :: starEach es X.env := by rfl) (hpl : (backTo pos (starEach es X.env)).any (·.1) = false := by rfl) :
    PE X (.Call (.Name x p) (e :: es) [] pos) (tD X.K X.mg Wx (mCall f ms)) := pe_imp (pe_callTy hc hg hm hv ha hn hdb he hpl) (tCB_of hf)
end
end Dv
namespace Dv
open PySem L2
theorem Rep.bl_of {K : PySem.W.Frag} {T : Tb} {H : Hp} {v : V} {b : Bool} (h : Rep K T H v (.bl b)) : v = .bl b := by
  cases h
  rfl
theorem Rep.int_of {K : PySem.W.Frag} {T : Tb} {H : Hp} {v : V} {b : Int} (h : Rep K T H v (.int b)) : v = .int b := by
  cases h
  rfl
theorem Rep.str_of {K : PySem.W.Frag} {T : Tb} {H : Hp} {v : V} {b : Str} (h : Rep K T H v (.str b)) : v = .str b := by
  cases h
  rfl
theorem Rep.non_of {K : PySem.W.Frag} {T : Tb} {H : Hp} {v : V} (h : Rep K T H v .non) : v = .non := by
  cases h
  rfl
/-! ### truths -/
def asB (d : D) : Option Bool := match d with
  | .bl b => some b
  | _ => none
def truD (d : D) (S : Store) : Option Bool := match d with
  | .non => some false
  | .bl b => some b
  | .int i => some (i != 0)
  | .str x => if x.length ≤ 100000 then some ((x.length : Int) != 0) else none
  | .tup xs => some (!xs.isEmpty)
  | .lst xs => some (!xs.isEmpty)
  | .scr ns => some (!ns.isEmpty)
  | .loc n => match S[n]? with
    | some (.lst xs) => some (!xs.isEmpty)
    | _ => none
  | _ => none
def mT (m : EM) : BM := fun r S => (m r S).bind fun d S1 => ofO (asB d) S1
def mTru (m : EM) : BM := fun r S => (m r S).bind fun d S1 => ofO (truD d S1) S1
def mNotT (m : BM) : BM := fun r S => (m r S).bind fun b S1 => .ok (!b) S1
def mAndT (ma mb : BM) : BM := fun r S => (ma r S).bind fun b S1 => if b = true then mb r S1 else .ok false S1
def mOrT (ma mb : BM) : BM := fun r S => (ma r S).bind fun b S1 => if b = true then .ok true S1 else mb r S1
def mAnd (ma mb : EM) : EM := fun r S => (ma r S).bind fun d S1 => match d with
  | .bl true => mb r S1
  | .bl false => .ok (.bl false) S1
  | _ => .bad
def mOr (ma mb : EM) : EM := fun r S => (ma r S).bind fun d S1 => match d with
  | .bl true => .ok (.bl true) S1
  | .bl false => mb r S1
  | _ => .bad
def mNot (ma : EM) : EM := fun r S => (ma r S).bind fun d S1 => match d with
  | .bl b => .ok (.bl (!b)) S1
  | _ => .bad
def mIf (mt : BM) (ma mb : EM) : EM := fun r S => (mt r S).bind fun b S1 => if b = true then ma r S1 else mb r S1
/-- a comparison of three, the middle one told once -/
def mChain (f f' : D → D → Store → Option D) (ma mb mc : EM) : EM := fun r S => (ma r S).bind fun a S1 => (mb r S1).bind fun b S2 => (ofO (f a b S2) S2).bind fun d S3 => match d with
  | .bl true => (mc r S3).bind fun c S4 => ofO (f' b c S4) S4
  | .bl false => .ok (.bl false) S3
  | _ => .bad
section
variable {X : Cx} {Wx : WX} {a b c : Expr} {rest : List Expr} {pos : Pos} {ma mb mc : EM} {ta tb : BM}
theorem isEmpty_rep {K : PySem.W.Frag} {T : Tb} {H : Hp} {xs : List V} {ds : List D} (h : RepL K T H xs ds) : (!xs.isEmpty) = !ds.isEmpty := by
  cases h <;> rfl
theorem truD_ok {K : PySem.W.Frag} {mg : Str → Option Value} {T : Tb} {S : Store} {H : Hp} {v : V} {d : D} {b : Bool} (sim : Sim K mg T S H) (h : Rep K T H v d) (e : truD d S = some b) : TruV K v H b := by
  cases h with
  | non => cases e; rfl
  | bl x => cases e; rfl
  | int i => cases e; rfl
  | str x =>
    have e : (if x.length ≤ 100000 then some ((x.length : Int) != 0) else none) = some b := e
    by_cases hz : x.length ≤ 100000
    · rw [if_pos hz] at e
      cases e
      exact ⟨sz5 hz, rfl⟩
    · rw [if_neg hz] at e
      cases e
  | tup h n r => cases e; exact .inr (.inl ⟨_, SqT.of h, (isEmpty_rep r).symm⟩)
  | lst h n r => cases e; exact .inl ⟨_, SqL.of h, (isEmpty_rep r).symm⟩
  | scr h =>
    cases e
    refine .inl ⟨_, h.sq, ?_⟩
    rename_i ns
    cases ns <;> rfl
  | dct h n q r => cases e
  | ty x => cases e
  | loc hn =>
    simp only [truD] at e
    split at e
    · rename_i xs q
      cases e
      obtain ⟨ys, h1, h2⟩ := sim.obj _ _ _ hn q
      exact .inl ⟨ys, .inl (.inl h1), (isEmpty_rep h2).symm⟩
    · cases e
theorem tTest_of {K : PySem.W.Frag} {mg : Str → Option Value} : ∀ g H Q, tDT K mg Wx (mT ma) g H Q → tTest (tD K mg Wx ma) g H Q := by
  intro g H Q h
  obtain ⟨T, r, S, rs, sim, h⟩ := h
  refine ⟨T, r, S, rs, sim, Out.bind h fun x S1 T1 H1 v st sim1 rel h1 => ?_⟩
  refine Out.use h1 fun k e q => ?_
  cases x <;> cases e
  rw [rel.bl_of]
  exact ⟨_, rfl, q T1 H1 _ (Step.refl T1 H1) sim1 rfl⟩
theorem jt_cmp {op : CmpOp} {r : R2} {f : D → D → Store → Option D} (ho : OpR X (compareOp op) r) (hf : POk2 X.K X.mg r f) (hm : behindInMarks op b = false) (ha : PE X a (tD X.K X.mg Wx ma)) (hb : PE X b (tD X.K X.mg Wx mb)) : PT X (.Compare a [op] [b] pos) (tDT X.K X.mg Wx (mT (mBin f ma mb))) :=
  pt_imp (pt_cmpR ho ha hb hm) fun g H Q h => by
    obtain ⟨T, r, S, rs, sim, h⟩ := tTest_of g H Q h
    exact tOp_of hf g H _ ⟨T, r, S, rs, sim, h⟩
theorem jt_tru (ha : PE X a (tD X.K X.mg Wx ma)) (he : ∀ whole, isTrue a X.env whole = (do let v ← whole; standAt a.pos; holding [v] (truthy v)) := by intro _; rfl) : PT X a (tDT X.K X.mg Wx (mTru ma)) :=
  pt_imp (pt_truth ha he) fun g H Q h => by
    obtain ⟨T, r, S, rs, sim, h⟩ := h
    refine ⟨T, r, S, rs, sim, Out.bind h fun x S1 T1 H1 v st sim1 rel h1 => ?_⟩
    exact Out.use h1 fun k e q => ⟨k, truD_ok sim1 rel e, q T1 H1 k (Step.refl T1 H1) sim1 rfl⟩
theorem jt_not (ha : PT X a (tDT X.K X.mg Wx ta)) : PT X (.UnaryOp .Not a pos) (tDT X.K X.mg Wx (mNotT ta)) :=
  pt_imp (pt_not ha) fun g H Q h => by
    obtain ⟨T, r, S, rs, sim, h⟩ := h
    refine ⟨T, r, S, rs, sim, Out.bind h fun x S1 T1 H1 v st sim1 rel h1 => ?_⟩
    subst rel
    exact h1 T1 H1 _ (Step.refl T1 H1) sim1 rfl
theorem jw_and1 (ha : PT X a (tDT X.K X.mg Wx ta)) : PW X (.BoolOp .And [a] pos) (tDT X.K X.mg Wx ta) := pw_and1 ha
theorem jw_or1 (ha : PT X a (tDT X.K X.mg Wx ta)) : PW X (.BoolOp .Or [a] pos) (tDT X.K X.mg Wx ta) := pw_or1 ha
theorem jw_and (ha : PT X a (tDT X.K X.mg Wx ta)) (hb : PW X (.BoolOp .And (b :: rest) pos) (tDT X.K X.mg Wx tb)) : PW X (.BoolOp .And (a :: b :: rest) pos) (tDT X.K X.mg Wx (mAndT ta tb)) :=
  pw_imp (pw_and ha hb) fun g H Q h => by
    obtain ⟨T, r, S, rs, sim, h⟩ := h
    refine ⟨T, r, S, rs, sim, Out.bind h fun x S1 T1 H1 v st sim1 rel h1 => ?_⟩
    subst rel
    cases v with
    | true => exact ⟨T1, r, S1, rs.step st, sim1, h1⟩
    | false => exact h1 T1 H1 _ (Step.refl T1 H1) sim1 rfl
theorem jw_or (ha : PT X a (tDT X.K X.mg Wx ta)) (hb : PW X (.BoolOp .Or (b :: rest) pos) (tDT X.K X.mg Wx tb)) : PW X (.BoolOp .Or (a :: b :: rest) pos) (tDT X.K X.mg Wx (mOrT ta tb)) :=
  pw_imp (pw_or ha hb) fun g H Q h => by
    obtain ⟨T, r, S, rs, sim, h⟩ := h
    refine ⟨T, r, S, rs, sim, Out.bind h fun x S1 T1 H1 v st sim1 rel h1 => ?_⟩
    subst rel
    cases v with
    | true => exact h1 T1 H1 _ (Step.refl T1 H1) sim1 rfl
    | false => exact ⟨T1, r, S1, rs.step st, sim1, h1⟩
theorem jw_pt {e : Expr} (h : PW X e (tDT X.K X.mg Wx ta)) : PT X e (tDT X.K X.mg Wx ta) := PW.pt h
theorem j_one {op} (h : PE X a (tD X.K X.mg Wx ma)) : PE X (.BoolOp op [a] pos) (tD X.K X.mg Wx ma) := pe_one h
theorem j_and (ha : PE X a (tD X.K X.mg Wx ma)) (hb : PE X (.BoolOp .And (b :: rest) pos) (tD X.K X.mg Wx mb)) : PE X (.BoolOp .And (a :: b :: rest) pos) (tD X.K X.mg Wx (mAnd ma mb)) :=
  pe_imp (pe_and ha hb) fun g H Q h => by
    obtain ⟨T, r, S, rs, sim, h⟩ := h
    refine ⟨T, r, S, rs, sim, Out.bind h fun x S1 T1 H1 v st sim1 rel h1 => ?_⟩
    cases x with
    | bl k =>
      rw [rel.bl_of]
      refine ⟨k, rfl, ?_⟩
      cases k with
      | true => exact ⟨T1, r, S1, rs.step st, sim1, h1⟩
      | false => exact h1 T1 H1 _ (Step.refl T1 H1) sim1 (.bl false)
    | _ => exact h1.elim
theorem j_or (ha : PE X a (tD X.K X.mg Wx ma)) (hb : PE X (.BoolOp .Or (b :: rest) pos) (tD X.K X.mg Wx mb)) : PE X (.BoolOp .Or (a :: b :: rest) pos) (tD X.K X.mg Wx (mOr ma mb)) :=
  pe_imp (pe_or ha hb) fun g H Q h => by
    obtain ⟨T, r, S, rs, sim, h⟩ := h
    refine ⟨T, r, S, rs, sim, Out.bind h fun x S1 T1 H1 v st sim1 rel h1 => ?_⟩
    cases x with
    | bl k =>
      rw [rel.bl_of]
      refine ⟨k, rfl, ?_⟩
      cases k with
      | true => exact h1 T1 H1 _ (Step.refl T1 H1) sim1 (.bl true)
      | false => exact ⟨T1, r, S1, rs.step st, sim1, h1⟩
    | _ => exact h1.elim
theorem j_not (ha : PE X a (tD X.K X.mg Wx ma)) : PE X (.UnaryOp .Not a pos) (tD X.K X.mg Wx (mNot ma)) :=
  pe_imp (pe_not ha) fun g H Q h => by
    obtain ⟨T, r, S, rs, sim, h⟩ := h
    refine ⟨T, r, S, rs, sim, Out.bind h fun x S1 T1 H1 v st sim1 rel h1 => ?_⟩
    cases x with
    | bl k =>
      rw [rel.bl_of]
      exact ⟨k, rfl, h1 T1 H1 _ (Step.refl T1 H1) sim1 (.bl (!k))⟩
    | _ => exact h1.elim
theorem j_if (hc : PT X c (tDT X.K X.mg Wx ta)) (ha : PE X a (tD X.K X.mg Wx ma)) (hb : PE X b (tD X.K X.mg Wx mb)) : PE X (.IfExp c a b pos) (tD X.K X.mg Wx (mIf ta ma mb)) :=
  pe_imp (pe_ifExp hc ha hb) fun g H Q h => by
    obtain ⟨T, r, S, rs, sim, h⟩ := h
    refine ⟨T, r, S, rs, sim, Out.bind h fun x S1 T1 H1 v st sim1 rel h1 => ?_⟩
    subst rel
    cases v with
    | true => exact ⟨T1, r, S1, rs.step st, sim1, h1⟩
    | false => exact ⟨T1, r, S1, rs.step st, sim1, h1⟩
theorem tChain_of {K : PySem.W.Frag} {mg : Str → Option Value} {r r' : R2} {f f' : D → D → Store → Option D} (hf : POk2 K mg r f) (hf' : POk2 K mg r' f') : ∀ g H Q, tD K mg Wx (mChain f f' ma mb mc) g H Q → tChain r r' (tD K mg Wx ma) (tD K mg Wx mb) (tD K mg Wx mc) g H Q := by
  intro g H Q h
  obtain ⟨T, en, S, rs, sim, h⟩ := h
  refine ⟨T, en, S, rs, sim, Out.bind h fun x S1 T1 H1 v st sim1 rel h1 => ?_⟩
  refine ⟨T1, en, S1, rs.step st, sim1, Out.bind h1 fun y S2 T2 H2 w st2 sim2 rel2 h2 => ?_⟩
  have h3 := Out.bind (relA := Rep K) (Q1 := fun z H3 => ∃ k, z = V.bl k ∧ (if k = true then tD K mg Wx mc g H3 fun w' H4 => r' w w' H4 Q else Q (.bl false) H3)) h2 fun d S3 T3 H3 z st3 sim3 rel3 h3 => by
    cases d with
    | bl k =>
      rw [rel3.bl_of]
      refine ⟨k, rfl, ?_⟩
      cases k with
      | false => exact h3 T3 H3 _ (Step.refl T3 H3) sim3 (.bl false)
      | true =>
        refine ⟨T3, en, S3, (rs.step st).step (st2.trans st3), sim3, Out.bind h3 fun u S4 T4 H4 w4 st4 sim4 rel4 h4 => ?_⟩
        exact Out.use h4 fun d' e' k' => hf' T4 S4 H4 w w4 y u d' Q sim4 (rel2.step (st3.trans st4)) rel4 e' fun H' v' s' => k' T4 H' v' s'
    | _ => exact h3.elim
  exact Out.use h3 fun d e k => hf T2 S2 H2 v w x y d _ sim2 (rel.step st2) rel2 e fun H' v' s' => k T2 H' v' s'
theorem j_chain {op op' : CmpOp} {r r' : R2} {f f' : D → D → Store → Option D} (ho : OpR X (compareOp op) r) (hf : POk2 X.K X.mg r f) (ho' : OpR X (compareOp op') r') (hf' : POk2 X.K X.mg r' f') (ha : PE X a (tD X.K X.mg Wx ma)) (hb : PE X b (tD X.K X.mg Wx mb)) (hc : PE X c (tD X.K X.mg Wx mc)) (hm : lastMarks [op, op'] [b, c] = false := by with_unfolding_all rfl) :
    PE X (.Compare a [op, op'] [b, c] pos) (tD X.K X.mg Wx (mChain f f' ma mb mc)) :=
  pe_imp (pe_chain ho ho' ha hb hc hm) (tChain_of hf hf')
theorem jt_chain {op op' : CmpOp} {r r' : R2} {f f' : D → D → Store → Option D} (ho : OpR X (compareOp op) r) (hf : POk2 X.K X.mg r f) (ho' : OpR X (compareOp op') r') (hf' : POk2 X.K X.mg r' f') (ha : PE X a (tD X.K X.mg Wx ma)) (hb : PE X b (tD X.K X.mg Wx mb)) (hc : PE X c (tD X.K X.mg Wx mc)) (hm : lastMarks [op, op'] [b, c] = false := by with_unfolding_all rfl) :
    PT X (.Compare a [op, op'] [b, c] pos) (tDT X.K X.mg Wx (mT (mChain f f' ma mb mc))) :=
  pt_imp (pt_chain ho ho' ha hb hc hm) fun g H Q h => by
    obtain ⟨T, r, S, rs, sim, h⟩ := tTest_of g H Q h
    exact tChain_of hf hf' g H _ ⟨T, r, S, rs, sim, h⟩
end
end Dv
namespace Dv
open PySem L2
def bindS {α : Type} (x : R α) (r : Env) (f : α → Store → Z) : Z := match x with
  | .ok a S => f a S
  | .exc n S => .exc n r S
  | .bad => .bad
section
variable {K : PySem.W.Frag} {mg : Str → Option Value} {Wx : WX} {T T1 : Tb} {H H1 : Hp} {E : Ends} {α β : Type} {rel : Tb → Hp → β → α → Prop} {r : Env} {g : St}
theorem ZOut.step {z : Z} (st : Step T H T1 H1) (h : ZOut K mg Wx T H z E) : ZOut K mg Wx T1 H1 z E := by
  cases z with
  | bad => exact h
  | exc n r' S' => exact fun T' H' g' s => h T' H' g' (st.trans s)
  | ok f r' S' =>
    cases f with
    | next => exact fun T' H' g' s => h T' H' g' (st.trans s)
    | ret d => exact fun T' H' g' s => h T' H' g' (st.trans s)
    | brk => exact fun T' H' g' s => h T' H' g' (st.trans s)
    | cont => exact fun T' H' g' s => h T' H' g' (st.trans s)
theorem ZOut.bind {x : R α} {f : α → Store → Z} {Q : β → Hp → Prop} (h : ZOut K mg Wx T H (bindS x r f) E) (rs : RepSt K T H r g)
    (k : ∀ a S T1 H1 v, Step T H T1 H1 → Sim K mg T1 S H1 → rel T1 H1 v a → RepSt K T1 H1 r g → ZOut K mg Wx T1 H1 (f a S) E → Q v H1) : Out K mg Wx rel T g H x Q := by
  cases x with
  | bad => exact h
  | exc n S => exact fun T1 H1 st sim => h T1 H1 g st sim (rs.step st)
  | ok a S => exact fun T1 H1 v st sim rl => k a S T1 H1 v st sim rl (rs.step st) (ZOut.step st h)
theorem ZOut.nx {r : Env} {S : Store} {g : St} (h : ZOut K mg Wx T H (.ok .next r S) E) (sim : Sim K mg T S H) (rs : RepSt K T H r g) : E.nx g H := h T H g (Step.refl T H) sim rs
end
/-! ### blocks and small statements -/
def sNil : SM := fun r S => .ok .next r S
def sSeq (a b : SM) : SM := fun r S => match a r S with
  | .ok .next r1 S1 => b r1 S1
  | z => z
def sSet (i : Nat) (m : EM) : SM := fun r S => bindS (m r S) r fun d S1 => .ok .next (r.set i (some d)) S1
def sDrop (m : EM) : SM := fun r S => bindS (m r S) r fun _ S1 => .ok .next r S1
def sRet (m : EM) : SM := fun r S => bindS (m r S) r fun d S1 => .ok (.ret d) r S1
def sRetN : SM := fun r S => .ok (.ret .non) r S
def sIf (c : BM) (a b : SM) : SM := fun r S => bindS (c r S) r fun k S1 => if k = true then a r S1 else b r S1
def sBrk : SM := fun r S => .ok .brk r S
def sCont : SM := fun r S => .ok .cont r S
def sNever : SM := fun _ _ => .bad
/-- names told no more -/
def sForget (i : Nat) (a : SM) : SM := fun r S => a (r.set i none) S
def sAug (i : Nat) (f : Int → Int → Int) (m : EM) : SM := fun r S => match r[i]? with
  | some (some (.int a)) => bindS (m r S) r fun d S1 => match d with
    | .int b => .ok .next (r.set i (some (.int (f a b)))) S1
    | _ => .bad
  | _ => .bad
def sPar (i j : Nat) (ms : AM) : SM := fun r S => bindS (ms r S) r fun ds S1 => match ds with
  | [a, b] => .ok .next ((r.set i (some a)).set j (some b)) S1
  | _ => .bad
section
variable {X : Cx} {Wx : WX} {st : Stmt} {rest : List Stmt} {pos pos' : Pos} {e : Expr} {m : EM} {sa sb : SM} {c : BM}
theorem js_nil : PSs X [] (tDS X.K X.mg Wx sNil) := pss_imp pss_nil fun E g H h => by
  obtain ⟨T, r, S, rs, sim, h⟩ := h
  exact h.nx sim rs
theorem js_cons (h1 : PS X st (tDS X.K X.mg Wx sa)) (h2 : PSs X rest (tDS X.K X.mg Wx sb)) : PSs X (st :: rest) (tDS X.K X.mg Wx (sSeq sa sb)) := pss_imp (pss_cons h1 h2) fun E g H h => by
  obtain ⟨T, r, S, rs, sim, h⟩ := h
  refine ⟨T, r, S, rs, sim, ?_⟩
  unfold sSeq at h
  revert h
  cases sa r S with
  | bad => exact fun h => h
  | exc n r' S' => exact fun h => h
  | ok f r' S' =>
    cases f with
    | next => exact fun h T' H' g' s sim' rs' => ⟨T', r', S', rs', sim', ZOut.step s h⟩
    | ret d => exact fun h => h
    | brk => exact fun h => h
    | cont => exact fun h => h
theorem js_one (h1 : PS X st (tDS X.K X.mg Wx sa)) : PSs X [st] (tDS X.K X.mg Wx sa) := pss_one h1
theorem js_set {i : Nat} {x : Str} (hN : X.N.Nodup) (hi : X.N[i]? = some x) (hx : Loc X.env.scope x) (he : PE X e (tD X.K X.mg Wx m)) (hs : swapsWith e (some (.Name x pos')) pos.line X.env = pure false := by rfl)
    (hf : X.fn x = true ∨ X.env.scope.names.lookup x = some .local := by first | exact .inl rfl | exact .inr rfl | assumption) : PS X (.Assign [.Name x pos'] e pos) (tDS X.K X.mg Wx (sSet i m)) :=
  ps_imp (ps_set hN hi hx he hs hf) fun E g H h => by
    obtain ⟨T, r, S, rs, sim, h⟩ := h
    refine ⟨T, r, S, rs, sim, ZOut.bind h rs fun d S1 T1 H1 v st sim1 rel rs1 h1 => ?_⟩
    exact h1.nx sim1 (rs1.set rel)
theorem js_drop (he : PE X e (tD X.K X.mg Wx m)) (hs : swapsWith e none pos.line X.env = pure false := by rfl) : PS X (.Expr e pos) (tDS X.K X.mg Wx (sDrop m)) :=
  ps_imp (ps_expr he hs) fun E g H h => by
    obtain ⟨T, r, S, rs, sim, h⟩ := h
    refine ⟨T, r, S, rs, sim, ZOut.bind h rs fun d S1 T1 H1 v st sim1 rel rs1 h1 => ?_⟩
    exact h1.nx sim1 rs1
theorem js_ret (he : PE X e (tD X.K X.mg Wx m)) : PS X (.Return (some e) pos) (tDS X.K X.mg Wx (sRet m)) :=
  ps_imp (ps_ret he) fun E g H h => by
    obtain ⟨T, r, S, rs, sim, h⟩ := h
    refine ⟨T, r, S, rs, sim, ZOut.bind h rs fun d S1 T1 H1 v st sim1 rel rs1 h1 => ?_⟩
    exact h1 T1 H1 v (Step.refl T1 H1) sim1 rel
theorem js_retN : PS X (.Return none pos) (tDS X.K X.mg Wx sRetN) := ps_imp ps_retN fun E g H h => by
  obtain ⟨T, r, S, rs, sim, h⟩ := h
  exact h T H .non (Step.refl T H) sim .non
theorem js_brk : PS X (.Break pos) (tDS X.K X.mg Wx sBrk) := ps_imp ps_break fun E g H h => by
  obtain ⟨T, r, S, rs, sim, h⟩ := h
  exact h T H g (Step.refl T H) sim rs
theorem js_cont : PS X (.Continue pos) (tDS X.K X.mg Wx sCont) := ps_imp ps_continue fun E g H h => by
  obtain ⟨T, r, S, rs, sim, h⟩ := h
  exact h T H g (Step.refl T H) sim rs
theorem js_never : PS X st (tDS X.K X.mg Wx sNever) := ps_imp ps_never fun E g H h => by
  obtain ⟨T, r, S, rs, sim, h⟩ := h
  exact h
theorem js_doc {x j} : PS X (.Expr (.Constant (.str x) j pos) pos') (tDS X.K X.mg Wx sNil) := ps_imp ps_doc fun E g H h => by
  obtain ⟨T, r, S, rs, sim, h⟩ := h
  exact h.nx sim rs
theorem js_forget {i : Nat} (h1 : PS X st (tDS X.K X.mg Wx sa)) : PS X st (tDS X.K X.mg Wx (sForget i sa)) := ps_imp h1 fun E g H h => by
  obtain ⟨T, r, S, rs, sim, h⟩ := h
  exact ⟨T, r.set i none, S, rs.forget, sim, h⟩
theorem jss_forget {i : Nat} {sts : List Stmt} (h1 : PSs X sts (tDS X.K X.mg Wx sa)) : PSs X sts (tDS X.K X.mg Wx (sForget i sa)) := pss_imp h1 fun E g H h => by
  obtain ⟨T, r, S, rs, sim, h⟩ := h
  exact ⟨T, r.set i none, S, rs.forget, sim, h⟩
theorem js_if {t : Expr} {a b : List Stmt} (hc : PT X t (tDT X.K X.mg Wx c)) (ha : PSs X a (tDS X.K X.mg Wx sa)) (hb : PSs X b (tDS X.K X.mg Wx sb)) : PS X (.If t a b pos) (tDS X.K X.mg Wx (sIf c sa sb)) :=
  ps_imp (ps_if hc ha hb) fun E g H h => by
    obtain ⟨T, r, S, rs, sim, h⟩ := h
    refine ⟨T, r, S, rs, sim, ZOut.bind h rs fun d S1 T1 H1 v st sim1 rel rs1 h1 => ?_⟩
    subst rel
    cases v with
    | true => exact ⟨T1, r, S1, rs1, sim1, h1⟩
    | false => exact ⟨T1, r, S1, rs1, sim1, h1⟩
theorem js_augI {i : Nat} {x : Str} {op : Operator} {f : Int → Int → Int} (hN : X.N.Nodup) (hi : X.N[i]? = some x) (hx : Loc X.env.scope x) (ho : PIp X op (ipI f)) (he : PE X e (tD X.K X.mg Wx m))
    (hf : X.fn x = true ∨ X.env.scope.names.lookup x = some .local := by first | exact .inl rfl | exact .inr rfl | assumption) : PS X (.AugAssign (.Name x pos') op e pos) (tDS X.K X.mg Wx (sAug i f m)) :=
  ps_imp (ps_aug hN hi hx he ho hf) fun E g H h => by
    obtain ⟨T, r, S, rs, sim, h⟩ := h
    unfold sAug at h
    split at h
    · rename_i a ea
      obtain ⟨v, h1, h2⟩ := rs.2 i _ ea
      refine ⟨v, h1, T, r, S, rs, sim, ZOut.bind h rs fun d S1 T1 H1 w st sim1 rel rs1 h3 => ?_⟩
      cases d with
      | int b =>
        rw [rel.int_of]
        exact ⟨a, b, h2.int_of, rfl, h3.nx sim1 (rs1.set (.int _))⟩
      | _ => exact h3.elim
    · exact h.elim
theorem js_par {i j : Nat} {x y : Str} {a b : Expr} {ms : AM} {px py pt : Pos} {kt k2 pt2} (hc : X.calm = true) (hN : X.N.Nodup) (hi : X.N[i]? = some x) (hj : X.N[j]? = some y) (hij : i ≠ j)
    (hx : X.env.scope.names.lookup x = some .local) (hy : X.env.scope.names.lookup y = some .local) (ha : PA X [a, b] (tDA X.K X.mg Wx ms))
    (hw : swappedStores [.Tuple [.Name x px, .Name y py] kt pt] (.Tuple [a, b] k2 pt2) X.env = pure (some [x, y]))
    (hs : swapsWithSole [.Tuple [.Name x px, .Name y py] kt pt] (.Tuple [a, b] k2 pt2) pos.line X.env = pure false := by rfl) :
    PS X (.Assign [.Tuple [.Name x px, .Name y py] kt pt] (.Tuple [a, b] k2 pt2) pos) (tDS X.K X.mg Wx (sPar i j ms)) :=
  ps_imp (ps_par hc hN hi hj hij hx hy ha hw hs) fun E g H h => by
    obtain ⟨T, r, S, rs, sim, h⟩ := h
    refine ⟨T, r, S, rs, sim, ZOut.bind h rs fun d S1 T1 H1 v st sim1 rel rs1 h1 => ?_⟩
    cases rel with
    | nil => exact h1.elim
    | cons q1 rel =>
      cases rel with
      | nil => exact h1.elim
      | cons q2 rel =>
        cases rel with
        | nil => exact ⟨_, _, rfl, h1.nx sim1 ((rs1.set q1).set q2)⟩
        | cons _ _ => exact h1.elim
end

/-! ### targets -/
def gD (K : PySem.W.Frag) (mg : Str → Option Value) (sl : List Nat) (gm : D → Env → Option Env) : TG := fun v g H Q => ∃ T r S d r', RepSt K T H r g ∧ Sim K mg T S H ∧ Rep K T H v d ∧ gm d r = some r' ∧
  ∀ g', RepSt K T H r' g' → g'.length = g.length → (∀ j, j ∉ sl → g'[j]? = g[j]?) → Q g' H
def gDs (K : PySem.W.Frag) (mg : Str → Option Value) (sl : List Nat) (gm : List D → Env → Option Env) : TGs := fun vs g H Q => ∃ T r S ds r', RepSt K T H r g ∧ Sim K mg T S H ∧ RepL K T H vs ds ∧ gm ds r = some r' ∧
  ∀ g', RepSt K T H r' g' → g'.length = g.length → (∀ j, j ∉ sl → g'[j]? = g[j]?) → Q g' H
def tgN (i : Nat) : D → Env → Option Env := fun d r => some (r.set i (some d))
def tgsNil : List D → Env → Option Env := fun ds r => match ds with
  | [] => some r
  | _ => none
def tgsCons (a : D → Env → Option Env) (b : List D → Env → Option Env) : List D → Env → Option Env := fun ds r => match ds with
  | d :: ds => (a d r).bind fun r1 => b ds r1
  | [] => none
def tgT (n : Nat) (b : List D → Env → Option Env) : D → Env → Option Env := fun d r => match d with
  | .tup ds => if ds.length = n then b ds r else none
  | _ => none
section
variable {X : Cx} {pos : Pos}
theorem pg_imp {tg : Expr} {t t' : TG} (h : PG X tg t) (i : ∀ v g H Q, t' v g H Q → t v g H Q) : PG X tg t' := ⟨fun pins s g H v u Q I r w => h.run pins s g H v u Q I r (i v g H Q w)⟩
theorem pgs_imp {tg : List Expr} {t t' : TGs} (h : PGs X tg t) (i : ∀ v g H Q, t' v g H Q → t v g H Q) : PGs X tg t' := ⟨fun pins s g H v u Q I r w => h.run pins s g H v u Q I r (i v g H Q w)⟩
theorem jg_name {i : Nat} {x : Str} (hN : X.N.Nodup) (hi : X.N[i]? = some x) (hx : Loc X.env.scope x) (hf : X.fn x = true ∨ X.env.scope.names.lookup x = some .local := by first | exact .inl rfl | exact .inr rfl | assumption) : PG X (.Name x pos) (gD X.K X.mg [i] (tgN i)) :=
  pg_imp (pg_name hN hi hx hf) fun v g H Q h => by
    obtain ⟨T, r, S, d, r', rs, sim, rep, e, k⟩ := h
    cases e
    exact k _ (rs.set rep) List.length_set fun j hj => List.getElem?_set_ne fun q => hj (by rw [q]; exact List.mem_singleton.mpr rfl)
theorem jgs_nil : PGs X [] (gDs X.K X.mg [] tgsNil) := pgs_imp pgs_nil fun v g H Q h => by
  obtain ⟨T, r, S, d, r', rs, sim, rep, e, k⟩ := h
  cases rep with
  | nil =>
    cases e
    exact ⟨rfl, k g rs rfl fun _ _ => rfl⟩
  | cons _ _ => cases e
theorem jgs_cons {e : Expr} {es : List Expr} {sl sl2 : List Nat} {a : D → Env → Option Env} {b : List D → Env → Option Env} (h1 : PG X e (gD X.K X.mg sl a)) (h2 : PGs X es (gDs X.K X.mg sl2 b))
    (hs : (assignEach (e :: es) X.env).map (·.2) = assign e X.env :: (assignEach es X.env).map (·.2) := by rfl) : PGs X (e :: es) (gDs X.K X.mg (sl ++ sl2) (tgsCons a b)) := pgs_imp (pgs_cons h1 h2 hs) fun v g H Q h => by
  obtain ⟨T, r, S, ds, r', rs, sim, rep, e, k⟩ := h
  cases rep with
  | nil => cases e
  | @cons x vs d ds q1 q2 =>
    have e : (a d r).bind (fun r1 => b ds r1) = some r' := e
    cases q : a d r with
    | none => rw [q] at e; cases e
    | some r1 =>
      rw [q] at e
      refine ⟨x, vs, rfl, T, r, S, d, r1, rs, sim, q1, q, fun g1 rs1 l1 k1 => ?_⟩
      refine ⟨T, r1, S, ds, r', rs1, sim, q2, e, fun g2 rs2 l2 k2 => k g2 rs2 (l2.trans l1) fun j hj => ?_⟩
      rw [List.mem_append, not_or] at hj
      exact (k2 j hj.2).trans (k1 j hj.1)
theorem jg_tup {es : List Expr} {k n : Nat} {sl : List Nat} {b : List D → Env → Option Env} (hc : X.calm = true) (h : PGs X es (gDs X.K X.mg sl b))
    (hn : (assignEach es X.env).length = n := by rfl) (hst : (assignEach es X.env).findIdx? (·.1) = none := by rfl) : PG X (.Tuple es k pos) (gD X.K X.mg sl (tgT n b)) := pg_imp (pg_tup hc h hn hst) fun v g H Q h => by
  obtain ⟨T, r, S, d, r', rs, sim, rep, e, k⟩ := h
  cases rep with
  | tup h1 h2 h3 =>
    simp only [tgT] at e
    split at e
    · rename_i hl
      exact ⟨_, _, rfl, SqT.of h1, by rw [h3.length]; exact hl, T, r, S, _, r', rs, sim, h3, e, k⟩
    · cases e
  | _ => cases e
end
def sAsg (m : EM) (gm : D → Env → Option Env) : SM := fun r S => bindS (m r S) r fun d S1 => match gm d r with
  | some r1 => .ok .next r1 S1
  | none => .bad
section
variable {X : Cx} {Wx : WX} {pos : Pos} {tg e : Expr} {m : EM} {sl : List Nat} {gm : D → Env → Option Env}
theorem js_asg (he : PE X e (tD X.K X.mg Wx m)) (hg : PG X tg (gD X.K X.mg sl gm)) (hs : swapsWithSole [tg] e pos.line X.env = pure false := by rfl) (hw : swappedStores [tg] e X.env = pure none := by rfl)
    (h1 : (assignEach [tg] X.env).map (·.2) = [assign tg X.env] := by rfl) : PS X (.Assign [tg] e pos) (tDS X.K X.mg Wx (sAsg m gm)) :=
  ps_imp (ps_asg he hg hs hw h1) fun E g H h => by
    obtain ⟨T, r, S, rs, sim, h⟩ := h
    refine ⟨T, r, S, rs, sim, ZOut.bind h rs fun d S1 T1 H1 v st sim1 rel rs1 h1 => ?_⟩
    split at h1
    · rename_i r1 q
      exact ⟨T1, r, S1, d, r1, rs1, sim1, rel, q, fun g' rs' _ _ => h1.nx sim1 rs'⟩
    · exact h1.elim
end

/-! ### while -/
def sWhile (c : BM) (b : SM) : Nat → SM
  | 0 => fun _ _ => .bad
  | n + 1 => fun r S => bindS (c r S) r fun k S1 => if k = true then (match b r S1 with
      | .ok .next r2 S2 => sWhile c b n r2 S2
      | .ok .cont r2 S2 => sWhile c b n r2 S2
      | .ok .brk r2 S2 => .ok .next r2 S2
      | .ok (.ret d) r2 S2 => .ok (.ret d) r2 S2
      | .exc x r2 S2 => .exc x r2 S2
      | .bad => .bad) else .ok .next r S1
section
variable {X : Cx} {Wx : WX} {pos : Pos} {c : BM} {sb : SM}
theorem js_while {t : Expr} {body : List Stmt} (n : Nat) (hp : PassesOwn (model X.prog X.w) X.A X.env X.xe) (hc : PT X t (tDT X.K X.mg Wx c)) (hb : PSs X body (tDS X.K X.mg Wx sb)) : PS X (.While t body [] pos) (tDS X.K X.mg Wx (sWhile c sb n)) :=
  ps_imp (ps_while hp hc hb) fun E g H h => by
    refine ⟨fun m g H => ∃ T r S, RepSt X.K T H r g ∧ Sim X.K X.mg T S H ∧ ZOut X.K X.mg Wx T H (sWhile c sb m r S) E, ⟨n, h⟩, fun m g H h => ?_⟩
    obtain ⟨T, r, S, rs, sim, h⟩ := h
    cases m with
    | zero => exact h.elim
    | succ m =>
      refine ⟨T, r, S, rs, sim, ZOut.bind h rs fun d S1 T1 H1 v st sim1 rel rs1 h1 => ?_⟩
      subst rel
      cases v with
      | false => exact h1.nx sim1 rs1
      | true =>
        refine ⟨fun g H => ∃ T r S, RepSt X.K T H r g ∧ Sim X.K X.mg T S H ∧ ZOut X.K X.mg Wx T H (sWhile c sb m r S) E, fun g2 H2 q => ⟨m, Nat.lt_succ_self m, q⟩, T1, r, S1, rs1, sim1, ?_⟩
        rw [if_pos rfl] at h1
        revert h1
        cases sb r S1 with
        | bad => exact fun h => h
        | exc n r' S' => exact fun h => h
        | ok f r' S' =>
          cases f with
          | next => exact fun h T' H' g' s sim' rs' => ⟨T', r', S', rs', sim', ZOut.step s h⟩
          | cont => exact fun h T' H' g' s sim' rs' => ⟨T', r', S', rs', sim', ZOut.step s h⟩
          | ret d => exact fun h => h
          | brk => exact fun h => h
end

/-! ### what is walked -/
def Walks (K : PySem.W.Frag) (mg : Str → Option Value) (T : Tb) (H : Hp) (J : It) (ds : List D) : Prop := ∀ T' S' H', Kp T H T' H' → Sim K mg T' S' H' → J.stop ds.length H' ∧
  ∀ (i : Nat) (d : D), ds[i]? = some d → J.go i H' ∧ ∀ x H2, J.yld i H' x H2 → Step T' H' T' H2 ∧ Sim K mg T' S' H2 ∧ Rep K T' H2 x d
abbrev IM := Env → Store → R (List D)
def iD (K : PySem.W.Frag) (mg : Str → Option Value) (Wx : WX) (mi : IM) : TI := fun g H Q => ∃ T r S, RepSt K T H r g ∧ Sim K mg T S H ∧
  Out K mg Wx (fun T' H' (J : It) ds => Walks K mg T' H' J ds ∧ ds.length ≤ sizeLine) T g H (mi r S) Q
theorem Kp.trans {T T1 T2 : Tb} {H H1 H2 : Hp} (a : Kp T H T1 H1) (b : Kp T1 H1 T2 H2) : Kp T H T2 H2 := ⟨fun c u k n h => b.sq c u k (a.sq c u k n h).2 (a.sq c u k n h).1, fun c u n h => b.dk c u (a.dk c u n h).2 (a.dk c u n h).1, fun n c h => b.get n c (a.get n c h)⟩
theorem Walks.kp {K : PySem.W.Frag} {mg : Str → Option Value} {T T1 : Tb} {H H1 : Hp} {J : It} {ds : List D} (st : Kp T H T1 H1) (h : Walks K mg T H J ds) : Walks K mg T1 H1 J ds := fun T' S' H' s sim => h T' S' H' (st.trans s) sim
def sLoop (gm : D → Env → Option Env) (b : SM) : List D → SM
  | [] => fun r S => .ok .next r S
  | d :: ds => fun r S => match gm d r with
    | none => .bad
    | some r1 => match b r1 S with
      | .ok .next r2 S2 => sLoop gm b ds r2 S2
      | .ok .cont r2 S2 => sLoop gm b ds r2 S2
      | .ok .brk r2 S2 => .ok .next r2 S2
      | .ok (.ret d) r2 S2 => .ok (.ret d) r2 S2
      | .exc x r2 S2 => .exc x r2 S2
      | .bad => .bad
def sFor (mi : IM) (gm : D → Env → Option Env) (b : SM) : SM := fun r S => bindS (mi r S) r fun ds S1 => sLoop gm b ds r S1
section
variable {X : Cx} {Wx : WX} {pos : Pos} {tg iter : Expr} {mi : IM} {sl : List Nat} {gm : D → Env → Option Env} {sb : SM}
theorem js_for {body : List Stmt} (hp : PassesOwn (model X.prog X.w) X.A X.env X.xe) (hc : X.calm = true) (hi : PI X tg iter (iD X.K X.mg Wx mi)) (hg : PG X tg (gD X.K X.mg sl gm)) (hb : PSs X body (tDS X.K X.mg Wx sb))
    (hs : ∀ x, foldedSetIterable iter X.env x = pure x := by intro _; rfl) : PS X (.For tg iter body [] pos) (tDS X.K X.mg Wx (sFor mi gm sb)) :=
  ps_imp (ps_for hp hc hi hg hb hs) fun E g H h => by
    obtain ⟨T, r, S, rs, sim, h⟩ := h
    refine ⟨T, r, S, rs, sim, ZOut.bind h rs fun ds S1 T1 H1 J st sim1 rel rs1 h1 => ?_⟩
    obtain ⟨wk, hz⟩ := rel
    refine ⟨fun i m g H => ∃ T r S, m = ds.length - i ∧ i ≤ ds.length ∧ Step T1 H1 T H ∧ RepSt X.K T H r g ∧ Sim X.K X.mg T S H ∧ ZOut X.K X.mg Wx T H (sLoop gm sb (ds.drop i) r S) E, ⟨ds.length, T1, r, S1, by simp, Nat.zero_le _, Step.refl T1 H1, rs1, sim1, h1⟩, ?_⟩
    rintro i m g2 H2 ⟨T2, r2, S2, rfl, hi2, st2, rs2, sim2, h2⟩
    obtain ⟨stop, go⟩ := wk T2 S2 H2 st2.kp sim2
    by_cases hlt : i < ds.length
    · have ed : ds.drop i = ds[i] :: ds.drop (i + 1) := List.drop_eq_getElem_cons hlt
      rw [ed] at h2
      obtain ⟨g1, yl⟩ := go i ds[i] (List.getElem?_eq_getElem hlt)
      refine .inr ⟨g1, fun g H => ∃ T r S, Step T1 H1 T H ∧ RepSt X.K T H r g ∧ Sim X.K X.mg T S H ∧ ZOut X.K X.mg Wx T H (sLoop gm sb (ds.drop (i + 1)) r S) E, fun g3 H3 q => ?_, fun x H3 y => ?_⟩
      · obtain ⟨T3, r3, S3, q1, q2, q3, q4⟩ := q
        exact ⟨ds.length - (i + 1), by omega, T3, r3, S3, rfl, hlt, q1, q2, q3, q4⟩
      · obtain ⟨st3, sim3, rep3⟩ := yl x H3 y
        have h3 := ZOut.step st3 h2
        simp only [sLoop] at h3
        split at h3
        · exact h3.elim
        · rename_i r3 eg
          refine ⟨T2, r2, S2, ds[i], r3, rs2.step st3, sim3, rep3, eg, fun g4 rs4 _ _ => ⟨T2, r3, S2, rs4, sim3, ?_⟩⟩
          revert h3
          cases sb r3 S2 with
          | bad => exact fun h => h
          | exc n r' S' => exact fun h => h
          | ok f r' S' =>
            cases f with
            | next => exact fun h T' H' g' s sim' rs' => ⟨T', r', S', (st2.trans st3).trans s, rs', sim', ZOut.step s h⟩
            | cont => exact fun h T' H' g' s sim' rs' => ⟨T', r', S', (st2.trans st3).trans s, rs', sim', ZOut.step s h⟩
            | ret d => exact fun h => h
            | brk => exact fun h => h
    · have e : i = ds.length := by omega
      subst e
      rw [List.drop_length] at h2
      exact .inl ⟨stop, h2.nx sim2 rs2⟩
end
end Dv
namespace Dv
open PySem L2
/-! ### what is walked: lists, tuples, texts, ranges -/
def chD (c : Nat) : D := .str ⟨#[c]⟩
def seqD (d : D) : Option (List D) := match d with
  | .lst xs => some xs
  | .tup xs => some xs
  | .scr ns => some (ns.map D.int)
  | .str x => if x.cps.size ≤ 100000 then some (x.cps.toList.map chD) else none
  | _ => none
def mIter (m : EM) : IM := fun r S => (m r S).bind fun d S1 => ofO (seqD d) S1
def rng (lo : Int) (n : Nat) : List D := (List.range n).map fun i => D.int (lo + (i : Nat))
def rng1 (ds : List D) : Option (List D) := match ds with
  | [.int j] => if -100000 ≤ j ∧ j ≤ 100000 then some (rng 0 j.toNat) else none
  | _ => none
def rng2 (ds : List D) : Option (List D) := match ds with
  | [.int i, .int j] => if (-100000 ≤ i ∧ i ≤ 100000) ∧ (-100000 ≤ j ∧ j ≤ 100000) then some (rng i (j - i).toNat) else none
  | _ => none
def mRng1 (ms : AM) : IM := fun r S => (ms r S).bind fun ds S1 => ofO (rng1 ds) S1
def mRng2 (ms : AM) : IM := fun r S => (ms r S).bind fun ds S1 => ofO (rng2 ds) S1
def iSq (K : PySem.W.Frag) (tl : TE) : TI := fun g H Q => tl g H fun x H1 => (∃ a xs, x = .ref a ∧ SqL K H1 a xs ∧ Q (Itl K a) H1) ∨ (∃ a xs, x = .ref a ∧ SqT K H1 a xs ∧ Q (Itt K a) H1) ∨ ∃ z, x = .str z ∧ Q (Its z) H1
theorem pi_sq {X : Cx} {tg l : Expr} {tl : TE} (hl : PE X l tl) : PI X tg l (iSq X.K tl) := by
  refine ⟨fun pins s g H Q I h => thn (hl.run pins s g H _ I h) fun v s1 hv => ?_⟩
  obtain ⟨x, H1, I1, r1, q1⟩ := hv
  rcases q1 with ⟨a, xs, ex, hq, q⟩ | ⟨a, xs, ex, hq, q⟩ | ⟨z, ex, q⟩
  · subst ex
    cases r1
    obtain ⟨its, rv, pl, _⟩ := I1.list hq
    exact wpAny_pyIter_list pl.isList (pi_one (tk := s1.toks) I1 _ (turn_list a _) ⟨_, Heap.get?_push_size _ rfl, rfl, rfl⟩ q)
  · subst ex
    cases r1
    obtain ⟨its, rv, pl, _⟩ := I1.tuple hq
    exact wpAny_pyIter_tuple (show s1.heap.IsTuple a its.toArray from pl) (pi_one (tk := s1.toks) I1 _ (turn_tuple a _) ⟨_, Heap.get?_push_size _ rfl, rfl, rfl⟩ q)
  · subst ex
    obtain ⟨t, rfl⟩ := r1
    by_cases ha : z.cps.all (· < 128) = true
    · exact wpAny_pyIter_ascii ha (pi_one (tk := s1.toks) I1 _ (turn_str _ z t "str_ascii_iterator" (.inl rfl)) ⟨_, Heap.get?_push_size _ rfl, rfl, rfl⟩ q)
    · exact wpAny_pyIter_wide (by simpa using ha) (pi_one (tk := s1.toks) I1 _ (turn_str _ z t "str_iterator" (.inr rfl)) ⟨_, Heap.get?_push_size _ rfl, rfl, rfl⟩ q)
section
variable {K : PySem.W.Frag} {mg : Str → Option Value} {T : Tb} {H : Hp}
theorem walks_lst {a : Addr} {xs : List V} {ds : List D} (h : LAt K T H a xs) (r : RepL K T H xs ds) : Walks K mg T H (Itl K a) ds := fun T' S' H' k sim => by
  have hq : SqL K H' a xs := (h.kp k).sq
  refine ⟨⟨xs, hq, by rw [r.length]; exact Nat.le_refl _⟩, fun i d e => ?_⟩
  obtain ⟨v, h1, h2⟩ := r.get e
  refine ⟨⟨xs, v, hq, h1⟩, fun x H2 y => ?_⟩
  obtain ⟨rfl, y⟩ := y
  have e2 := (y xs hq).symm.trans h1
  cases e2
  exact ⟨Step.refl _ _, sim, h2.kp k⟩
theorem walks_tup {a : Addr} {xs : List V} {ds : List D} (h : H a = some (.tup xs)) (n : T.off a) (r : RepL K T H xs ds) : Walks K mg T H (Itt K a) ds := fun T' S' H' k sim => by
  have hq : SqT K H' a xs := SqT.of (k.tup n h).1
  refine ⟨⟨xs, hq, by rw [r.length]; exact Nat.le_refl _⟩, fun i d e => ?_⟩
  obtain ⟨v, h1, h2⟩ := r.get e
  refine ⟨⟨xs, v, hq, h1⟩, fun x H2 y => ?_⟩
  obtain ⟨rfl, y⟩ := y
  have e2 := (y xs hq).symm.trans h1
  cases e2
  exact ⟨Step.refl _ _, sim, h2.kp k⟩
theorem walks_str {z : Str} : Walks K mg T H (Its z) (z.cps.toList.map chD) := fun T' S' H' k sim => by
  refine ⟨?_, fun i d e => ?_⟩
  · show z.cps.size ≤ _
    rw [List.length_map, Array.length_toList]
    exact Nat.le_refl _
  · rw [List.getElem?_map] at e
    cases q : z.cps.toList[i]? with
    | none => rw [q] at e; cases e
    | some c =>
      rw [q] at e
      cases e
      have hi := (List.getElem?_eq_some_iff.mp q).1
      rw [Array.length_toList] at hi
      refine ⟨hi, fun x H2 y => ?_⟩
      obtain ⟨rfl, c', h1, rfl⟩ := y
      rw [Array.getElem?_toList] at q
      rw [q] at h1
      cases h1
      exact ⟨Step.refl _ _, sim, .str _⟩
theorem walks_rng {lo : Int} {n : Nat} : Walks K mg T H (Itr lo n) (rng lo n) := fun T' S' H' k sim => by
  refine ⟨?_, fun i d e => ?_⟩
  · show n ≤ _
    unfold rng
    rw [List.length_map, List.length_range]
    exact Nat.le_refl _
  · unfold rng at e
    rw [List.getElem?_map] at e
    cases q : (List.range n)[i]? with
    | none => rw [q] at e; cases e
    | some c =>
      rw [q] at e
      cases e
      obtain ⟨hi, hc⟩ := List.getElem?_eq_some_iff.mp q
      rw [List.length_range] at hi
      rw [List.getElem_range] at hc
      subst hc
      refine ⟨hi, fun x H2 y => ?_⟩
      obtain ⟨rfl, rfl⟩ := y
      exact ⟨Step.refl _ _, sim, .int _⟩
theorem rng_len (lo : Int) (n : Nat) : (rng lo n).length = n := by
  unfold rng
  rw [List.length_map, List.length_range]
end
section
variable {X : Cx} {Wx : WX} {tg e : Expr} {m : EM} {ms : AM} {pos p : Pos}
theorem ji_seq (h : PE X e (tD X.K X.mg Wx m)) : PI X tg e (iD X.K X.mg Wx (mIter m)) := pi_imp (pi_sq h) fun g H Q h => by
  obtain ⟨T, r, S, rs, sim, h⟩ := h
  refine ⟨T, r, S, rs, sim, Out.bind h fun d S1 T1 H1 v st sim1 rel h1 => ?_⟩
  refine Out.use h1 fun ds e k => ?_
  cases rel with
  | lst q1 q2 q3 =>
    cases e
    exact .inl ⟨_, _, rfl, SqL.of q1, k T1 H1 _ (Step.refl T1 H1) sim1 ⟨walks_lst (.inl ⟨.inl q1, q2⟩) q3, by rw [← q3.length]; exact sim1.hl _ _ (.inl (.inl q1))⟩⟩
  | scr q =>
    cases e
    exact .inl ⟨_, _, rfl, q.sq, k T1 H1 _ (Step.refl T1 H1) sim1 ⟨walks_lst q (RepL.ints _), by have := sim1.llen q; rw [List.length_map] at this ⊢; exact this⟩⟩
  | tup q1 q2 q3 =>
    cases e
    exact .inr (.inl ⟨_, _, rfl, SqT.of q1, k T1 H1 _ (Step.refl T1 H1) sim1 ⟨walks_tup q1 q2 q3, by rw [← q3.length]; exact sim1.hl _ _ (.inr (.inl q1))⟩⟩)
  | str x =>
    simp only [seqD] at e
    split at e
    · rename_i hz
      cases e
      exact .inr (.inr ⟨x, rfl, k T1 H1 _ (Step.refl T1 H1) sim1 ⟨walks_str, by rw [List.length_map, Array.length_toList]; exact sz5 hz⟩⟩)
    · cases e
  | _ => cases e
theorem ji_rng1 {a : Expr} (hg : Gl X "range") (hm : X.mg "range" = none) (ha : PA X [a] (tDA X.K X.mg Wx ms)) (hs : starEach [a] X.env = [(false, eval a X.env)] := by rfl) : PI X tg (.Call (.Name "range" p) [a] [] pos) (iD X.K X.mg Wx (mRng1 ms)) :=
  pi_imp (pi_range1 hg hm ha hs) fun g H Q h => by
    obtain ⟨T, r, S, rs, sim, h⟩ := h
    refine ⟨T, r, S, rs, sim, Out.bind h fun d S1 T1 H1 v st sim1 rel h1 => ?_⟩
    refine Out.use h1 fun ds e k => ?_
    unfold rng1 at e
    split at e
    · rename_i j
      split at e
      · rename_i hj
        cases e
        cases rel with
        | cons q1 q2 =>
          cases q2
          refine ⟨j, by rw [q1.int_of], by omega, by omega, k T1 H1 _ (Step.refl T1 H1) sim1 ⟨walks_rng, ?_⟩⟩
          rw [rng_len]
          exact sz5 (by omega)
      · cases e
    · cases e
theorem ji_rng2 {a b : Expr} (hg : Gl X "range") (hm : X.mg "range" = none) (ha : PA X [a, b] (tDA X.K X.mg Wx ms)) (hs : starEach [a, b] X.env = [(false, eval a X.env), (false, eval b X.env)] := by rfl) (hs2 : starEach [b] X.env = [(false, eval b X.env)] := by rfl) : PI X tg (.Call (.Name "range" p) [a, b] [] pos) (iD X.K X.mg Wx (mRng2 ms)) :=
  pi_imp (pi_range2 hg hm ha hs hs2) fun g H Q h => by
    obtain ⟨T, r, S, rs, sim, h⟩ := h
    refine ⟨T, r, S, rs, sim, Out.bind h fun d S1 T1 H1 v st sim1 rel h1 => ?_⟩
    refine Out.use h1 fun ds e k => ?_
    unfold rng2 at e
    split at e
    · rename_i i j
      split at e
      · rename_i hj
        cases e
        cases rel with
        | cons q1 q2 =>
          cases q2 with
          | cons q2 q3 =>
            cases q3
            refine ⟨i, j, by rw [q1.int_of, q2.int_of], by omega, k T1 H1 _ (Step.refl T1 H1) sim1 ⟨walks_rng, ?_⟩⟩
            rw [rng_len]
            exact Nat.le_trans (show (j - i).toNat ≤ 200000 by omega) (by decide)
      · cases e
    · cases e
end

/-! ### zip of two tuples, of two lists -/
def zipD (ds : List D) : Option (List D) := match ds with
  | [.tup xs, .tup ys] => some (List.zipWith (fun a b => D.tup [a, b]) xs ys)
  | [.lst xs, .lst ys] => some (List.zipWith (fun a b => D.tup [a, b]) xs ys)
  | _ => none
def mZip (ms : AM) : IM := fun r S => (ms r S).bind fun ds S1 => ofO (zipD ds) S1
theorem zip_get {xs ys : List D} {i : Nat} {d : D} (h : (List.zipWith (fun a b => D.tup [a, b]) xs ys)[i]? = some d) : ∃ a b, xs[i]? = some a ∧ ys[i]? = some b ∧ d = .tup [a, b] := by
  rw [List.getElem?_zipWith] at h
  cases q : xs[i]? with
  | none => rw [q] at h; cases h
  | some a =>
    cases q2 : ys[i]? with
    | none => rw [q, q2] at h; cases h
    | some b =>
      rw [q, q2] at h
      cases h
      exact ⟨a, b, rfl, rfl, rfl⟩
section
variable {X : Cx} {Wx : WX} {e e2 : Expr} {ms : AM} {pos p tpos : Pos} {elts : List Expr} {kk : Nat}
theorem pair_new {K : PySem.W.Frag} {mg : Str → Option Value} {T : Tb} {S : Store} {H : Hp} {p : Addr} {x y : V} {a b : D} (sim : Sim K mg T S H) (hp : H p = none) (ha : Rep K T H x a) (hb : Rep K T H y b) :
    Step T H T (upd H p (.tup [x, y])) ∧ Sim K mg T S (upd H p (.tup [x, y])) ∧ Rep K T (upd H p (.tup [x, y])) (.ref p) (.tup [a, b]) :=
  ⟨sim.stepNew hp, sim.new hp (hlen_tup sim.hl (by show 2 ≤ sizeLine; decide)), .tup upd_same (sim.off hp) (.cons (ha.step (sim.stepNew hp)) (.cons (hb.step (sim.stepNew hp)) .nil))⟩
theorem ji_zip (hg : Gl X "zip") (hm : X.mg "zip" = none) (ha : PA X [e, e2] (tDA X.K X.mg Wx ms)) (hs : starEach [e, e2] X.env = (false, eval e X.env) :: starEach [e2] X.env := by rfl) (hpl : (backTo pos (starEach [e2] X.env)).any (·.1) = false := by rfl) :
    PI X (.Tuple elts kk tpos) (.Call (.Name "zip" p) [e, e2] [] pos) (iD X.K X.mg Wx (mZip ms)) := pi_imp (RZ.pi_zipA hg hm ha hs hpl) fun g H Q h => by
  obtain ⟨T, r, S, rs, sim, h⟩ := h
  refine ⟨T, r, S, rs, sim, Out.bind h fun d S1 T1 H1 v st sim1 rel h1 => ?_⟩
  refine Out.use h1 fun ds e k => ?_
  unfold zipD at e
  split at e
  · cases e
    cases rel with
    | cons q1 q2 =>
      cases q2 with
      | cons q2 q3 =>
        cases q3
        cases q1 with
        | @tup a xs _ h1 n1 r1 =>
          cases q2 with
          | @tup b ys _ h2 n2 r2 =>
            refine ⟨a, b, xs, ys, rfl, .inr ⟨SqT.of h1, SqT.of h2, k T1 H1 _ (Step.refl T1 H1) sim1 ⟨fun T' S' H' kp sim' => ?_, ?_⟩⟩⟩
            · have k1 : SqT X.K H' a xs := SqT.of (kp.tup n1 h1).1
              have k2 : SqT X.K H' b ys := SqT.of (kp.tup n2 h2).1
              refine ⟨⟨xs, ys, k1, k2, ?_⟩, fun i d ed => ?_⟩
              · rw [List.length_zipWith, ← r1.length, ← r2.length]
                omega
              · obtain ⟨x, y, e1, e2, rfl⟩ := zip_get ed
                obtain ⟨v1, f1, f2⟩ := r1.get e1
                obtain ⟨v2, f3, f4⟩ := r2.get e2
                refine ⟨⟨xs, ys, v1, v2, k1, k2, f1, f3⟩, fun z H2 yl => ?_⟩
                obtain ⟨P, x', y', rfl, hn, rfl, g1, g2⟩ := yl
                have z1 := (g1 xs k1).symm.trans f1
                have z2 := (g2 ys k2).symm.trans f3
                cases z1; cases z2
                exact pair_new sim' hn (f2.kp kp) (f4.kp kp)
            · rw [List.length_zipWith, ← r1.length]
              exact Nat.le_trans (Nat.min_le_left _ _) (sim1.hl _ _ (.inr (.inl h1)))
  · cases e
    cases rel with
    | cons q1 q2 =>
      cases q2 with
      | cons q2 q3 =>
        cases q3
        cases q1 with
        | @lst a xs _ h1 n1 r1 =>
          cases q2 with
          | @lst b ys _ h2 n2 r2 =>
            refine ⟨a, b, xs, ys, rfl, .inl ⟨SqL.of h1, SqL.of h2, k T1 H1 _ (Step.refl T1 H1) sim1 ⟨fun T' S' H' kp sim' => ?_, ?_⟩⟩⟩
            · have k1 : SqL X.K H' a xs := SqL.of (kp.lst n1 h1).1
              have k2 : SqL X.K H' b ys := SqL.of (kp.lst n2 h2).1
              refine ⟨⟨xs, ys, k1, k2, ?_⟩, fun i d ed => ?_⟩
              · rw [List.length_zipWith, ← r1.length, ← r2.length]
                omega
              · obtain ⟨x, y, e1, e2, rfl⟩ := zip_get ed
                obtain ⟨v1, f1, f2⟩ := r1.get e1
                obtain ⟨v2, f3, f4⟩ := r2.get e2
                refine ⟨⟨xs, ys, v1, v2, k1, k2, f1, f3⟩, fun z H2 yl => ?_⟩
                obtain ⟨P, x', y', rfl, hn, rfl, g1, g2⟩ := yl
                have z1 := (g1 xs k1).symm.trans f1
                have z2 := (g2 ys k2).symm.trans f3
                cases z1; cases z2
                exact pair_new sim' hn (f2.kp kp) (f4.kp kp)
            · rw [List.length_zipWith, ← r1.length]
              exact Nat.le_trans (Nat.min_le_left _ _) (sim1.hl _ _ (.inl (.inl h1)))
  · cases e
end

/-! ### list comprehensions -/
def W0 : WX := fun _ _ _ _ => False
def nox {α : Type} (x : R α) : R α := match x with
  | .exc _ _ => .bad
  | y => y
def wipeE (r : Env) : List Nat → Env
  | [] => r
  | v :: vs => (wipeE r vs).set v none
def lcL (gm : D → Env → Option Env) (tt : BM) (te : EM) (r0 : Env) : List D → Store → R (List D)
  | [], S => .ok [] S
  | d :: ds, S => match gm d r0 with
    | none => .bad
    | some r1 => (nox (tt r1 S)).bind fun b S1 => if b = true then (nox (te r1 S1)).bind fun y S2 => (lcL gm tt te r0 ds S2).bind fun ys S3 => .ok (y :: ys) S3 else lcL gm tt te r0 ds S1
def mLc (mi : IM) (vs : List Nat) (gm : D → Env → Option Env) (tt : BM) (te : EM) : EM := fun r S => (mi r S).bind fun ds S1 => (lcL gm tt te (wipeE r vs) ds S1).bind fun ys S2 => .ok (.lst ys) S2
def mYes : BM := fun _ S => .ok true S
section
variable {K : PySem.W.Frag} {mg : Str → Option Value} {Wx : WX} {T : Tb} {H : Hp} {r : Env} {g : St}
theorem RepSt.wipe (h : RepSt K T H r g) : ∀ vs : List Nat, RepSt K T H (wipeE r vs) (L2.wipe g vs)
  | [] => h
  | v :: vs => (RepSt.wipe h vs).forgetB
theorem wipe_get {g : St} {i : Nat} : ∀ {vs : List Nat}, i ∈ vs → i < g.length → (L2.wipe g vs)[i]? = some none
  | [], h, _ => nomatch h
  | v :: vs, h, hl => by
    unfold L2.wipe
    by_cases e : v = i
    · subst e
      rw [List.getElem?_set_self (by rw [wipe_length]; exact hl)]
    · rw [List.getElem?_set_ne e]
      exact wipe_get ((List.mem_cons.mp h).resolve_left fun q => e q.symm) hl
theorem wipe_same {g g2 : St} {vs sl : List Nat} (hs : ∀ i ∈ sl, i ∈ vs) (hl : g2.length = g.length) (h : ∀ j, j ∉ sl → g2[j]? = (L2.wipe g vs)[j]?) : L2.wipe g2 vs = L2.wipe g vs := by
  refine List.ext_getElem? fun j => ?_
  by_cases hj : j ∈ vs
  · by_cases hlt : j < g.length
    · rw [wipe_get hj (by rw [hl]; exact hlt), wipe_get hj hlt]
    · rw [List.getElem?_eq_none (by rw [wipe_length, hl]; omega), List.getElem?_eq_none (by rw [wipe_length]; omega)]
  · rw [wipe_out hj, h j fun q => hj (hs j q)]
/-- the new list hidden -/
def Tb.hide (T : Tb) (p : Addr) : Tb := ⟨T.loc, p :: T.hid⟩
theorem Sim.hide {S : Store} {p : Addr} {u : HO} (s : Sim K mg T S H) (hp : H p = none) (hl : HLen (upd H p u)) : Kp T H (T.hide p) (upd H p u) ∧ Sim K mg (T.hide p) S (upd H p u) := by
  have kp : Kp T H (T.hide p) (upd H p u) := ⟨fun b v _ n h => by
    have nb : b ≠ p := ne_of_none h hp
    exact ⟨by rw [upd_ne nb]; exact h, n.1, fun q => (List.mem_cons.mp q).elim nb n.2⟩, fun b v n h => by
    have nb : b ≠ p := fun e => rd_some h (by rw [e]; exact hp)
    exact ⟨rd_keep (fun w q => by rw [upd_ne nb]; exact q) h, n.1, fun q => (List.mem_cons.mp q).elim nb n.2⟩, fun _ _ h => h⟩
  refine ⟨kp, s.len, ?_, fun i a o h1 h2 => (s.obj i a o h1 h2).kp kp (upd_ne fun e => (s.off hp).1 (by rw [← e]; exact List.mem_of_getElem? h1)), fun a ha => ?_, hl⟩
  · have h0 := List.nodup_append.mp s.nd
    refine List.nodup_append.mpr ⟨h0.1, List.nodup_cons.mpr ⟨(s.off hp).2, h0.2.1⟩, fun a ha b hb e => ?_⟩
    rcases List.mem_cons.mp hb with hb | hb
    · exact (s.off hp).1 (by rw [← hb, ← e]; exact ha)
    · exact h0.2.2 a ha b hb e
  · rcases List.mem_cons.mp ha with ha | ha
    · rw [ha, upd_same]
      exact fun e => by cases e
    · rw [upd_ne fun e => s.hid a ha (by rw [e]; exact hp)]
      exact s.hid a ha
theorem Sim.setHid {S : Store} {p : Addr} {u : HO} (s : Sim K mg T S H) (hp : p ∈ T.hid) (hl : HLen (upd H p u)) : Kp T H T (upd H p u) ∧ Sim K mg T S (upd H p u) := by
  have kp : Kp T H T (upd H p u) := ⟨fun b v _ n h => by
    have nb : b ≠ p := fun e => n.2 (by rw [e]; exact hp)
    exact ⟨by rw [upd_ne nb]; exact h, n⟩, fun b v n h => by
    have nb : b ≠ p := fun e => n.2 (by rw [e]; exact hp)
    exact ⟨rd_keep (fun w q => by rw [upd_ne nb]; exact q) h, n⟩, fun _ _ h => h⟩
  refine ⟨kp, s.len, s.nd, fun i a o h1 h2 => (s.obj i a o h1 h2).kp kp (upd_ne fun e => s.apart (List.mem_of_getElem? h1) (by rw [e]; exact hp)), fun a ha => ?_, hl⟩
  by_cases e : a = p
  · rw [e, upd_same]
    exact fun e => by cases e
  · rw [upd_ne e]
    exact s.hid a ha
theorem R.bind_assoc {α β γ : Type} (x : R α) (f : α → Store → R β) (k : β → Store → R γ) : (x.bind f).bind k = x.bind fun a S => (f a S).bind k := by
  cases x <;> rfl
theorem off_unhide {p a : Addr} {l h : List Addr} (x : (Tb.mk l (p :: h)).off a) : (Tb.mk l h).off a := ⟨x.1, fun q => x.2 (List.mem_cons_of_mem _ q)⟩
theorem kp_unhide {p : Addr} {l h : List Addr} : Kp ⟨l, p :: h⟩ H ⟨l, h⟩ H := ⟨fun _ _ _ n q => ⟨q, off_unhide n⟩, fun _ _ n q => ⟨q, off_unhide n⟩, fun _ _ q => q⟩
theorem Sim.unhide {S : Store} {p : Addr} {l h : List Addr} (s : Sim K mg ⟨l, p :: h⟩ S H) : Sim K mg ⟨l, h⟩ S H :=
  ⟨s.len, by
    have h0 := List.nodup_append.mp s.nd
    exact List.nodup_append.mpr ⟨h0.1, (List.nodup_cons.mp h0.2.1).2, fun a ha b hb e => h0.2.2 a ha b (List.mem_cons_of_mem _ hb) e⟩, fun i a o h1 h2 => (s.obj i a o h1 h2).kp kp_unhide rfl, fun a ha => s.hid a (List.mem_cons_of_mem _ ha), s.hl⟩
theorem lc_bind {α β γ δ : Type} {relA : Tb → Hp → β → α → Prop} {relB : Tb → Hp → δ → γ → Prop} {T1 : Tb} {H1 : Hp} {g g2 : St} {x : R α} {f : α → Store → R γ} {Q : δ → Hp → Prop} {Q1 : β → Hp → Prop} (h : Out K mg Wx relB T1 g H1 ((nox x).bind f) Q)
    (k : ∀ a S T3 H3 v, Step T H T3 H3 → Sim K mg T3 S H3 → relA T3 H3 v a → Out K mg Wx relB T1 g H1 (f a S) Q → Q1 v H3) : Out K mg W0 relA T g2 H x Q1 := by
  cases x with
  | bad => exact h.elim
  | exc n S => exact h.elim
  | ok a S => exact fun T3 H3 v st sim rl => k a S T3 H3 v st sim rl h
end
section
variable {X : Cx} {Wx : WX} {elt tg iter : Expr} {ifs : List Expr} {scope : Scope} {own : List (Str × Nat)} {pos : Pos} {mi : IM} {sl : List Nat} {gm : D → Env → Option Env} {tt : BM} {te : EM}
theorem jts_nil : PTs X [] (tDT X.K X.mg Wx mYes) := ⟨fun pins s g H Q I h => by
  obtain ⟨T, r, S, rs, sim, h⟩ := h
  exact pts_nil.run pins s g H Q I (h T H true (Step.refl T H) sim rfl)⟩
theorem jts_one {c : Expr} (h : PT X c (tDT X.K X.mg Wx tt)) : PTs X [c] (tDT X.K X.mg Wx tt) := pts_one h
theorem tLc_of {K : PySem.W.Frag} {mg : Str → Option Value} {vs : List Nat} (hsl : ∀ i ∈ sl, i ∈ vs) : ∀ g H Q, tD K mg Wx (mLc mi vs gm tt te) g H Q → tLc (iD K mg Wx mi) (gD K mg sl gm) (tDT K mg W0 tt) (tD K mg W0 te) vs g H Q := by
  intro g H Q h
  obtain ⟨T, r, S, rs, sim, h⟩ := h
  refine ⟨T, r, S, rs, sim, Out.bind h fun ds S1 T1 H1 J st sim1 rel h1 => ?_⟩
  obtain ⟨wk, hz⟩ := rel
  intro Dl hD
  have hl0 : HLen (upd H1 Dl (.lst [])) := hlen_lst sim1.hl (Nat.zero_le _)
  obtain ⟨kp0, simh⟩ := sim1.hide (u := .lst []) hD hl0
  have rs1 := rs.step st
  refine ⟨fun i m H => ∃ T S acc ys, m = ds.length - i ∧ i ≤ ds.length ∧ T.hid = Dl :: T1.hid ∧ Step T1 H1 ⟨T.loc, T1.hid⟩ H ∧ Sim K mg T S H ∧ H Dl = some (.lst acc) ∧ RepL K T H acc ys ∧ ys.length ≤ i ∧
    Out K mg Wx (Rep K) T1 g H1 ((lcL gm tt te (wipeE r vs) (ds.drop i) S).bind fun zs S2 => .ok (.lst (ys ++ zs)) S2) Q, ⟨ds.length, T1.hide Dl, S1, [], [], by simp, Nat.zero_le _, rfl, sim1.stepNew hD, simh, upd_same, .nil, Nat.le_refl _, by simpa using h1⟩, ?_⟩
  rintro i m H2 ⟨T2, S2, acc, ys, rfl, hi, eh, st2, sim2, hD2, ra, hys, ho⟩
  have off2 : ∀ b, T1.off b → H1 b ≠ none → T2.off b := fun b n q => ⟨(st2.out q n).1, fun z => by
    rw [eh] at z
    rcases List.mem_cons.mp z with z | z
    · exact q (by rw [z]; exact hD)
    · exact n.2 z⟩
  have kp2 : Kp T1 H1 T2 H2 := ⟨fun b u k n q => ⟨st2.keep b u n q, off2 b n (some_ne q)⟩, fun b u n q => ⟨st2.rd q n, off2 b n (rd_some q)⟩, fun n a q => st2.get q⟩
  obtain ⟨stop, go⟩ := wk T2 S2 H2 kp2 sim2
  by_cases hlt : i < ds.length
  · have ed : ds.drop i = ds[i] :: ds.drop (i + 1) := List.drop_eq_getElem_cons hlt
    rw [ed] at ho
    obtain ⟨g1, yl⟩ := go i ds[i] (List.getElem?_eq_getElem hlt)
    refine .inr ⟨g1, fun H => ∃ T S acc ys, T.hid = Dl :: T1.hid ∧ Step T1 H1 ⟨T.loc, T1.hid⟩ H ∧ Sim K mg T S H ∧ H Dl = some (.lst acc) ∧ RepL K T H acc ys ∧ ys.length ≤ i + 1 ∧
      Out K mg Wx (Rep K) T1 g H1 ((lcL gm tt te (wipeE r vs) (ds.drop (i + 1)) S).bind fun zs S2 => .ok (.lst (ys ++ zs)) S2) Q, fun H3 q => ?_, fun x H3 y => ?_⟩
    · obtain ⟨T3, S3, acc3, ys3, q1, q2, q3, q4, q5, q6, q7⟩ := q
      exact ⟨ds.length - (i + 1), by omega, T3, S3, acc3, ys3, rfl, hlt, q1, q2, q3, q4, q5, q6, q7⟩
    · obtain ⟨st3, sim3, rep3⟩ := yl x H3 y
      simp only [lcL] at ho
      -- how a step of the hidden table is one of the open one
      have opn : ∀ {Ta Tb : Tb} {Ha Hb : Hp}, Ta.hid = Dl :: T1.hid → Step T1 H1 ⟨Ta.loc, T1.hid⟩ Ha → Step Ta Ha Tb Hb → Tb.hid = Dl :: T1.hid ∧ Step T1 H1 ⟨Tb.loc, T1.hid⟩ Hb := fun {Ta Tb Ha Hb} e1 s1 s2 => by
        refine ⟨s2.hid.trans e1, s1.trans ⟨s2.ext, rfl, fun b hb => s2.hkeep b (by rw [e1]; exact List.mem_cons_of_mem _ hb), fun b u n q => ?_, s2.new⟩⟩
        by_cases hb : b = Dl
        · subst hb
          rw [s2.hkeep b (by rw [e1]; exact List.mem_cons_self)]
          exact q
        · exact s2.keep b u ⟨n.1, fun z => by
            rw [e1] at z
            exact (List.mem_cons.mp z).elim hb n.2⟩ q
      obtain ⟨eh3, op3⟩ := opn eh st2 st3
      have hid3 : Dl ∈ T2.hid := by rw [eh]; exact List.mem_cons_self
      split at ho
      · exact ho.elim
      · rename_i r1 eg
        refine ⟨T2, wipeE r vs, S2, ds[i], r1, ((rs1.wipe vs).kp kp2).step st3, sim3, rep3, eg, fun g4 rs4 lg kg => ⟨wipe_same hsl (by rw [lg, wipe_length]) kg, T2, r1, S2, rs4, sim3, ?_⟩⟩
        rw [R.bind_assoc] at ho
        refine lc_bind ho fun b S4 T4 H4 v st4 sim4 rel4 ho4 => ?_
        subst rel4
        obtain ⟨eh4, op4⟩ := opn eh3 op3 st4
        have hid4 : Dl ∈ T4.hid := by rw [eh4]; exact List.mem_cons_self
        have hD4 : H4 Dl = some (.lst acc) := (st4.hkeep Dl hid3).trans ((st3.hkeep Dl hid3).trans hD2)
        cases v with
        | false =>
          rw [if_neg Bool.false_ne_true] at ho4 ⊢
          exact ⟨T4, S4, acc, ys, eh4, op4, sim4, hD4, ra.step (st3.trans st4), by omega, ho4⟩
        | true =>
          rw [if_pos rfl, R.bind_assoc] at ho4
          rw [if_pos rfl]
          refine ⟨T4, r1, S4, rs4.step st4, sim4, lc_bind ho4 fun yd S5 T5 H5 yv st5 sim5 rel5 ho5 => ?_⟩
          obtain ⟨eh5, op5⟩ := opn eh4 op4 st5
          have hid5 : Dl ∈ T5.hid := by rw [eh5]; exact List.mem_cons_self
          have ra5 : RepL K T5 H5 acc ys := ra.step ((st3.trans st4).trans st5)
          have hal : acc.length < sizeLine := by rw [ra5.length]; omega
          have hl5 : HLen (upd H5 Dl (.lst (acc ++ [yv]))) := hlen_lst sim5.hl (by rw [List.length_append, List.length_singleton]; omega)
          obtain ⟨kp5, sim6⟩ := sim5.setHid (u := .lst (acc ++ [yv])) hid5 hl5
          refine ⟨acc, (st5.hkeep Dl hid4).trans hD4, hal, T5, S5, acc ++ [yv], ys ++ [yd], eh5, ⟨op5.ext, rfl, fun b hb => ?_, fun b u n q => ?_, op5.new⟩, sim6, upd_same, RepL.append (ra5.kp kp5) (.cons (rel5.kp kp5) .nil), by rw [List.length_append, List.length_singleton]; omega, ?_⟩
          · rw [upd_ne fun e => sim1.hid b hb (by rw [e]; exact hD)]
            exact op5.hkeep b hb
          · rw [upd_ne (ne_of_none q hD)]
            exact op5.keep b u n q
          · rw [R.bind_assoc] at ho5
            have e5 : (fun zs S2 => (R.ok (D.lst (ys ++ [yd] ++ zs)) S2 : R D)) = fun a S => (R.ok (yd :: a) S).bind fun zs S2 => R.ok (D.lst (ys ++ zs)) S2 := by
              funext zs S2
              show _ = R.ok (D.lst (ys ++ (yd :: zs))) S2
              rw [List.append_assoc]
              rfl
            rw [e5]
            exact ho5
  · have e : i = ds.length := by omega
    subst e
    rw [List.drop_length] at ho
    refine .inl ⟨stop, ho ⟨T2.loc, T1.hid⟩ H2 _ st2 ?_ ?_⟩
    · have h9 := sim2
      obtain ⟨l2, h2⟩ := T2
      cases eh
      exact h9.unhide
    · obtain ⟨l2, h2⟩ := T2
      cases eh
      rw [List.append_nil]
      refine .lst hD2 ⟨fun z => ?_, fun z => ?_⟩ (ra.kp kp_unhide)
      · exact sim2.apart z List.mem_cons_self
      · have nd := (List.nodup_append.mp sim2.nd).2.1
        exact (List.nodup_cons.mp nd).1 z
theorem j_lc (hsl : ∀ i ∈ sl, i ∈ own.map (·.2)) (hc : X.calm = true) (hN : X.N.Nodup) (hi : PI X tg iter (iD X.K X.mg Wx mi)) (ok : BlkOk X.N X.env.scope scope own)
    (hg : ∀ (s : Shared) (H : Hp) (C : Addr) (cl : List (Str × Addr)) (fp : List Addr), PG (X.blk s H scope (compEnvC scope cl C X.env) fp) tg (gD X.K X.mg sl gm)) (ht : ∀ (s : Shared) (H : Hp) (C : Addr) (cl : List (Str × Addr)) (fp : List Addr), PTs (X.blk s H scope (compEnvC scope cl C X.env) fp) ifs (tDT X.K X.mg W0 tt))
    (he : ∀ (s : Shared) (H : Hp) (C : Addr) (cl : List (Str × Addr)) (fp : List Addr), PE (X.blk s H scope (compEnvC scope cl C X.env) fp) elt (tD X.K X.mg W0 te)) (hs : ∀ x, foldedSetIterable iter X.env x = pure x := by intro _; rfl) :
    PE X (.ListComp elt [⟨tg, iter, ifs, 0⟩] scope pos) (tD X.K X.mg Wx (mLc mi (own.map (·.2)) gm tt te)) := pe_imp (pe_lc hc hN hi ok hg ht he hs) (tLc_of hsl)
theorem js_setLc {i : Nat} {y : Str} {py spos : Pos} (hsl : ∀ i ∈ sl, i ∈ own.map (·.2)) (hc : X.calm = true) (hN : X.N.Nodup) (hy : X.N[i]? = some y) (hyl : X.env.scope.names.lookup y = some .local)
    (hsw : swapsWith (.ListComp elt [⟨tg, iter, ifs, 0⟩] scope pos) (some (.Name y py)) spos.line X.env = pure true) (hi : PI X tg iter (iD X.K X.mg Wx mi)) (ok : BlkOk X.N X.env.scope scope own)
    (hg : ∀ (s : Shared) (H : Hp) (C : Addr) (cl : List (Str × Addr)) (fp : List Addr), PG (X.blk s H scope (compEnvC scope cl C X.env) fp) tg (gD X.K X.mg sl gm)) (ht : ∀ (s : Shared) (H : Hp) (C : Addr) (cl : List (Str × Addr)) (fp : List Addr), PTs (X.blk s H scope (compEnvC scope cl C X.env) fp) ifs (tDT X.K X.mg W0 tt))
    (he : ∀ (s : Shared) (H : Hp) (C : Addr) (cl : List (Str × Addr)) (fp : List Addr), PE (X.blk s H scope (compEnvC scope cl C X.env) fp) elt (tD X.K X.mg W0 te)) (hs : ∀ x, foldedSetIterable iter X.env x = pure x := by intro _; rfl) :
    PS X (.Assign [.Name y py] (.ListComp elt [⟨tg, iter, ifs, 0⟩] scope pos) spos) (tDS X.K X.mg Wx (sSet i (mLc mi (own.map (·.2)) gm tt te))) :=
  ps_imp (ps_setLc hc hN hy hyl hsw hi ok hg ht he hs) fun E g H h => by
    obtain ⟨T, r, S, rs, sim, h⟩ := h
    refine tLc_of hsl g H _ ⟨T, r, S, rs, sim, ZOut.bind h rs fun d S1 T1 H1 v st sim1 rel rs1 h1 => ?_⟩
    exact h1.nx sim1 (rs1.set rel)
end
end Dv
namespace Dv
open PySem L2
/-! ### defs of the text -/
def spD (K : PySem.W.Frag) (mg : Str → Option Value) (n : Nat) (F : List D → Store → R D) : Sp := fun vs H Q E => vs.length = n ∧ ∃ T S ds, RepL K T H vs ds ∧ Sim K mg T S H ∧ Out K mg (fun c d _ H => E c d H) (Rep K) T [] H (F ds S) Q
def mApp (n : Nat) (F : List D → Store → R D) (ms : AM) : EM := fun r S => (ms r S).bind fun ds S1 => if ds.length = n then F ds S1 else .bad
section
variable {X : Cx} {Wx : WX} {k n : Nat} {f : Addr} {fd : FuncData} {ps : List Str} {Fn : List D → Store → R D} {x : Str} {p pos : Pos} {e : Expr} {es : List Expr} {ms : AM}
theorem j_call (F : FnOk X.prog X.w X.K X.mg X.base (L2.CX X.prog X.w) k f fd ps (spD X.K X.mg n Fn)) (hr : Room k X.A) (hg : Gl X x) (hm : X.mg x = some (.ref f)) (hk : PySem.W.keepIn X.K (.ref f) = true) (hb : Binds X.K fd ps []) (tk : Takes X Wx)
    (ha : PA X (e :: es) (tDA X.K X.mg Wx ms)) (hdb : (x == ("__debug__" : Str)) = false := by decide) (he : starEach (e :: es) X.env = (false, eval e X.env) :: starEach es X.env := by rfl) (hpl : (backTo pos (starEach es X.env)).any (·.1) = false := by rfl) :
    PE X (.Call (.Name x p) (e :: es) [] pos) (tD X.K X.mg Wx (mApp n Fn ms)) :=
  pe_imp (pe_callSD (E := WE Wx) F hr hg hm hk hb .nil (fun g => passAt tk g) ha hdb he hpl) fun g H Q h => by
    obtain ⟨T, r, S, rs, sim, h⟩ := h
    refine ⟨T, r, S, rs, sim, Out.bind h fun ds S1 T1 H1 vs st sim1 rel h1 => ?_⟩
    split at h1
    · rename_i hn
      rw [List.append_nil]
      refine ⟨by rw [rel.length]; exact hn, T1, S1, ds, rel, sim1, ?_⟩
      revert h1
      cases Fn ds S1 with
      | bad => exact fun h => h
      | exc x S2 => exact fun h => h
      | ok d S2 => exact fun h => h
    · exact h1.elim
end
def frame (sz : Nat) (ds : List D) : Env := ds.map some ++ List.replicate (sz - ds.length) none
theorem frame_ok {K : PySem.W.Frag} {T : Tb} {H : Hp} {vs : List V} {ds : List D} (N : List Str) (h : RepL K T H vs ds) : RepSt K T H (frame N.length ds) (L2.start N vs) := by
  have hl := h.length
  refine ⟨?_, fun i d e => ?_⟩
  · unfold frame L2.start
    rw [List.length_append, List.length_append, List.length_map, List.length_map, hl, List.length_replicate, List.length_replicate]
  · unfold frame at e
    by_cases hi : i < ds.length
    · rw [List.getElem?_append_left (by rw [List.length_map]; exact hi), List.getElem?_map, List.getElem?_eq_getElem hi] at e
      cases e
      obtain ⟨v, h1, h2⟩ := h.get (List.getElem?_eq_getElem hi)
      refine ⟨v, ?_, h2⟩
      unfold L2.start
      rw [List.getElem?_append_left (by rw [List.length_map, hl]; exact hi), List.getElem?_map, h1]
      rfl
    · rw [List.getElem?_append_right (by rw [List.length_map]; omega), List.getElem?_replicate] at e
      split at e <;> cases e
/-- what a body comes to, its new things kept -/
def finK (z : Z) : R D := match z with
  | .ok (.ret d) _ S => .ok d S
  | .ok .next _ S => .ok .non S
  | .exc n _ S => .exc n S
  | _ => .bad
def runK (sz : Nat) (b : SM) : List D → Store → R D := fun ds S => finK (b (frame sz ds) S)
section
variable {P : Program} {w : World} {K : PySem.W.Frag} {mg : Str → Option Value} {base : Heap} {x qual : Str} {st : Stmt} {f : Addr} {fd : FuncData} {N ps : List Str} {k : Nat} {b : SM}
abbrev BodyOk (P : Program) (w : World) (K : PySem.W.Frag) (mg : Str → Option Value) (base : Heap) (N : List Str) (qual : Str) (st : Stmt) (f : Addr) (k : Nat) (b : SM) : Prop :=
  ∀ (cdv : Value) (A : Around) (outer : List PySem.Env) (s : Shared) (H : Hp) (E : XK), Room k (A.deeper (PyProof.Rows.envOfC qual (defScope st) s.heap.objs.size f cdv)) →
    PSs (cxOf (L2.CX P w) P w K mg base N qual (defScope st) f cdv A outer s H E) (defBody st) (tDS K mg (fun c d _ H => E c d H) b)
theorem fnK (F : Fun K x qual st f fd) (Sc : FnScope N ps (defScope st)) (hb : BodyOk P w K mg base N qual st f k b) : FnOk P w K mg base (L2.CX P w) (k + 1) f fd ps (spD K mg ps.length (runK N.length b)) := by
  refine F.okX Sc (fun vs H Q E h => h.1) fun cdv A outer s H vs Q E hr hsp => ⟨_, hb cdv A outer s H E hr, ?_⟩
  obtain ⟨hl, T, S, ds, rep, sim, out⟩ := hsp
  refine ⟨T, frame N.length ds, S, frame_ok N rep, sim, ?_⟩
  unfold runK at out
  revert out
  cases b (frame N.length ds) S with
  | bad => exact fun h => h
  | exc n r' S' => exact fun h T' H' g' s sim' _ => h T' H' s sim'
  | ok fl r' S' =>
    cases fl with
    | next => exact fun h T' H' g' s sim' rs' => h T' H' .non s sim' .non
    | ret d => exact fun h => h
    | brk => exact fun h => h.elim
    | cont => exact fun h => h.elim
end
/-! ### a body whose new things go when it ends -/
mutual
def clo (n : Nat) : D → Bool
  | .tup xs => cloL n xs
  | .lst xs => cloL n xs
  | .dct kvs => cloK n kvs
  | .loc m => decide (m < n)
  | .non => true
  | .bl _ => true
  | .int _ => true
  | .str _ => true
  | .scr _ => true
  | .ty _ => true
def cloL (n : Nat) : List D → Bool
  | [] => true
  | d :: ds => clo n d && cloL n ds
def cloK (n : Nat) : List (Key × D) → Bool
  | [] => true
  | (_, d) :: ds => clo n d && cloK n ds
end
theorem cloK_eq (n : Nat) : ∀ kvs : List (Key × D), cloK n kvs = cloL n (kvs.map (·.2))
  | [] => rfl
  | (_, d) :: ds => by
    show (clo n d && cloK n ds) = (clo n d && cloL n (ds.map (·.2)))
    rw [cloK_eq n ds]
theorem cloL_ints (n : Nat) : ∀ ns : List Int, cloL n (ns.map D.int) = true
  | [] => rfl
  | x :: ns => by
    show (clo n (D.int x) && cloL n (ns.map D.int)) = true
    rw [cloL_ints n ns]
    rfl
theorem cloL_iff (n : Nat) : ∀ ds : List D, cloL n ds = true ↔ ∀ d ∈ ds, clo n d = true
  | [] => ⟨fun _ d h => (by cases h), fun _ => rfl⟩
  | x :: ds => by
    show (clo n x && cloL n ds) = true ↔ _
    rw [Bool.and_eq_true, cloL_iff n ds]
    exact ⟨fun h d hd => (List.mem_cons.mp hd).elim (fun e => e ▸ h.1) (h.2 d), fun h => ⟨h x List.mem_cons_self, fun d hd => h d (List.mem_cons_of_mem _ hd)⟩⟩
def cloO (n : Nat) : O → Bool
  | .lst xs => cloL n xs
  | .dct kvs => cloK n kvs
  | .ins _ fs => cloL n (fs.map (·.2))
section
variable {K : PySem.W.Frag} {mg : Str → Option Value} {T T' : Tb} {H : Hp}
mutual
theorem Rep.clo : ∀ {v : V} {d : D}, Rep K T H v d → Dv.clo T.loc.length d = true
  | _, _, .non => rfl
  | _, _, .bl b => rfl
  | _, _, .int i => rfl
  | _, _, .str x => rfl
  | _, _, .ty x => rfl
  | _, _, .tup h n r => RepL.clo r
  | _, _, .lst h n r => RepL.clo r
  | _, _, .scr h => rfl
  | _, _, @Rep.dct _ _ _ a kvs kds h n e r => by
    show cloK _ kds = true
    rw [cloK_eq]
    exact RepL.clo r
  | _, _, .loc h => decide_eq_true (List.getElem?_eq_some_iff.mp h).1
theorem RepL.clo : ∀ {vs : List V} {ds : List D}, RepL K T H vs ds → cloL T.loc.length ds = true
  | _, _, .nil => rfl
  | _, _, .cons h r => by
    show (Dv.clo _ _ && cloL _ _) = true
    rw [Rep.clo h, RepL.clo r]
    rfl
end
theorem ORep.clo {a : Addr} {o : O} (h : ORep K mg T H a o) : cloO T.loc.length o = true := by
  cases o with
  | lst ds => obtain ⟨xs, _, h2⟩ := h; exact h2.clo
  | dct kds => obtain ⟨xs, _, _, h2⟩ := h; show cloK _ _ = true; rw [cloK_eq]; exact h2.clo
  | ins c fs => obtain ⟨_, _, _, _, _, _, h2⟩ := h; exact h2.clo
mutual
theorem Rep.cut {m : List Addr} (e : T'.loc = T.loc ++ m) (eh : T'.hid = T.hid) : ∀ {v : V} {d : D}, Rep K T' H v d → Dv.clo T.loc.length d = true → Rep K T H v d
  | _, _, .non, _ => .non
  | _, _, .bl b, _ => .bl b
  | _, _, .int i, _ => .int i
  | _, _, .str x, _ => .str x
  | _, _, .ty x, _ => .ty x
  | _, _, .tup h n r, c => .tup h ⟨fun z => n.1 (by rw [e]; exact List.mem_append_left _ z), by rw [← eh]; exact n.2⟩ (RepL.cut e eh r c)
  | _, _, .lst h n r, c => .lst h ⟨fun z => n.1 (by rw [e]; exact List.mem_append_left _ z), by rw [← eh]; exact n.2⟩ (RepL.cut e eh r c)
  | _, _, .scr (.inl ⟨h, n⟩), _ => .scr (.inl ⟨h, fun z => n.1 (by rw [e]; exact List.mem_append_left _ z), by rw [← eh]; exact n.2⟩)
  | _, _, .scr (.inr h), _ => .scr (.inr h)
  | _, _, @Rep.dct _ _ _ a kvs kds h n q r, c => .dct h ⟨fun z => n.1 (by rw [e]; exact List.mem_append_left _ z), by rw [← eh]; exact n.2⟩ q (RepL.cut e eh r (by
    have c : cloK _ kds = true := c
    rw [cloK_eq] at c
    exact c))
  | _, _, .loc h, c => .loc (by
    rw [e, List.getElem?_append_left (of_decide_eq_true c)] at h
    exact h)
theorem RepL.cut {m : List Addr} (e : T'.loc = T.loc ++ m) (eh : T'.hid = T.hid) : ∀ {vs : List V} {ds : List D}, RepL K T' H vs ds → cloL T.loc.length ds = true → RepL K T H vs ds
  | _, _, .nil, _ => .nil
  | _, _, @RepL.cons _ _ _ v vs d ds h r, c => by
    have c : (Dv.clo _ d && cloL _ ds) = true := c
    rw [Bool.and_eq_true] at c
    exact .cons (Rep.cut e eh h c.1) (RepL.cut e eh r c.2)
end
theorem ORep.cut {m : List Addr} {a : Addr} {o : O} (e : T'.loc = T.loc ++ m) (eh : T'.hid = T.hid) (h : ORep K mg T' H a o) (c : cloO T.loc.length o = true) : ORep K mg T H a o := by
  cases o with
  | lst ds => obtain ⟨xs, h1, h2⟩ := h; exact ⟨xs, h1, h2.cut e eh c⟩
  | dct kds =>
    obtain ⟨xs, h1, h3, h2⟩ := h
    have c : cloK _ kds = true := c
    rw [cloK_eq] at c
    exact ⟨xs, h1, h3, h2.cut e eh c⟩
  | ins n fs => obtain ⟨C, dx, fvs, h1, h2, h3, h4⟩ := h; exact ⟨C, dx, fvs, h1, h2, h3, h4.cut e eh c⟩
end
/-- the things of the store ahead of a call are as they were, or tell of none of the new -/
def Tr (S S1 : Store) : Prop := S.length ≤ S1.length ∧ ∀ (i : Nat) (o : O), i < S.length → S1[i]? = some o → S[i]? = some o ∨ cloO S.length o = true
theorem Tr.app (S E : Store) : Tr S (S ++ E) := ⟨by rw [List.length_append]; omega, fun i o hi h => .inl (by rw [List.getElem?_append_left hi] at h; exact h)⟩
theorem Tr.set (S E : Store) (n : Nat) (o : O) (h : cloO S.length o = true) : Tr S (S.set n o ++ E) := ⟨by rw [List.length_append, List.length_set]; omega, fun i o' hi q => by
  rw [List.getElem?_append_left (by rw [List.length_set]; exact hi)] at q
  by_cases e : n = i
  · subst e
    rw [List.getElem?_set_self hi] at q
    cases q
    exact .inr h
  · rw [List.getElem?_set_ne e] at q
    exact .inl q⟩
/-- a value told without the new things: a new list is from now on as it is -/
def fzD (n : Nat) (S : Store) (d : D) : Option D := match d with
  | .loc m => if m < n then some (.loc m) else match S[m]? with
    | some (.lst ds) => if cloL n ds = true then some (.lst ds) else none
    | some (.dct kvs) => if cloK n kvs = true then some (.dct kvs) else none
    | _ => none
  | d => if clo n d = true then some d else none
open Classical in
noncomputable def finT (S : Store) (z : Z) : R D := match z with
  | .ok (.ret d) _ S1 => if Tr S S1 then (match fzD S.length S1 d with
    | some d' => .ok d' (S1.take S.length)
    | none => .bad) else .bad
  | .ok .next _ S1 => if Tr S S1 then .ok .non (S1.take S.length) else .bad
  | .exc n _ S1 => if Tr S S1 then .exc n (S1.take S.length) else .bad
  | _ => .bad
noncomputable def runT (sz : Nat) (b : SM) : List D → Store → R D := fun ds S => finT S (b (frame sz ds) S)
section
variable {K : PySem.W.Frag} {mg : Str → Option Value} {T T1 : Tb} {H H1 : Hp} {S S1 : Store}
theorem tr_back (sim : Sim K mg T S H) (st : Step T H T1 H1) (sim1 : Sim K mg T1 S1 H1) (tr : Tr S S1) : Step T H T H1 ∧ Sim K mg T (S1.take S.length) H1 := by
  obtain ⟨m, em⟩ := st.ext
  refine ⟨⟨⟨[], by simp⟩, rfl, st.hkeep, st.keep, fun a h n => absurd h n⟩, ?_, sim.nd, fun i a o h1 h2 => ?_, fun a h => by rw [← st.hid] at h; exact sim1.hid a h, sim1.hl⟩
  · rw [List.length_take, sim.len]
    have := tr.1
    omega
  · have hi : i < S.length := by rw [← sim.len]; exact (List.getElem?_eq_some_iff.mp h1).1
    rw [List.getElem?_take, if_pos hi] at h2
    refine (sim1.obj i a o (st.get h1) h2).cut em st.hid ?_
    rcases tr.2 i o hi h2 with q | q
    · exact (sim.obj i a o h1 q).clo
    · rw [sim.len]; exact q
theorem fz_back (sim : Sim K mg T S H) (st : Step T H T1 H1) (sim1 : Sim K mg T1 S1 H1) {v : V} {d d' : D} (h : Rep K T1 H1 v d) (e : fzD S.length S1 d = some d') : Rep K T H1 v d' := by
  obtain ⟨m, em⟩ := st.ext
  have off : ∀ (i : Nat) (a : Addr), T1.loc[i]? = some a → ¬ i < S.length → T.off a := fun i a h1 hi => ⟨fun z => by
    obtain ⟨j, hj, ej⟩ := List.mem_iff_getElem.mp z
    have h2 : T1.loc[j]? = some a := st.get (by rw [List.getElem?_eq_getElem hj, ej])
    have := nd_ix sim1.ndl h1 h2
    rw [sim.len] at hj
    omega, fun z => sim1.apart (List.mem_of_getElem? h1) (by rw [st.hid]; exact z)⟩
  have plain : ∀ d, (∀ n, d ≠ .loc n) → fzD S.length S1 d = (if clo S.length d = true then some d else none) := fun d hd => by
    cases d <;> first | rfl | exact absurd rfl (hd _)
  by_cases hd : ∀ n, d ≠ .loc n
  · rw [plain d hd] at e
    split at e
    · rename_i c
      cases e
      exact h.cut em st.hid (by rw [sim.len]; exact c)
    · cases e
  · cases d with
    | loc k =>
      cases h with
      | loc hk =>
        simp only [fzD] at e
        split at e
        · rename_i hlt
          cases e
          refine .loc ?_
          rw [em, List.getElem?_append_left (by rw [sim.len]; exact hlt)] at hk
          exact hk
        · rename_i hlt
          have of := off k _ hk hlt
          split at e
          · rename_i ds es
            split at e
            · rename_i c
              cases e
              obtain ⟨xs, q1, q2⟩ := sim1.obj k _ _ hk es
              exact .lst q1 of (q2.cut em st.hid (by rw [sim.len]; exact c))
            · cases e
          · rename_i kvs es
            split at e
            · rename_i c
              cases e
              obtain ⟨xs, q1, q3, q2⟩ := sim1.obj k _ _ hk es
              rw [cloK_eq] at c
              exact .dct (.inl q1) of q3 (q2.cut em st.hid (by rw [sim.len]; exact c))
            · cases e
          · cases e
    | _ => exact absurd (fun n q => by cases q) hd
end
section
variable {P : Program} {w : World} {K : PySem.W.Frag} {mg : Str → Option Value} {base : Heap} {x qual : Str} {st : Stmt} {f : Addr} {fd : FuncData} {N ps : List Str} {k : Nat} {b : SM}
theorem fnT (F : Fun K x qual st f fd) (Sc : FnScope N ps (defScope st)) (hb : BodyOk P w K mg base N qual st f k b) : FnOk P w K mg base (L2.CX P w) (k + 1) f fd ps (spD K mg ps.length (runT N.length b)) := by
  refine F.okX Sc (fun vs H Q E h => h.1) fun cdv A outer s H vs Q E hr hsp => ⟨_, hb cdv A outer s H E hr, ?_⟩
  obtain ⟨hl, T, S, ds, rep, sim, out⟩ := hsp
  refine ⟨T, frame N.length ds, S, frame_ok N rep, sim, ?_⟩
  unfold runT finT at out
  revert out
  cases b (frame N.length ds) S with
  | bad => exact fun h => h
  | exc n r' S' =>
    intro h T' H' g' s sim' _
    dsimp only at h
    split at h
    · rename_i tr
      obtain ⟨s1, m1⟩ := tr_back sim s sim' tr
      exact h T H' s1 m1
    · exact h.elim
  | ok fl r' S' =>
    cases fl with
    | next =>
      intro h T' H' g' s sim' rs'
      dsimp only at h
      split at h
      · rename_i tr
        obtain ⟨s1, m1⟩ := tr_back sim s sim' tr
        exact h T H' .non s1 m1 .non
      · exact h.elim
    | ret d =>
      intro h T' H' v s sim' rv
      dsimp only at h
      split at h
      · rename_i tr
        obtain ⟨s1, m1⟩ := tr_back sim s sim' tr
        split at h
        · rename_i d' ed
          exact h T H' v s1 m1 (fz_back sim s sim' rv ed)
        · exact h.elim
      · exact h.elim
    | brk => exact fun h => h.elim
    | cont => exact fun h => h.elim
end
end Dv
namespace Dv
open PySem L2
/-! ### numbers -/
def subD (a b : D) (_ : Store) : Option D := match a, b with
  | .int i, .int j => some (.int (i - j))
  | _, _ => none
def fdivD (a b : D) (_ : Store) : Option D := match a, b with
  | .int i, .int j => if 0 < j ∧ j < 1073741824 then some (.int (i / j)) else none
  | _, _ => none
def modD (a b : D) (_ : Store) : Option D := match a, b with
  | .int i, .int j => if 0 < j then some (.int (i % j)) else none
  | _, _ => none
def negD (a : D) (_ : Store) : Option D := match a with
  | .int i => some (.int (-i))
  | _ => none
def addD (a b : D) (_ : Store) : Option D := match a, b with
  | .int i, .int j => some (.int (i + j))
  | .str x, .str y => if x.length + y.length ≤ 100000 then some (.str (x ++ y)) else none
  | .tup xs, .tup ys => if xs.length + ys.length ≤ 100000 then some (.tup (xs ++ ys)) else none
  | .lst xs, .lst ys => if xs.length + ys.length ≤ 100000 then some (.lst (xs ++ ys)) else none
  | _, _ => none
def mulD (a b : D) (_ : Store) : Option D := match a, b with
  | .int i, .int j => if (-(2 ^ 64) < i ∧ i < 2 ^ 64) ∨ (-(2 ^ 64) < j ∧ j < 2 ^ 64) then some (.int (i * j)) else none
  | .lst xs, .int k => if -100000 ≤ k ∧ k ≤ 100000 ∧ xs.length * k.toNat ≤ 100000 then some (.lst (List.replicate k.toNat xs).flatten) else none
  | _, _ => none
def ltD (a b : D) (_ : Store) : Option D := match a, b with
  | .int i, .int j => some (.bl (decide (i < j)))
  | .str x, .str y => some (.bl (decide (x.cps.toList < y.cps.toList)))
  | _, _ => none
def leD (a b : D) (_ : Store) : Option D := match a, b with
  | .int i, .int j => some (.bl (decide (i ≤ j)))
  | .str x, .str y => some (.bl (!decide (y.cps.toList < x.cps.toList)))
  | _, _ => none
def gtD (a b : D) (_ : Store) : Option D := match a, b with
  | .int i, .int j => some (.bl (decide (j < i)))
  | _, _ => none
def geD (a b : D) (_ : Store) : Option D := match a, b with
  | .int i, .int j => some (.bl (decide (j ≤ i)))
  | _, _ => none
section
variable {X : Cx} {K : PySem.W.Frag} {mg : Str → Option Value}
/-- a rule of two ints that tells a plain value -/
theorem pok_I0 {g : Int → Int → V} {gd : Int → Int → D} {f : D → D → Store → Option D} (hf : ∀ a b S d, f a b S = some d → ∃ i j, a = .int i ∧ b = .int j ∧ d = gd i j) (hg : ∀ T H i j, Rep K T H (g i j) (gd i j)) : POk2 K mg (rI0 g) f := fun T S H x y a b d Q sim rx ry e k => by
  obtain ⟨i, j, rfl, rfl, rfl⟩ := hf a b S d e
  exact ⟨i, j, rx.int_of, ry.int_of, k H _ (Step.refl T H) sim (hg T H i j)⟩
theorem pok_I {C : Int → Int → Prop} {g : Int → Int → V} {gd : Int → Int → D} {f : D → D → Store → Option D} (hf : ∀ a b S d, f a b S = some d → ∃ i j, a = .int i ∧ b = .int j ∧ C i j ∧ d = gd i j) (hg : ∀ T H i j, Rep K T H (g i j) (gd i j)) : POk2 K mg (rI C g) f := fun T S H x y a b d Q sim rx ry e k => by
  obtain ⟨i, j, rfl, rfl, hc, rfl⟩ := hf a b S d e
  exact ⟨i, j, rx.int_of, ry.int_of, hc, k H _ (Step.refl T H) sim (hg T H i j)⟩
theorem pok_sub : POk2 K mg (rI0 fun i j => .int (i - j)) subD := pok_I0 (gd := fun i j => .int (i - j)) (fun a b S d e => by
  cases a <;> cases b <;> cases e
  exact ⟨_, _, rfl, rfl, rfl⟩) fun _ _ _ _ => .int _
theorem pok_fdiv : POk2 K mg (rI CDiv fun i j => .int (i / j)) fdivD := pok_I (gd := fun i j => .int (i / j)) (fun a b S d e => by
  cases a <;> cases b <;> try cases e
  simp only [fdivD] at e
  split at e
  · rename_i h
    cases e
    exact ⟨_, _, rfl, rfl, h, rfl⟩
  · cases e) fun _ _ _ _ => .int _
theorem pok_mod : POk2 K mg (rI (fun _ j => 0 < j) fun i j => .int (i % j)) modD := pok_I (gd := fun i j => .int (i % j)) (fun a b S d e => by
  cases a <;> cases b <;> try cases e
  simp only [modD] at e
  split at e
  · rename_i h
    cases e
    exact ⟨_, _, rfl, rfl, h, rfl⟩
  · cases e) fun _ _ _ _ => .int _
theorem pok_neg : POk1 K mg (rU fun i => .int (-i)) negD := fun T S H x a d Q sim rx e k => by
  cases a <;> cases e
  exact ⟨_, rx.int_of, k H _ (Step.refl T H) sim (.int _)⟩
/-- the four kinds of + -/
def rAddA (K : PySem.W.Frag) : R2 := fun x y H Q => (∃ i j, x = .int i ∧ y = .int j ∧ Q (.int (i + j)) H) ∨ (∃ i j, x = .str i ∧ y = .str j ∧ i.length + j.length ≤ sizeLine ∧ Q (.str (i ++ j)) H) ∨ rCatA K x y H Q ∨ rCat x y H Q
theorem op_addA : OpR X (binaryOp .Add) (rAddA X.K) := op_add.or (op_add_str.or (op_catA.or op_cat))
theorem pok_add : POk2 K mg (rAddA K) addD := fun T S H x y a b d Q sim rx ry e k => by
  cases rx <;> cases ry <;> try cases e
  · exact .inl ⟨_, _, rfl, rfl, k H _ (Step.refl T H) sim (.int _)⟩
  · simp only [addD] at e
    split at e
    · rename_i h
      cases e
      exact .inr (.inl ⟨_, _, rfl, rfl, sz5 h, k H _ (Step.refl T H) sim (.str _)⟩)
    · cases e
  · rename_i a1 xs ds h1 n1 r1 a2 ys es h2 n2 r2
    simp only [addD] at e
    split at e
    · rename_i hz
      cases e
      have hz' : xs.length + ys.length ≤ sizeLine := by rw [r1.length, r2.length]; exact sz5 hz
      refine .inr (.inr (.inl ⟨a1, a2, xs, ys, rfl, rfl, SqT.of h1, SqT.of h2, hz', fun q => ?_, fun q1 q2 => ?_, fun q1 q2 p hp => ?_⟩))
      · subst q
        cases r1
        exact k H _ (Step.refl T H) sim (.tup h2 n2 r2)
      · subst q2
        cases r2
        rw [List.append_nil] at k
        exact k H _ (Step.refl T H) sim (.tup h1 n1 r1)
      · have st := sim.stepNew (o := .tup (xs ++ ys)) hp
        exact k _ _ st (sim.new hp (hlen_tup sim.hl (by rw [List.length_append]; exact hz'))) (.tup upd_same (sim.off hp) (RepL.append (r1.step st) (r2.step st)))
    · cases e
  · rename_i a1 xs ds h1 n1 r1 a2 ys es h2 n2 r2
    simp only [addD] at e
    split at e
    · rename_i hz
      cases e
      have hz' : xs.length + ys.length ≤ sizeLine := by rw [r1.length, r2.length]; exact sz5 hz
      refine .inr (.inr (.inr ⟨a1, a2, xs, ys, rfl, rfl, h1, h2, hz', fun p hp => ?_⟩))
      have st := sim.stepNew (o := .lst (xs ++ ys)) hp
      exact k _ _ st (sim.new hp (hlen_lst sim.hl (by rw [List.length_append]; exact hz'))) (.lst upd_same (sim.off hp) (RepL.append (r1.step st) (r2.step st)))
    · cases e
def rMulA : R2 := fun x y H Q => rI CMul (fun i j => .int (i * j)) x y H Q ∨ rRep x y H Q
theorem op_mulA : OpR X (binaryOp .Mult) rMulA := op_mul.or op_rep
theorem flat_len {α : Type} (xs : List α) : ∀ k : Nat, (List.replicate k xs).flatten.length = xs.length * k
  | 0 => rfl
  | k + 1 => by
    rw [List.replicate_succ, List.flatten_cons, List.length_append, flat_len xs k, Nat.mul_succ, Nat.add_comm]
theorem pok_mul : POk2 K mg rMulA mulD := fun T S H x y a b d Q sim rx ry e k => by
  cases rx <;> cases ry <;> try cases e
  · simp only [mulD] at e
    split at e
    · rename_i h
      cases e
      exact .inl ⟨_, _, rfl, rfl, h, k H _ (Step.refl T H) sim (.int _)⟩
    · cases e
  · rename_i a1 xs ds h1 n1 r1 i
    simp only [mulD] at e
    split at e
    · rename_i hz
      cases e
      have hz' : xs.length * i.toNat ≤ sizeLine := by rw [r1.length]; exact sz5 hz.2.2
      refine .inr ⟨a1, i, xs, rfl, rfl, h1, by omega, by omega, hz', fun p hp => ?_⟩
      have st := sim.stepNew (o := .lst (List.replicate i.toNat xs).flatten) hp
      exact k _ _ st (sim.new hp (hlen_lst sim.hl (by rw [flat_len]; exact hz'))) (.lst upd_same (sim.off hp) ((r1.step st).rep i.toNat))
    · cases e
def rLtA (K : PySem.W.Frag) : R2 := fun x y H Q => (∃ i j, x = .int i ∧ y = .int j ∧ Q (.bl (decide (i < j))) H) ∨ (∃ i j, x = .str i ∧ y = .str j ∧ Q (.bl (decide (i.cps.toList < j.cps.toList))) H)
theorem op_ltA : OpR X (compareOp .Lt) (rLtA X.K) := op_lt.or op_lt_str
theorem pok_lt : POk2 K mg (rLtA K) ltD := fun T S H x y a b d Q sim rx ry e k => by
  cases rx <;> cases ry <;> cases e
  · exact .inl ⟨_, _, rfl, rfl, k H _ (Step.refl T H) sim (.bl _)⟩
  · exact .inr ⟨_, _, rfl, rfl, k H _ (Step.refl T H) sim (.bl _)⟩
def rLeA (K : PySem.W.Frag) : R2 := fun x y H Q => (∃ i j, x = .int i ∧ y = .int j ∧ Q (.bl (decide (i ≤ j))) H) ∨ (∃ i j, x = .str i ∧ y = .str j ∧ Q (.bl (!decide (j.cps.toList < i.cps.toList))) H)
theorem op_leA : OpR X (compareOp .LtE) (rLeA X.K) := op_le.or op_le_str
theorem pok_le : POk2 K mg (rLeA K) leD := fun T S H x y a b d Q sim rx ry e k => by
  cases rx <;> cases ry <;> cases e
  · exact .inl ⟨_, _, rfl, rfl, k H _ (Step.refl T H) sim (.bl _)⟩
  · exact .inr ⟨_, _, rfl, rfl, k H _ (Step.refl T H) sim (.bl _)⟩
theorem pok_gt : POk2 K mg (rI0 fun i j => .bl (decide (j < i))) gtD := pok_I0 (gd := fun i j => .bl (decide (j < i))) (fun a b S d e => by
  cases a <;> cases b <;> cases e
  exact ⟨_, _, rfl, rfl, rfl⟩) fun _ _ _ _ => .bl _
theorem pok_ge : POk2 K mg (rI0 fun i j => .bl (decide (j ≤ i))) geD := pok_I0 (gd := fun i j => .bl (decide (j ≤ i))) (fun a b S d e => by
  cases a <;> cases b <;> cases e
  exact ⟨_, _, rfl, rfl, rfl⟩) fun _ _ _ _ => .bl _
end
/-! ### equality of data -/
mutual
def pyD : D → PyData
  | .non => .none
  | .bl b => .bool b
  | .int i => .int i
  | .str x => .str x
  | .tup xs => .tuple (pyDs xs)
  | .lst xs => .list (pyDs xs)
  | .scr _ => .none
  | .dct _ => .none
  | .loc _ => .none
  | .ty _ => .none
def pyDs : List D → List PyData
  | [] => []
  | d :: ds => pyD d :: pyDs ds
end
mutual
/-- plain data: no thing that changes, no dict -/
def dat : D → Bool
  | .non => true
  | .bl _ => true
  | .int _ => true
  | .str _ => true
  | .tup xs => dats xs
  | .lst xs => dats xs
  | .scr _ => false
  | .dct _ => false
  | .loc _ => false
  | .ty _ => false
def dats : List D → Bool
  | [] => true
  | d :: ds => dat d && dats ds
end
theorem pyDs_map : ∀ ds : List D, pyDs ds = ds.map pyD
  | [] => rfl
  | d :: ds => by
    show pyD d :: pyDs ds = _
    rw [pyDs_map ds]
    rfl
theorem dats_all : ∀ ds : List D, dats ds = ds.all dat
  | [] => rfl
  | d :: ds => by
    show (dat d && dats ds) = _
    rw [dats_all ds]
    rfl
section
variable {K : PySem.W.Frag} {T : Tb} {H : Hp}
mutual
theorem Rep.dp : ∀ {v : V} {d : D}, Rep K T H v d → dat d = true → Dp K H v (pyD d)
  | _, _, .non, _ => .non
  | _, _, .bl b, _ => .bl b
  | _, _, .int i, _ => .int i
  | _, _, .str x, _ => .str x
  | _, _, .tup h n r, c => .tup (SqT.of h) (RepL.dp r c)
  | _, _, .lst h n r, c => .lst (SqL.of h) (RepL.dp r c)
  | _, _, .scr h, c => by cases c
  | _, _, .dct h n e r, c => by cases c
  | _, _, .loc h, c => by cases c
  | _, _, .ty h, c => by cases c
theorem RepL.dp : ∀ {vs : List V} {ds : List D}, RepL K T H vs ds → dats ds = true → DpAll K H vs (pyDs ds)
  | _, _, .nil, _ => .nil
  | _, _, @RepL.cons _ _ _ v vs d ds h r, c => by
    have c : (dat d && dats ds) = true := c
    rw [Bool.and_eq_true] at c
    exact .cons (Rep.dp h c.1) (RepL.dp r c.2)
end
end
def okD (d : D) : Bool := dat d && SeqAt.shaped (pyD d)
def eqvD (a b : D) : Bool := PyData.eqv (pyD a) (pyD b)
/-- a list of the store is told as it stands -/
def now (d : D) (S : Store) : D := match d with
  | .loc n => match S[n]? with
    | some (.lst xs) => .lst xs
    | _ => .loc n
  | d => d
def eqO (a b : D) : Option Bool := match a, b with
  | .int i, .int j => some (decide (i = j))
  | .str x, .str y => some (decide (x = y))
  | .bl x, .bl y => some (decide (x = y))
  | a, b => if okD a = true ∧ okD b = true then some (eqvD a b) else none
def eqD (a b : D) (S : Store) : Option D := (eqO (now a S) (now b S)).map .bl
def neD (a b : D) (S : Store) : Option D := (eqO (now a S) (now b S)).map fun k => .bl (!k)
section
variable {X : Cx} {K : PySem.W.Frag} {mg : Str → Option Value}
def rEqA (K : PySem.W.Frag) : R2 := fun x y H Q => rEq x y H Q ∨ rEqD K x y H Q
def rNeA (K : PySem.W.Frag) : R2 := fun x y H Q => rNe x y H Q ∨ rNeD K x y H Q
theorem op_eqA (hu : X.A.units + 64 < cLine) : OpR X (compareOp .Eq) (rEqA X.K) := op_eq.or (op_eqD hu)
theorem op_neA (hu : X.A.units + 64 < cLine) : OpR X (compareOp .NotEq) (rNeA X.K) := op_ne.or (op_neD hu)
/-- a value as data, a list of the store too -/
theorem now_dp {T : Tb} {S : Store} {H : Hp} {v : V} {d : D} (sim : Sim K mg T S H) (h : Rep K T H v d) (c : dat (now d S) = true) : Dp K H v (pyD (now d S)) := by
  cases d with
  | loc n =>
    simp only [now] at c ⊢
    split at c
    · rename_i xs e
      cases h with
      | loc hn =>
        obtain ⟨ys, q1, q2⟩ := sim.obj _ _ _ hn e
        exact .lst (SqL.of q1) (q2.dp c)
    · cases c
  | _ => exact h.dp c
theorem now_int {T : Tb} {S : Store} {H : Hp} {v : V} {d : D} {i : Int} (h : Rep K T H v d) (e : now d S = .int i) : v = .int i := by
  cases d with
  | loc n =>
    simp only [now] at e
    split at e <;> cases e
  | int j => cases e; exact h.int_of
  | _ => cases e
theorem now_str {T : Tb} {S : Store} {H : Hp} {v : V} {d : D} {i : Str} (h : Rep K T H v d) (e : now d S = .str i) : v = .str i := by
  cases d with
  | loc n =>
    simp only [now] at e
    split at e <;> cases e
  | str j => cases e; exact h.str_of
  | _ => cases e
theorem now_bl {T : Tb} {S : Store} {H : Hp} {v : V} {d : D} {i : Bool} (h : Rep K T H v d) (e : now d S = .bl i) : v = .bl i := by
  cases d with
  | loc n =>
    simp only [now] at e
    split at e <;> cases e
  | bl j => cases e; exact h.bl_of
  | _ => cases e
theorem eqO_cases {T : Tb} {S : Store} {H : Hp} {x y : V} {a b : D} {k : Bool} (sim : Sim K mg T S H) (rx : Rep K T H x a) (ry : Rep K T H y b) (e : eqO (now a S) (now b S) = some k) :
    (scal x y = true ∧ k = decide (x = y)) ∨ (∃ d1 d2, Dp K H x d1 ∧ Dp K H y d2 ∧ SeqAt.shaped d1 = true ∧ SeqAt.shaped d2 = true ∧ k = PyData.eqv d1 d2) := by
  unfold eqO at e
  split at e
  · rename_i i j e1 e2
    cases e
    rw [now_int rx e1, now_int ry e2]
    exact .inl ⟨rfl, by rw [dec_int, Bool.beq_eq_decide_eq]⟩
  · rename_i i j e1 e2
    cases e
    rw [now_str rx e1, now_str ry e2]
    exact .inl ⟨rfl, by rw [dec_str, Bool.beq_eq_decide_eq]⟩
  · rename_i i j e1 e2
    cases e
    rw [now_bl rx e1, now_bl ry e2]
    exact .inl ⟨rfl, by rw [dec_bl, Bool.beq_eq_decide_eq]⟩
  · split at e
    · rename_i h
      cases e
      have h1 := h.1
      have h2 := h.2
      unfold okD at h1 h2
      rw [Bool.and_eq_true] at h1 h2
      exact .inr ⟨_, _, now_dp sim rx h1.1, now_dp sim ry h2.1, h1.2, h2.2, rfl⟩
    · cases e
theorem pok_eq : POk2 K mg (rEqA K) eqD := fun T S H x y a b d Q sim rx ry e k => by
  unfold eqD at e
  cases q : eqO (now a S) (now b S) with
  | none => rw [q] at e; cases e
  | some t =>
    rw [q] at e
    cases e
    have kk := k H (.bl t) (Step.refl T H) sim (.bl t)
    rcases eqO_cases sim rx ry q with ⟨h1, h2⟩ | ⟨d1, d2, h1, h2, h3, h4, h5⟩
    · exact .inl ⟨h1, by rw [← h2]; exact kk⟩
    · exact .inr ⟨d1, d2, h1, h2, h3, h4, by rw [← h5]; exact kk⟩
theorem pok_ne : POk2 K mg (rNeA K) neD := fun T S H x y a b d Q sim rx ry e k => by
  unfold neD at e
  cases q : eqO (now a S) (now b S) with
  | none => rw [q] at e; cases e
  | some t =>
    rw [q] at e
    cases e
    have kk := k H (.bl (!t)) (Step.refl T H) sim (.bl (!t))
    rcases eqO_cases sim rx ry q with ⟨h1, h2⟩ | ⟨d1, d2, h1, h2, h3, h4, h5⟩
    · exact .inl ⟨h1, by rw [← h2]; exact kk⟩
    · exact .inr ⟨d1, d2, h1, h2, h3, h4, by rw [← h5]; exact kk⟩
end
/-! ### is None -/
def isND (a b : D) (_ : Store) : Option D := match a, b with
  | .non, .non => some (.bl true)
  | _, .non => some (.bl false)
  | _, _ => none
def notND (a b : D) (_ : Store) : Option D := match a, b with
  | .non, .non => some (.bl false)
  | _, .non => some (.bl true)
  | _, _ => none
/-! ### in -/
def inO (a b : D) : Option Bool := match b with
  | .lst xs => if okD a = true ∧ okD (.lst xs) = true then some (xs.any fun z => eqvD z a) else none
  | _ => none
def inD (a b : D) (S : Store) : Option D := (inO (now a S) (now b S)).map .bl
def ninD (a b : D) (S : Store) : Option D := (inO (now a S) (now b S)).map fun k => .bl (!k)
section
variable {X : Cx} {K : PySem.W.Frag} {mg : Str → Option Value}
theorem pok_isN : POk2 K mg (fun x y H Q => y = .non ∧ Q (.bl (decide (x = .non))) H) isND := fun T S H x y a b d Q sim rx ry e k => by
  cases ry <;> cases rx <;> cases e <;> exact ⟨rfl, k H _ (Step.refl T H) sim (.bl _)⟩
theorem pok_notN : POk2 K mg (fun x y H Q => y = .non ∧ Q (.bl (!decide (x = .non))) H) notND := fun T S H x y a b d Q sim rx ry e k => by
  cases ry <;> cases rx <;> cases e <;> exact ⟨rfl, k H _ (Step.refl T H) sim (.bl _)⟩
theorem inO_cases {T : Tb} {S : Store} {H : Hp} {x y : V} {a b : D} {k : Bool} (sim : Sim K mg T S H) (rx : Rep K T H x a) (ry : Rep K T H y b) (e : inO (now a S) (now b S) = some k) :
    ∃ d ds, Dp K H x d ∧ Dp K H y (.list ds) ∧ SeqAt.shaped d = true ∧ SeqAt.shaped (.list ds) = true ∧ k = ds.any fun z => PyData.eqv z d := by
  unfold inO at e
  split at e
  · rename_i xs e2
    split at e
    · rename_i h
      cases e
      have h1 := h.1
      have h2 := h.2
      rw [← e2] at h2
      unfold okD at h1 h2
      rw [Bool.and_eq_true] at h1 h2
      have q := now_dp sim ry h2.1
      have q2 := h2.2
      rw [e2] at q q2
      refine ⟨_, _, now_dp sim rx h1.1, q, h1.2, q2, ?_⟩
      rw [pyDs_map, List.any_map]
      rfl
    · cases e
  · cases e
theorem pok_in : POk2 K mg (rInD K) inD := fun T S H x y a b d Q sim rx ry e k => by
  unfold inD at e
  cases q : inO (now a S) (now b S) with
  | none => rw [q] at e; cases e
  | some t =>
    rw [q] at e
    cases e
    obtain ⟨d, ds, h1, h2, h3, h4, h5⟩ := inO_cases sim rx ry q
    exact ⟨d, ds, h1, h2, h3, h4, by rw [← h5]; exact k H _ (Step.refl T H) sim (.bl _)⟩
theorem pok_nin : POk2 K mg (rNotInD K) ninD := fun T S H x y a b d Q sim rx ry e k => by
  unfold ninD at e
  cases q : inO (now a S) (now b S) with
  | none => rw [q] at e; cases e
  | some t =>
    rw [q] at e
    cases e
    obtain ⟨d, ds, h1, h2, h3, h4, h5⟩ := inO_cases sim rx ry q
    exact ⟨d, ds, h1, h2, h3, h4, by rw [← h5]; exact k H _ (Step.refl T H) sim (.bl _)⟩
end
end Dv
namespace Dv
open PySem L2
/-! ### built-in functions -/
def lenD (ds : List D) (S : Store) : Option D := match ds with
  | [.lst xs] => some (.int xs.length)
  | [.tup xs] => some (.int xs.length)
  | [.scr xs] => some (.int xs.length)
  | [.str x] => if x.length ≤ 100000 then some (.int x.length) else none
  | [.loc n] => match S[n]? with
    | some (.lst xs) => some (.int xs.length)
    | _ => none
  | _ => none
def absD (ds : List D) (_ : Store) : Option D := match ds with
  | [.int i] => some (.int (if i < 0 then -i else i))
  | _ => none
def intD (ds : List D) (_ : Store) : Option D := match ds with
  | [.int i] => some (.int i)
  | [.bl b] => some (.int (if b = true then 1 else 0))
  | _ => none
def intsOf : List D → Option (List Int)
  | [] => some []
  | .int i :: ds => (intsOf ds).map (i :: ·)
  | _ :: _ => none
def blsOf : List D → Option (List Bool)
  | [] => some []
  | .bl i :: ds => (blsOf ds).map (i :: ·)
  | _ :: _ => none
theorem intsOf_map : ∀ ns : List Int, intsOf (ns.map D.int) = some ns
  | [] => rfl
  | n :: ns => by
    show (intsOf (ns.map D.int)).map (n :: ·) = _
    rw [intsOf_map ns]
    rfl
theorem intsOf_some : ∀ {ds : List D} {ns : List Int}, intsOf ds = some ns → ds = ns.map D.int
  | [], _, e => by cases e; rfl
  | d :: ds, ns, e => by
    cases d <;> try cases e
    simp only [intsOf] at e
    cases q : intsOf ds with
    | none => rw [q] at e; cases e
    | some ms =>
      rw [q] at e
      cases e
      rw [intsOf_some q]
      rfl
theorem blsOf_map : ∀ ns : List Bool, blsOf (ns.map D.bl) = some ns
  | [] => rfl
  | n :: ns => by
    show (blsOf (ns.map D.bl)).map (n :: ·) = _
    rw [blsOf_map ns]
    rfl
theorem blsOf_some : ∀ {ds : List D} {ns : List Bool}, blsOf ds = some ns → ds = ns.map D.bl
  | [], _, e => by cases e; rfl
  | d :: ds, ns, e => by
    cases d <;> try cases e
    simp only [blsOf] at e
    cases q : blsOf ds with
    | none => rw [q] at e; cases e
    | some ms =>
      rw [q] at e
      cases e
      rw [blsOf_some q]
      rfl
def maxI : List Int → Option Int
  | [] => none
  | [x] => some x
  | x :: xs => (maxI xs).map fun m => if m < x then x else m
theorem maxI_ok : ∀ {ns : List Int} {m : Int}, maxI ns = some m → m ∈ ns ∧ ∀ y ∈ ns, y ≤ m
  | [], _, e => by cases e
  | [x], m, e => by
    cases e
    exact ⟨List.mem_singleton.mpr rfl, fun y hy => by rw [List.mem_singleton.mp hy]; exact Int.le_refl _⟩
  | x :: y :: xs, m, e => by
    simp only [maxI] at e
    cases q : maxI (y :: xs) with
    | none => rw [show (maxI (y :: xs)) = none from q] at e; cases e
    | some k =>
      have e : (maxI (y :: xs)).map (fun m => if m < x then x else m) = some m := e
      rw [q] at e
      obtain ⟨h1, h2⟩ := maxI_ok q
      cases e
      show (if k < x then x else k) ∈ x :: y :: xs ∧ ∀ z ∈ x :: y :: xs, z ≤ (if k < x then x else k)
      by_cases hk : k < x
      · rw [if_pos hk]
        exact ⟨List.mem_cons_self, fun z hz => (List.mem_cons.mp hz).elim (fun e => by rw [e]; exact Int.le_refl _) fun hz => Int.le_trans (h2 z hz) (Int.le_of_lt hk)⟩
      · rw [if_neg hk]
        exact ⟨List.mem_cons_of_mem _ h1, fun z hz => (List.mem_cons.mp hz).elim (fun e => by rw [e]; omega) fun hz => h2 z hz⟩
def maxD (ds : List D) (_ : Store) : Option D := match ds with
  | [.lst xs] => ((intsOf xs).bind maxI).map .int
  | _ => none
def sumD (ds : List D) (_ : Store) : Option D := match ds with
  | [.lst xs] => (intsOf xs).map fun ns => .int ns.sum
  | _ => none
def allD (ds : List D) (_ : Store) : Option D := match ds with
  | [.lst xs] => (blsOf xs).map fun ns => .bl (ns.all id)
  | _ => none
def anyD (ds : List D) (_ : Store) : Option D := match ds with
  | [.lst xs] => (blsOf xs).map fun ns => .bl (ns.any id)
  | _ => none
def tupD (ds : List D) (S : Store) : Option D := match ds with
  | [.lst xs] => some (.tup xs)
  | [.tup xs] => some (.tup xs)
  | [.loc n] => match S[n]? with
    | some (.lst xs) => some (.tup xs)
    | _ => none
  | _ => none
def lstD (ds : List D) (S : Store) : Option D := match ds with
  | [.lst xs] => some (.lst xs)
  | [.tup xs] => some (.lst xs)
  | [.loc n] => match S[n]? with
    | some (.lst xs) => some (.lst xs)
    | _ => none
  | _ => none
section
variable {X : Cx} {K : PySem.W.Frag} {mg : Str → Option Value}
theorem RepL.one {T : Tb} {H : Hp} {vs : List V} {d : D} (h : RepL K T H vs [d]) : ∃ v, vs = [v] ∧ Rep K T H v d := by
  cases h with
  | cons r q =>
    cases q
    exact ⟨_, rfl, r⟩
theorem pok_len : POk K mg (fun xs H Q => ∃ x n, xs = [x] ∧ LenV K x H n ∧ Q (.int n) H) lenD := fun T S H vs ds d Q sim rep e k => by
  unfold lenD at e
  split at e
  · rename_i xs
    cases e
    obtain ⟨v, rfl, r⟩ := rep.one
    cases r with
    | lst h n q => exact ⟨_, _, rfl, .inl ⟨_, SqL.of h, q.length.symm⟩, k H _ (Step.refl T H) sim (.int _)⟩
  · rename_i xs
    cases e
    obtain ⟨v, rfl, r⟩ := rep.one
    cases r with
    | tup h n q => exact ⟨_, _, rfl, .inr ⟨_, SqT.of h, q.length.symm⟩, k H _ (Step.refl T H) sim (.int _)⟩
  · rename_i xs
    cases e
    obtain ⟨v, rfl, r⟩ := rep.one
    cases r with
    | scr h => exact ⟨_, _, rfl, .inl ⟨_, h.sq, (List.length_map ..).symm⟩, k H _ (Step.refl T H) sim (.int _)⟩
  · rename_i x
    obtain ⟨v, rfl, r⟩ := rep.one
    split at e
    · rename_i hz
      cases e
      cases r
      exact ⟨_, _, rfl, ⟨sz5 hz, rfl⟩, k H _ (Step.refl T H) sim (.int _)⟩
    · cases e
  · rename_i n
    obtain ⟨v, rfl, r⟩ := rep.one
    split at e
    · rename_i xs q
      cases e
      cases r with
      | loc hn =>
        obtain ⟨ys, q1, q2⟩ := sim.obj _ _ _ hn q
        exact ⟨_, _, rfl, .inl ⟨_, SqL.of q1, q2.length.symm⟩, k H _ (Step.refl T H) sim (.int _)⟩
    · cases e
  · cases e
theorem pok_abs : POk K mg (fun xs H Q => ∃ i, xs = [.int i] ∧ Q (.int (if i < 0 then -i else i)) H) absD := fun T S H vs ds d Q sim rep e k => by
  unfold absD at e
  split at e
  · cases e
    obtain ⟨v, rfl, r⟩ := rep.one
    exact ⟨_, by rw [r.int_of], k H _ (Step.refl T H) sim (.int _)⟩
  · cases e
theorem pok_int : POk K mg (fun xs H Q => (∃ i, xs = [.int i] ∧ Q (.int i) H) ∨ ∃ k, xs = [.bl k] ∧ Q (.int (if k then 1 else 0)) H) intD := fun T S H vs ds d Q sim rep e k => by
  unfold intD at e
  split at e
  · cases e
    obtain ⟨v, rfl, r⟩ := rep.one
    exact .inl ⟨_, by rw [r.int_of], k H _ (Step.refl T H) sim (.int _)⟩
  · cases e
    obtain ⟨v, rfl, r⟩ := rep.one
    exact .inr ⟨_, by rw [r.bl_of], k H _ (Step.refl T H) sim (.int _)⟩
  · cases e
theorem pok_max : POk K mg (rMax K) maxD := fun T S H vs ds d Q sim rep e k => by
  unfold maxD at e
  split at e
  · rename_i xs
    obtain ⟨v, rfl, r⟩ := rep.one
    cases q : intsOf xs with
    | none => rw [q] at e; cases e
    | some ns =>
      rw [q] at e
      have e : (maxI ns).map D.int = some d := e
      cases q2 : maxI ns with
      | none => rw [q2] at e; cases e
      | some m =>
        rw [q2] at e
        cases e
        have e3 := intsOf_some q
        subst e3
        obtain ⟨h1, h2⟩ := maxI_ok q2
        cases r with
        | lst h n r =>
          rw [r.of_ints] at h
          refine ⟨_, ns, rfl, SqL.of h, List.length_pos_of_mem h1, fun m' h3 h4 => ?_⟩
          have e5 : m' = m := Int.le_antisymm (h2 m' h3) (h4 m h1)
          subst e5
          exact k H _ (Step.refl T H) sim (.int _)
  · cases e
theorem pok_sum : POk K mg (rSum K) sumD := fun T S H vs ds d Q sim rep e k => by
  unfold sumD at e
  split at e
  · rename_i xs
    obtain ⟨v, rfl, r⟩ := rep.one
    cases q : intsOf xs with
    | none => rw [q] at e; cases e
    | some ns =>
      rw [q] at e
      cases e
      have e3 := intsOf_some q
      subst e3
      cases r with
      | lst h n r =>
        rw [r.of_ints] at h
        exact ⟨_, ns, rfl, SqL.of h, k H _ (Step.refl T H) sim (.int _)⟩
  · cases e
theorem pok_all : POk K mg (rAll K) allD := fun T S H vs ds d Q sim rep e k => by
  unfold allD at e
  split at e
  · rename_i xs
    obtain ⟨v, rfl, r⟩ := rep.one
    cases q : blsOf xs with
    | none => rw [q] at e; cases e
    | some ns =>
      rw [q] at e
      cases e
      have e3 := blsOf_some q
      subst e3
      cases r with
      | lst h n r =>
        rw [r.of_bls] at h
        exact ⟨_, ns, rfl, SqL.of h, k H _ (Step.refl T H) sim (.bl _)⟩
  · cases e
theorem pok_any : POk K mg (rAny K) anyD := fun T S H vs ds d Q sim rep e k => by
  unfold anyD at e
  split at e
  · rename_i xs
    obtain ⟨v, rfl, r⟩ := rep.one
    cases q : blsOf xs with
    | none => rw [q] at e; cases e
    | some ns =>
      rw [q] at e
      cases e
      have e3 := blsOf_some q
      subst e3
      cases r with
      | lst h n r =>
        rw [r.of_bls] at h
        exact ⟨_, ns, rfl, SqL.of h, k H _ (Step.refl T H) sim (.bl _)⟩
  · cases e
theorem pok_tup : POk K mg (fun xs H Q => ∃ p ys, xs = [.ref p] ∧ ((SqL K H p ys ∧ ∀ l, H l = none → Q (.ref l) (upd H l (.tup ys))) ∨ (SqT K H p ys ∧ Q (.ref p) H))) tupD := fun T S H vs ds d Q sim rep e k => by
  have mk : ∀ {a : Addr} {xs : List V} {es : List D}, H a = some (.lst xs) → RepL K T H xs es → d = .tup es → ∃ p ys, [V.ref a] = [.ref p] ∧ ((SqL K H p ys ∧ ∀ l, H l = none → Q (.ref l) (upd H l (.tup ys))) ∨ (SqT K H p ys ∧ Q (.ref p) H)) := fun {a xs es} h r ed => by
    subst ed
    refine ⟨a, xs, rfl, .inl ⟨SqL.of h, fun p hp => ?_⟩⟩
    have st := sim.stepNew (o := .tup xs) hp
    exact k _ _ st (sim.new hp (hlen_tup sim.hl (sim.hl _ _ (.inl (.inl h))))) (.tup upd_same (sim.off hp) (r.step st))
  unfold tupD at e
  split at e
  · cases e
    obtain ⟨v, rfl, r⟩ := rep.one
    cases r with
    | lst h n r => exact mk h r rfl
  · cases e
    obtain ⟨v, rfl, r⟩ := rep.one
    cases r with
    | tup h n r => exact ⟨_, _, rfl, .inr ⟨SqT.of h, k H _ (Step.refl T H) sim (.tup h n r)⟩⟩
  · obtain ⟨v, rfl, r⟩ := rep.one
    split at e
    · rename_i xs q
      cases e
      cases r with
      | loc hn =>
        obtain ⟨ys, q1, q2⟩ := sim.obj _ _ _ hn q
        exact mk q1 q2 rfl
    · cases e
  · cases e
theorem pok_lst : POk K mg (fun xs H Q => ∃ p ys, xs = [.ref p] ∧ (SqL K H p ys ∨ SqT K H p ys) ∧ ∀ l, H l = none → Q (.ref l) (upd H l (.lst ys))) lstD := fun T S H vs ds d Q sim rep e k => by
  have mk : ∀ {xs : List V} {es : List D}, xs.length ≤ sizeLine → RepL K T H xs es → d = .lst es → ∀ l, H l = none → Q (.ref l) (upd H l (.lst xs)) := fun {xs es} hz r ed p hp => by
    subst ed
    have st := sim.stepNew (o := .lst xs) hp
    exact k _ _ st (sim.new hp (hlen_lst sim.hl hz)) (.lst upd_same (sim.off hp) (r.step st))
  unfold lstD at e
  split at e
  · cases e
    obtain ⟨v, rfl, r⟩ := rep.one
    cases r with
    | lst h n r => exact ⟨_, _, rfl, .inl (SqL.of h), mk (sim.hl _ _ (.inl (.inl h))) r rfl⟩
  · cases e
    obtain ⟨v, rfl, r⟩ := rep.one
    cases r with
    | tup h n r => exact ⟨_, _, rfl, .inr (SqT.of h), mk (sim.hl _ _ (.inr (.inl h))) r rfl⟩
  · obtain ⟨v, rfl, r⟩ := rep.one
    split at e
    · rename_i xs q
      cases e
      cases r with
      | loc hn =>
        obtain ⟨ys, q1, q2⟩ := sim.obj _ _ _ hn q
        exact ⟨_, _, rfl, .inl (SqL.of q1), mk (sim.hl _ _ (.inl (.inl q1))) q2 rfl⟩
    · cases e
  · cases e
end
/-! ### isinstance -/
def tyN (d : D) : Option String := match d with
  | .non => some "NoneType"
  | .bl _ => some "bool"
  | .int _ => some "int"
  | .str _ => some "str"
  | .tup _ => some "tuple"
  | .lst _ => some "list"
  | _ => none
def isiD (ds : List D) (_ : Store) : Option D := match ds with
  | [d, .ty n] => ((tyN d).bind fun t => kitB t n).map .bl
  | _ => none
section
variable {X : Cx} {K : PySem.W.Frag} {mg : Str → Option Value} {Wx : WX}
theorem Rep.tyx {T : Tb} {H : Hp} {v : V} {d : D} {t : String} (h : Rep K T H v d) (e : tyN d = some t) : TyX K H v (.type t) := by
  cases h <;> cases e
  · exact .base .non
  · exact .base (.bl _)
  · exact .base (.int _)
  · exact .base (.str _)
  · rename_i h n r
    exact .base (.tup h)
  · rename_i h n r
    exact .base (.lst h)
theorem pok_isi : POk K mg (rIsi K) isiD := fun T S H vs ds d Q sim rep e k => by
  unfold isiD at e
  split at e
  · rename_i x n
    cases rep with
    | cons r1 q =>
      cases q with
      | cons r2 q =>
        cases q
        cases q1 : tyN x with
        | none => rw [q1] at e; cases e
        | some t =>
          rw [q1] at e
          have e : (kitB t n).map D.bl = some d := e
          cases q2 : kitB t n with
          | none => rw [q2] at e; cases e
          | some b =>
            rw [q2] at e
            cases e
            cases r2
            exact ⟨_, _, _, _, b, rfl, .ty n, r1.tyx q1, kit_ty q2, k H _ (Step.refl T H) sim (.bl _)⟩
  · cases e
theorem j_ty {x : Str} {n : String} {pos : Pos} (hg : Gl X x) (hm : X.mg x = none) (hv : bootBuiltins x = some (.type n)) (hn : x ≠ "__name__" := by decide) (hd : (x == ("__debug__" : Str)) = false := by decide) : PE X (.Name x pos) (tD X.K X.mg Wx (mC (.ty n))) :=
  j_c (pe_bltn (v := .ty n) hg hm hv rfl hn hd) fun _ _ => .ty n
end
/-! ### places -/
def ixD (a b : D) (S : Store) : Option D := match a, b with
  | .lst xs, .int i => atI xs i
  | .tup xs, .int i => atI xs i
  | .scr ns, .int i => (atI ns i).map .int
  | .str x, .int i => if x.length ≤ 100000 then (atI x.cps.toList i).map chD else none
  | .loc n, .int i => match S[n]? with
    | some (.lst xs) => atI xs i
    | _ => none
  | _, _ => none
section
variable {X : Cx} {K : PySem.W.Frag} {mg : Str → Option Value} {Wx : WX}
theorem atI_rep {T : Tb} {H : Hp} {vs : List V} {ds : List D} {i : Int} {d : D} (h : RepL K T H vs ds) (e : atI ds i = some d) : ∃ v, atI vs i = some v ∧ Rep K T H v d := by
  unfold atI at e ⊢
  rw [h.length]
  cases q : ixN ds.length i with
  | none => rw [q] at e; cases e
  | some j =>
    rw [q] at e
    exact h.get e
theorem atI_map {α β : Type} (f : α → β) (xs : List α) (i : Int) : atI (xs.map f) i = (atI xs i).map f := by
  unfold atI
  rw [List.length_map]
  cases ixN xs.length i with
  | none => rfl
  | some j => exact List.getElem?_map
theorem pok_ix : POk2 K mg (rIx K) ixD := fun T S H x y a b d Q sim rx ry e k => by
  cases ry <;> try (cases a <;> cases e)
  rename_i i
  cases rx <;> try cases e
  · rename_i x
    simp only [ixD] at e
    split at e
    · rename_i hz
      cases q : atI x.cps.toList i with
      | none => rw [q] at e; cases e
      | some c =>
        rw [q] at e
        cases e
        exact .inr (.inr ⟨x, i, c, rfl, rfl, sz5 hz, q, k H _ (Step.refl T H) sim (.str _)⟩)
    · cases e
  · rename_i a xs ds h n r
    obtain ⟨v, h1, h2⟩ := atI_rep r e
    exact .inr (.inl ⟨a, xs, i, v, rfl, rfl, SqT.of h, h1, k H _ (Step.refl T H) sim h2⟩)
  · rename_i a xs ds h n r
    obtain ⟨v, h1, h2⟩ := atI_rep r e
    exact .inl ⟨a, xs, i, v, rfl, rfl, SqL.of h, h1, k H _ (Step.refl T H) sim h2⟩
  · rename_i a ns h
    simp only [ixD] at e
    cases q : atI ns i with
    | none => rw [q] at e; cases e
    | some c =>
      rw [q] at e
      cases e
      exact .inl ⟨a, _, i, .int c, rfl, rfl, h.sq, by rw [atI_map, q]; rfl, k H _ (Step.refl T H) sim (.int _)⟩
  · rename_i a n hn
    simp only [ixD] at e
    split at e
    · rename_i xs q
      obtain ⟨ys, q1, q2⟩ := sim.obj _ _ _ hn q
      obtain ⟨v, h1, h2⟩ := atI_rep q2 e
      exact .inl ⟨a, ys, i, v, rfl, rfl, SqL.of q1, h1, k H _ (Step.refl T H) sim h2⟩
    · cases e
end
/-! ### slices -/
abbrev OM := Env → Store → R (Option Int)
def mNoP : OM := fun _ S => .ok none S
def mP (m : EM) : OM := fun r S => (m r S).bind fun d S1 => match d with
  | .int i => .ok (some i) S1
  | _ => .bad
def cutL {α : Type} (xs : List α) (lo hi : Option Int) : List α := (xs.drop (HT.sIx xs.length 0 lo)).take (HT.sIx xs.length xs.length hi - HT.sIx xs.length 0 lo)
def slD (d : D) (lo hi : Option Int) (S : Store) : Option D := match d with
  | .lst xs => some (.lst (cutL xs lo hi))
  | .tup xs => some (.tup (cutL xs lo hi))
  | .loc n => match S[n]? with
    | some (.lst xs) => some (.lst (cutL xs lo hi))
    | _ => none
  | _ => none
def mSl (m : EM) (ml mh : OM) : EM := fun r S => (m r S).bind fun d S1 => (ml r S1).bind fun lo S2 => (mh r S2).bind fun hi S3 => ofO (slD d lo hi S3) S3
def tDO (K : PySem.W.Frag) (mg : Str → Option Value) (Wx : WX) (m : OM) : TO := fun g H Q => ∃ T r S, RepSt K T H r g ∧ Sim K mg T S H ∧ Out K mg Wx (fun _ _ v d => v = d) T g H (m r S) Q
section
variable {X : Cx} {K : PySem.W.Frag} {mg : Str → Option Value} {Wx : WX} {e : Expr} {m : EM} {ml mh : OM} {pos p2 : Pos} {lo hi : Option Expr}
theorem po_imp {e : Option Expr} {t t' : TO} (h : PO X e t) (i : ∀ g H Q, t' g H Q → t g H Q) : PO X e t' := ⟨fun pins s g H Q I w => h.run pins s g H Q I (i g H Q w)⟩
theorem jo_none : PO X none (tDO X.K X.mg Wx mNoP) := po_imp po_none fun g H Q h => by
  obtain ⟨T, r, S, rs, sim, h⟩ := h
  exact h T H none (Step.refl T H) sim rfl
theorem jo_some (h : PE X e (tD X.K X.mg Wx m)) : PO X (some e) (tDO X.K X.mg Wx (mP m)) := po_imp (po_some h) fun g H Q h => by
  obtain ⟨T, r, S, rs, sim, h⟩ := h
  refine ⟨T, r, S, rs, sim, Out.bind h fun d S1 T1 H1 v st sim1 rel h1 => ?_⟩
  cases d with
  | int i =>
    rw [rel.int_of]
    exact ⟨i, rfl, h1 T1 H1 _ (Step.refl T1 H1) sim1 rfl⟩
  | _ => exact h1.elim
theorem cut_rep {T : Tb} {H : Hp} {vs : List V} {ds : List D} (lo hi : Option Int) (h : RepL K T H vs ds) : RepL K T H (cutV vs lo hi) (cutL ds lo hi) := by
  unfold cutV cutL
  rw [h.length]
  exact (h.drop _).take _
theorem cut_whole {α : Type} {xs : List α} {lo hi : Option Int} (h : HT.sIx xs.length 0 lo = 0 ∧ HT.sIx xs.length xs.length hi = xs.length) : cutL xs lo hi = xs := by
  unfold cutL
  rw [h.1, h.2, Nat.sub_zero, List.drop_zero, List.take_length]
def rSlB (K : PySem.W.Frag) : V → Option Int → Option Int → Hp → VK → Prop := fun x lo hi H Q => rSlL K x lo hi H Q ∨ rSlA K x lo hi H Q
theorem sl_B : SlR X (rSlB X.K) := sl_list.or sl_tupA
theorem sl_ok {T : Tb} {S : Store} {H : Hp} {v : V} {d d' : D} {lo hi : Option Int} {Q : VK} (sim : Sim K mg T S H) (h : Rep K T H v d) (e : slD d lo hi S = some d') (k : ∀ H' v, Step T H T H' → Sim K mg T S H' → Rep K T H' v d' → Q v H') : rSlB K v lo hi H Q := by
  have mk : ∀ {a : Addr} {xs : List V} {es : List D}, H a = some (.lst xs) → RepL K T H xs es → d' = .lst (cutL es lo hi) → rSlB K (.ref a) lo hi H Q := fun {a xs es} h r ed => by
    subst ed
    refine .inl ⟨a, xs, rfl, SqL.of h, fun p hp => ?_⟩
    have st := sim.stepNew (o := .lst (cutV xs lo hi)) hp
    exact k _ _ st (sim.new hp (hlen_lst sim.hl (Nat.le_trans (cutV_length _ _ _) (sim.hl _ _ (.inl (.inl h)))))) (.lst upd_same (sim.off hp) ((cut_rep lo hi r).step st))
  cases h <;> try cases e
  · rename_i a xs ds h n r
    refine .inr ⟨a, xs, rfl, SqT.of h, fun q => ?_, fun q p hp => ?_⟩
    · refine k H _ (Step.refl T H) sim ?_
      rw [r.length] at q
      rw [cut_whole q]
      exact .tup h n r
    · have st := sim.stepNew (o := .tup (cutV xs lo hi)) hp
      exact k _ _ st (sim.new hp (hlen_tup sim.hl (Nat.le_trans (cutV_length _ _ _) (sim.hl _ _ (.inr (.inl h)))))) (.tup upd_same (sim.off hp) ((cut_rep lo hi r).step st))
  · rename_i a xs ds h n r
    exact mk h r rfl
  · rename_i a n hn
    simp only [slD] at e
    split at e
    · rename_i xs q
      cases e
      obtain ⟨ys, q1, q2⟩ := sim.obj _ _ _ hn q
      exact mk q1 q2 rfl
    · cases e
theorem j_slice (he : PE X e (tD X.K X.mg Wx m)) (hl : PO X lo (tDO X.K X.mg Wx ml)) (hu : PO X hi (tDO X.K X.mg Wx mh)) : PE X (.Subscript e (.Slice lo hi none p2) pos) (tD X.K X.mg Wx (mSl m ml mh)) :=
  pe_imp (pe_slice sl_B he hl hu) fun g H Q h => by
    obtain ⟨T, r, S, rs, sim, h⟩ := h
    refine ⟨T, r, S, rs, sim, Out.bind h fun d S1 T1 H1 v st sim1 rel h1 => ?_⟩
    refine ⟨T1, r, S1, rs.step st, sim1, Out.bind h1 fun l S2 T2 H2 lv st2 sim2 rel2 h2 => ?_⟩
    subst rel2
    refine ⟨T2, r, S2, (rs.step st).step st2, sim2, Out.bind h2 fun u S3 T3 H3 uv st3 sim3 rel3 h3 => ?_⟩
    subst rel3
    exact Out.use h3 fun d' e k => sl_ok sim3 (rel.step (st2.trans st3)) e fun H' v' s' => k T3 H' v' s'
end
/-! ### things of the store change -/
def isLoc (o : D) (S : Store) : Bool := match o with
  | .loc n => match S[n]? with
    | some (.lst _) => true
    | _ => false
  | _ => false
def appD (o d : D) (S : Store) : R D := match o with
  | .loc n => match S[n]? with
    | some (.lst xs) => if xs.length < 100000 then .ok .non (S.set n (.lst (xs ++ [d]))) else .bad
    | _ => .bad
  | _ => .bad
def mAppend (mo m : EM) : EM := fun r S => (mo r S).bind fun o S1 => if isLoc o S1 = true then (m r S1).bind fun d S2 => appD o d S2 else .bad
def popD (o : D) (S : Store) : R D := match o with
  | .loc n => match S[n]? with
    | some (.lst xs) => match xs[xs.length - 1]? with
      | some d => .ok d (S.set n (.lst xs.dropLast))
      | none => .bad
    | _ => .bad
  | _ => .bad
def mPop (mo : EM) : EM := fun r S => (mo r S).bind fun o S1 => popD o S1
def putD (o i d : D) (r : Env) (S : Store) : Z := match o, i with
  | .loc n, .int k => match S[n]? with
    | some (.lst xs) => match ixN xs.length k with
      | some j => .ok .next r (S.set n (.lst (xs.set j d)))
      | none => .bad
    | _ => .bad
  | _, _ => .bad
/-- xs[i] = v -/
def sSetIx (mo mi m : EM) : SM := fun r S => bindS (m r S) r fun d S1 => bindS (mo r S1) r fun o S2 => bindS (mi r S2) r fun i S3 => putD o i d r S3
def ipD (f : Int → Int → Int) (x y : D) : Option D := match x, y with
  | .int a, .int b => some (.int (f a b))
  | _, _ => none
def getL (o i : D) (S : Store) : Option D := match o, i with
  | .loc n, .int k => match S[n]? with
    | some (.lst xs) => if 0 ≤ k then xs[k.toNat]? else none
    | _ => none
  | _, _ => none
/-- xs[i] += e, whole numbers -/
def sAugIx (f : Int → Int → Int) (mo mi m : EM) : SM := fun r S => bindS (mo r S) r fun o S1 => bindS (mi r S1) r fun i S2 => bindS (ofO (getL o i S2) S2) r fun x S3 => bindS (m r S3) r fun y S4 => bindS (ofO (ipD f x y) S4) r fun z S5 => putD o i z r S5
section
variable {X : Cx} {Wx : WX} {o e i : Expr} {mo mi m : EM} {pos apos tpos : Pos} {K : PySem.W.Frag} {mg : Str → Option Value}
theorem loc_of {T : Tb} {S : Store} {H : Hp} {v : V} {n : Nat} {o : O} (sim : Sim K mg T S H) (h : Rep K T H v (.loc n)) (e : S[n]? = some o) : ∃ a, v = .ref a ∧ T.loc[n]? = some a ∧ ORep K mg T H a o := by
  cases h with
  | loc hn => exact ⟨_, rfl, hn, sim.obj _ _ _ hn e⟩
theorem lst_set {T : Tb} {S : Store} {H : Hp} {a : Addr} {n : Nat} {xs : List V} {ds : List D} (sim : Sim K mg T S H) (hn : T.loc[n]? = some a) (hz : xs.length ≤ sizeLine) (r : RepL K T H xs ds) :
    Step T H T (upd H a (.lst xs)) ∧ Sim K mg T (S.set n (.lst ds)) (upd H a (.lst xs)) := by
  have st := sim.stepSet (u := .lst xs) (List.mem_of_getElem? hn)
  exact ⟨st, sim.set hn (hlen_lst sim.hl hz) ⟨xs, upd_same, r.step st⟩⟩
theorem isLoc_ty {T : Tb} {S : Store} {H : Hp} {v : V} {d : D} (sim : Sim K mg T S H) (h : Rep K T H v d) (e : isLoc d S = true) : tyV K "list" v H := by
  unfold isLoc at e
  split at e
  · rename_i n
    split at e
    · rename_i xs q
      obtain ⟨a, rfl, hn, ys, q1, q2⟩ := loc_of sim h q
      exact .inl ⟨rfl, ys, SqL.of q1⟩
    · cases e
  · cases e
theorem j_append (ho : PE X o (tD X.K X.mg Wx mo)) (ha : PE X e (tD X.K X.mg Wx m)) (hbase : attributeBase o "append" X.env (eval o X.env) = eval o X.env := by rfl)
    (hfew : ((backTo pos (starEach [e] X.env)).all (fun x => !x.1) && (backToKw pos (keywordEach [] X.env)).all (fun x => x.1.isSome) && decide (([e] : List Expr).length + ([] : List Keyword).length + (if ([] : List Keyword).isEmpty then 0 else 1) < 30)) = true := by rfl)
    (hline : (apos.endLine == pos.line) = true := by rfl) (hs : starEach [e] X.env = (false, eval e X.env) :: starEach [] X.env := by rfl) (hplain : (backTo pos (starEach [] X.env)).any (·.1) = false := by rfl) :
    PE X (.Call (.Attribute o "append" apos) [e] [] pos) (tD X.K X.mg Wx (mAppend mo m)) :=
  pe_imp (pe_bm PySem.F.plainAttrs_list PySem.F.slot_list_append PySem.F.type_list_append mt_append ho (pa_cons ha pa_nil hs) hbase hfew hline hs hplain) fun g H Q h => by
    obtain ⟨T, r, S, rs, sim, h⟩ := h
    refine ⟨T, r, S, rs, sim, Out.bind h fun d S1 T1 H1 v st sim1 rel h1 => ?_⟩
    split at h1
    · rename_i hl
      refine ⟨isLoc_ty sim1 rel hl, T1, r, S1, rs.step st, sim1, Out.bind h1 fun y S2 T2 H2 w st2 sim2 rel2 h2 => ?_⟩
      unfold appD at h2
      split at h2
      · rename_i n
        split at h2
        · rename_i xs q
          split at h2
          · rename_i hz
            obtain ⟨a, rfl, hn, ys, q1, q2⟩ := loc_of sim2 (rel.step st2) q
            have hl' : ys.length < sizeLine := by rw [q2.length]; exact Nat.lt_of_lt_of_le hz (by decide)
            obtain ⟨st3, sim3⟩ := lst_set (xs := ys ++ [w]) (ds := xs ++ [y]) sim2 hn (by rw [List.length_append, List.length_singleton]; omega) (RepL.append q2 (.cons rel2 .nil))
            exact ⟨a, ys, w, rfl, rfl, q1, hl', h2 T2 _ _ st3 sim3 .non⟩
          · exact h2.elim
        · exact h2.elim
      · exact h2.elim
    · exact h1.elim
theorem RepL.dropLast {T : Tb} {H : Hp} {vs : List V} {ds : List D} (h : RepL K T H vs ds) : RepL K T H vs.dropLast ds.dropLast := by
  rw [List.dropLast_eq_take, List.dropLast_eq_take, h.length]
  exact h.take _
theorem j_pop (ho : PE X o (tD X.K X.mg Wx mo)) (hbase : attributeBase o "pop" X.env (eval o X.env) = eval o X.env := by rfl) (hline : (apos.endLine == pos.line) = true := by rfl) :
    PE X (.Call (.Attribute o "pop" apos) [] [] pos) (tD X.K X.mg Wx (mPop mo)) :=
  pe_imp (pe_bm0 PySem.F.plainAttrs_list PySem.F.slot_list_pop PySem.F.type_list_pop mt_pop ho hbase hline) fun g H Q h => by
    obtain ⟨T, r, S, rs, sim, h⟩ := h
    refine ⟨T, r, S, rs, sim, Out.bind h fun d S1 T1 H1 v st sim1 rel h1 => ?_⟩
    unfold popD at h1
    split at h1
    · rename_i n
      split at h1
      · rename_i xs q
        split at h1
        · rename_i y ey
          obtain ⟨a, rfl, hn, ys, q1, q2⟩ := loc_of sim1 rel q
          obtain ⟨w, e1, e2⟩ := q2.get ey
          have hz : ys.dropLast.length ≤ sizeLine := by
            have := sim1.hl a ys (.inl (.inl q1))
            rw [List.length_dropLast]
            omega
          obtain ⟨st3, sim3⟩ := lst_set sim1 hn hz q2.dropLast
          exact ⟨.inl ⟨rfl, ys, SqL.of q1⟩, a, ys, w, rfl, rfl, q1, by rw [q2.length]; exact e1, h1 T1 _ _ st3 sim3 (e2.step st3)⟩
        · exact h1.elim
      · exact h1.elim
    · exact h1.elim
theorem putD_ok {T : Tb} {S : Store} {H : Hp} {r : Env} {E : Ends} {g : St} {ov iv v : V} {o i d : D} (sim : Sim K mg T S H) (rs : RepSt K T H r g) (h1 : Rep K T H ov o) (h2 : Rep K T H iv i) (h3 : Rep K T H v d) (h : ZOut K mg Wx T H (putD o i d r S) E) :
    rSetL ov iv v H fun H4 => E.nx g H4 := by
  unfold putD at h
  split at h
  · rename_i n k
    split at h
    · rename_i xs q
      split at h
      · rename_i j ej
        obtain ⟨a, rfl, hn, ys, q1, q2⟩ := loc_of sim h1 q
        obtain ⟨st3, sim3⟩ := lst_set sim hn (by rw [List.length_set]; exact sim.hl a ys (.inl (.inl q1))) (q2.set h3 j)
        exact ⟨a, ys, k, j, rfl, h2.int_of, q1, by rw [q2.length]; exact ej, h T _ g st3 sim3 (rs.step st3)⟩
      · exact h.elim
    · exact h.elim
  · exact h.elim
theorem js_setIx {hv : Expr} {mv : EM} (he : PE X hv (tD X.K X.mg Wx mv)) (ho : PE X o (tD X.K X.mg Wx mo)) (hi : PE X i (tD X.K X.mg Wx mi))
    (ha : ∀ v, assign (.Subscript o i tpos) X.env v = (do
      let ov ← holding [v] (eval o X.env)
      let iv ← holding [v, ov] (eval i X.env)
      standAt tpos
      holding [v, ov, iv] (setItem ov iv v)
      release [v, ov, iv] []) := by intro _; rfl)
    (hs : swapsWithSole [.Subscript o i tpos] hv pos.line X.env = pure false := by rfl) (hw : swappedStores [.Subscript o i tpos] hv X.env = pure none := by rfl)
    (h1 : (assignEach [.Subscript o i tpos] X.env).map (·.2) = [assign (.Subscript o i tpos) X.env] := by rfl) : PS X (.Assign [.Subscript o i tpos] hv pos) (tDS X.K X.mg Wx (sSetIx mo mi mv)) :=
  ps_imp (ps_asg he (pg_sub ho hi set_list ha) hs hw h1) fun E g H h => by
    obtain ⟨T, r, S, rs, sim, h⟩ := h
    refine ⟨T, r, S, rs, sim, ZOut.bind h rs fun d S1 T1 H1 v st sim1 rel rs1 h1 => ?_⟩
    refine ⟨T1, r, S1, rs1, sim1, ZOut.bind h1 rs1 fun ov S2 T2 H2 x st2 sim2 rel2 rs2 h2 => ?_⟩
    refine ⟨T2, r, S2, rs2, sim2, ZOut.bind h2 rs2 fun iv S3 T3 H3 y st3 sim3 rel3 rs3 h3 => ?_⟩
    exact putD_ok sim3 rs3 (rel2.step st3) rel3 (rel.step (st2.trans st3)) h3
def rGetL (K : PySem.W.Frag) : V → V → Hp → VK → Prop := fun x y H Q => ∃ p xs k v, x = .ref p ∧ y = .int k ∧ SqL K H p xs ∧ 0 ≤ k ∧ xs[k.toNat]? = some v ∧ Q v H
theorem get_lst : PGet X (rGetL X.K) := fun pins s g H o i ov iv Q I r1 r2 h => by
  obtain ⟨p, xs, k, v, rfl, rfl, hq, h0, hx, q⟩ := h
  cases r1
  obtain ⟨t, rfl⟩ := r2
  obtain ⟨its, rv, pl, hz⟩ := I.list hq
  obtain ⟨u, e1, e2⟩ := rv.get hx
  have hk := (List.getElem?_eq_some_iff.mp hx).1
  have hl := line63
  exact wpAny_getItem_list pl.isList h0 (by omega) (by simpa using e1) ⟨v, H, I, e2, q⟩
theorem js_augIx {op : Operator} {f : Int → Int → Int} (hp : PIp X op (ipI f)) (ho : PE X o (tD X.K X.mg Wx mo)) (hi : PE X i (tD X.K X.mg Wx mi)) (he : PE X e (tD X.K X.mg Wx m))
    (ha : ∀ ov iv new, augStore i ov iv new = (do holding [new, ov, iv] (setItem ov iv new); release [new, ov, iv] []; pure .next) := by intros; rfl) :
    PS X (.AugAssign (.Subscript o i tpos) op e pos) (tDS X.K X.mg Wx (sAugIx f mo mi m)) :=
  ps_imp (ps_augS ho hi get_lst he hp set_list ha) fun E g H h => by
    obtain ⟨T, r, S, rs, sim, h⟩ := h
    refine ⟨T, r, S, rs, sim, ZOut.bind h rs fun ov S1 T1 H1 x st sim1 rel rs1 h1 => ?_⟩
    refine ⟨T1, r, S1, rs1, sim1, ZOut.bind h1 rs1 fun iv S2 T2 H2 y st2 sim2 rel2 rs2 h2 => ?_⟩
    have h2' := ZOut.bind (rel := Rep X.K) h2 rs2 (Q := fun z H3 => tD X.K X.mg Wx m g H3 fun w H4 => ipI f z w H4 fun u H5 => rSetL x y u H5 fun H6 => E.nx g H6) fun xd S3 T3 H3 z st3 sim3 rel3 rs3 h3 => by
      refine ⟨T3, r, S3, rs3, sim3, ZOut.bind h3 rs3 fun yd S4 T4 H4 w st4 sim4 rel4 rs4 h4 => ?_⟩
      have h4' := ZOut.bind (rel := Rep X.K) h4 rs4 (Q := fun u H5 => rSetL x y u H5 fun H6 => E.nx g H6) fun zd S5 T5 H5 u st5 sim5 rel5 rs5 h5 =>
        putD_ok sim5 rs5 (rel.step (((st2.trans st3).trans st4).trans st5)) (rel2.step ((st3.trans st4).trans st5)) rel5 h5
      refine Out.use h4' fun d ed kd => ?_
      cases xd <;> cases yd <;> cases ed
      rw [(rel3.step st4).int_of, rel4.int_of]
      exact ⟨_, _, rfl, rfl, kd T4 H4 _ (Step.refl T4 H4) sim4 (.int _)⟩
    refine Out.use h2' fun d ed kd => ?_
    unfold getL at ed
    split at ed
    · rename_i n k
      split at ed
      · rename_i xs q
        split at ed
        · rename_i h0
          obtain ⟨a, rfl, hn, ys, q1, q2⟩ := loc_of sim2 (rel.step st2) q
          obtain ⟨w, e1, e2⟩ := q2.get ed
          exact ⟨a, ys, k, w, rfl, rel2.int_of, SqL.of q1, h0, e1, kd T2 H2 w (Step.refl T2 H2) sim2 e2⟩
        · cases ed
      · cases ed
    · cases ed
end
end Dv
namespace Dv
open PySem L2
/-! ### own classes -/
def fldD (c f : Str) (d : D) (S : Store) : Option D := match d with
  | .loc n => match S[n]? with
    | some (.ins c' fs) => if c' = c then fs.lookup f else none
    | _ => none
  | _ => none
def mFld (c f : Str) (m : EM) : EM := mUn (fldD c f) m
def putFD (f : Str) (v : D) : List (Str × D) → List (Str × D)
  | [] => [(f, v)]
  | (g, w) :: r => if g = f then (g, v) :: r else (g, w) :: putFD f v r
def setFD (c f : Str) (o v : D) (r : Env) (S : Store) : Z := match o with
  | .loc n => match S[n]? with
    | some (.ins c' fs) => if c' = c ∧ fs.length < 900 then .ok .next r (S.set n (.ins c' (putFD f v fs))) else .bad
    | _ => .bad
  | _ => .bad
def sFldD (c f : Str) (mo m : EM) : SM := fun r S => bindS (m r S) r fun v S1 => bindS (mo r S1) r fun o S2 => setFD c f o v r S2
/-- o.f += e, whole numbers -/
def sFldAugD (c f : Str) (h : Int → Int → Int) (mo m : EM) : SM := fun r S => bindS (mo r S) r fun o S1 => bindS (ofO (fldD c f o S1) S1) r fun x S2 => bindS (m r S2) r fun y S3 => bindS (ofO (ipD h x y) S3) r fun z S4 => setFD c f o z r S4
section
variable {K : PySem.W.Frag} {mg : Str → Option Value} {T : Tb} {H : Hp}
theorem lookup_rep {f : Str} {d : D} : ∀ {fvs : List (Str × V)} {fs : List (Str × D)}, fvs.map (·.1) = fs.map (·.1) → RepL K T H (fvs.map (·.2)) (fs.map (·.2)) → fs.lookup f = some d → ∃ v, fvs.lookup f = some v ∧ Rep K T H v d
  | [], [], _, _, e => by cases e
  | [], _ :: _, q, _, _ => by cases q
  | _ :: _, [], q, _, _ => by cases q
  | (g, w) :: fvs, (g', d') :: fs, q, r, e => by
    injection q with q1 q2
    have q1 : g = g' := q1
    subst q1
    cases r with
    | cons r1 r2 =>
      rw [List.lookup_cons] at e ⊢
      cases hb : (f == g) with
      | true =>
        rw [hb] at e
        cases e
        exact ⟨w, rfl, r1⟩
      | false =>
        rw [hb] at e
        exact lookup_rep q2 r2 e
theorem lookup_none {f : Str} : ∀ {fvs : List (Str × V)} {fs : List (Str × D)}, fvs.map (·.1) = fs.map (·.1) → fs.lookup f = none → fvs.lookup f = none
  | [], _, _, _ => rfl
  | _ :: _, [], q, _ => by cases q
  | (g, w) :: fvs, (g', d') :: fs, q, e => by
    injection q with q1 q2
    have q1 : g = g' := q1
    subst q1
    rw [List.lookup_cons] at e ⊢
    cases hb : (f == g) with
    | true => rw [hb] at e; cases e
    | false =>
      rw [hb] at e
      exact lookup_none q2 e
theorem putF_rep {f : Str} {v : V} {d : D} (hv : Rep K T H v d) : ∀ {fvs : List (Str × V)} {fs : List (Str × D)}, fvs.map (·.1) = fs.map (·.1) → RepL K T H (fvs.map (·.2)) (fs.map (·.2)) →
    (putF f v fvs).map (·.1) = (putFD f d fs).map (·.1) ∧ RepL K T H ((putF f v fvs).map (·.2)) ((putFD f d fs).map (·.2))
  | [], [], _, _ => ⟨rfl, .cons hv .nil⟩
  | [], _ :: _, q, _ => by cases q
  | _ :: _, [], q, _ => by cases q
  | (g, w) :: fvs, (g', d') :: fs, q, r => by
    injection q with q1 q2
    have q1 : g = g' := q1
    subst q1
    cases r with
    | cons r1 r2 =>
      obtain ⟨h1, h2⟩ := putF_rep hv q2 r2
      show ((if g = f then (g, v) :: fvs else (g, w) :: putF f v fvs).map (·.1)) = ((if g = f then (g, d) :: fs else (g, d') :: putFD f d fs).map (·.1)) ∧ RepL K T H ((if g = f then (g, v) :: fvs else (g, w) :: putF f v fvs).map (·.2)) ((if g = f then (g, d) :: fs else (g, d') :: putFD f d fs).map (·.2))
      by_cases hg : g = f
      · rw [if_pos hg, if_pos hg]
        exact ⟨by rw [List.map_cons, List.map_cons, q2], .cons hv r2⟩
      · rw [if_neg hg, if_neg hg]
        exact ⟨by rw [List.map_cons, List.map_cons, h1], .cons r1 h2⟩
end
/-- what is known of a class: it stands at C, plain; its attributes are none of the class's own -/
structure ClsOk (K : PySem.W.Frag) (mg : Str → Option Value) (c : Str) (C : Addr) : Prop where
  at_ : mg c = some (.ref C)
  cls : Cls K C
section
variable {X : Cx} {Wx : WX} {o e : Expr} {c f : Str} {C : Addr} {mo m : EM} {pos pos' tpos : Pos}
theorem ins_of {K : PySem.W.Frag} {mg : Str → Option Value} {T : Tb} {S : Store} {H : Hp} {v : V} {n : Nat} {fs : List (Str × D)} (k : ClsOk K mg c C) (sim : Sim K mg T S H) (h : Rep K T H v (.loc n)) (e : S[n]? = some (.ins c fs)) :
    ∃ a dx fvs, v = .ref a ∧ T.loc[n]? = some a ∧ H a = some (.ins C dx fvs) ∧ fvs.map (·.1) = fs.map (·.1) ∧ RepL K T H (fvs.map (·.2)) (fs.map (·.2)) := by
  obtain ⟨a, rfl, hn, C', dx, fvs, h1, h2, h3, h4⟩ := loc_of sim h e
  rw [k.at_] at h1
  cases h1
  exact ⟨a, dx, fvs, rfl, hn, h2, h3, h4⟩
theorem j_fld (k : ClsOk X.K X.mg c C) (hn : NoAttr X.K C f) (he : PE X o (tD X.K X.mg Wx mo)) (hb : attributeBase o f X.env (eval o X.env) = eval o X.env := by rfl) : PE X (.Attribute o f pos) (tD X.K X.mg Wx (mFld c f mo)) :=
  pe_imp (pe_fld he hb) fun g H Q h => by
    obtain ⟨T, r, S, rs, sim, h⟩ := h
    refine ⟨T, r, S, rs, sim, Out.bind h fun d S1 T1 H1 v st sim1 rel h1 => ?_⟩
    refine Out.use h1 fun d' ed kd => ?_
    unfold fldD at ed
    split at ed
    · rename_i n
      split at ed
      · rename_i c' fs q
        split at ed
        · rename_i hc
          subst hc
          obtain ⟨a, dx, fvs, rfl, hn', h2, h3, h4⟩ := ins_of k sim1 rel q
          obtain ⟨w, e1, e2⟩ := lookup_rep h3 h4 ed
          exact ⟨a, C, dx, fvs, w, rfl, h2, k.cls, hn, e1, kd T1 H1 w (Step.refl T1 H1) sim1 e2⟩
        · cases ed
      · cases ed
    · cases ed
theorem setFD_ok {K : PySem.W.Frag} {mg : Str → Option Value} {T : Tb} {S : Store} {H : Hp} {r : Env} {E : Ends} {g : St} {ov v : V} {o d : D} (k : ClsOk K mg c C) (sim : Sim K mg T S H) (rs : RepSt K T H r g) (h1 : Rep K T H ov o) (h3 : Rep K T H v d) (h : ZOut K mg Wx T H (setFD c f o d r S) E) :
    ∃ a dx fvs, ov = .ref a ∧ H a = some (.ins C dx fvs) ∧ fvs.length < 1000 ∧ E.nx g (upd H a (.ins C dx (putF f v fvs))) := by
  unfold setFD at h
  split at h
  · rename_i n
    split at h
    · rename_i c' fs q
      split at h
      · rename_i hc
        obtain ⟨hc, hlen⟩ := hc
        subst hc
        obtain ⟨a, dx, fvs, rfl, hn, h2, h4, h5⟩ := ins_of k sim h1 q
        have hl : fvs.length = fs.length := by
          have := congrArg List.length h4
          rw [List.length_map, List.length_map] at this
          exact this
        have st := sim.stepSet (u := .ins C dx (putF f v fvs)) (List.mem_of_getElem? hn)
        obtain ⟨p1, p2⟩ := putF_rep (h3.step st) h4 (h5.step st)
        have sim' := sim.set (u := .ins C dx (putF f v fvs)) (o := .ins c' (putFD f d fs)) hn (hlen_oth sim.hl fun xs => ⟨nofun, nofun, fun _ => nofun, fun _ => nofun⟩) ⟨C, dx, _, k.at_, upd_same, p1, p2⟩
        exact ⟨a, dx, fvs, rfl, h2, by omega, h T _ g st sim' (rs.step st)⟩
      · exact h.elim
    · exact h.elim
  · exact h.elim
theorem js_fld (k : ClsOk X.K X.mg c C) (hn : NoAttr X.K C f) (ho : PE X o (tD X.K X.mg Wx mo)) (he : PE X e (tD X.K X.mg Wx m)) (hs : swapsWith e (some (.Attribute o f pos')) pos.line X.env = pure false := by rfl) :
    PS X (.Assign [.Attribute o f pos'] e pos) (tDS X.K X.mg Wx (sFldD c f mo m)) :=
  ps_imp (ps_fld ho he hs) fun E g H h => by
    obtain ⟨T, r, S, rs, sim, h⟩ := h
    refine ⟨T, r, S, rs, sim, ZOut.bind h rs fun d S1 T1 H1 v st sim1 rel rs1 h1 => ?_⟩
    refine ⟨T1, r, S1, rs1, sim1, ZOut.bind h1 rs1 fun od S2 T2 H2 x st2 sim2 rel2 rs2 h2 => ?_⟩
    obtain ⟨a, dx, fvs, e1, e2, e3, e4⟩ := setFD_ok k sim2 rs2 rel2 (rel.step st2) h2
    exact ⟨a, C, dx, fvs, e1, e2, k.cls, hn, e3, e4⟩
theorem js_fldAug {op : Operator} {hf : Int → Int → Int} (k : ClsOk X.K X.mg c C) (hn : NoAttr X.K C f) (hop : InOp X op fun x y H Q => ∃ i j, x = .int i ∧ y = .int j ∧ Q (.int (hf i j)) H) (ho : PE X o (tD X.K X.mg Wx mo)) (he : PE X e (tD X.K X.mg Wx m)) :
    PS X (.AugAssign (.Attribute o f tpos) op e pos) (tDS X.K X.mg Wx (sFldAugD c f hf mo m)) :=
  ps_imp (ps_fldaug ho he hop) fun E g H h => by
    obtain ⟨T, r, S, rs, sim, h⟩ := h
    refine ⟨T, r, S, rs, sim, ZOut.bind h rs fun od S1 T1 H1 x st sim1 rel rs1 h1 => ?_⟩
    have h1' := ZOut.bind (rel := Rep X.K) h1 rs1 (Q := fun z H2 => tD X.K X.mg Wx m g H2 fun w H3 => ∃ i j, z = .int i ∧ w = .int j ∧ ∃ a dx fvs, x = .ref a ∧ H3 a = some (.ins C dx fvs) ∧ fvs.length < 1000 ∧ E.nx g (upd H3 a (.ins C dx (putF f (.int (hf i j)) fvs)))) fun xd S2 T2 H2 z st2 sim2 rel2 rs2 h2 => by
      refine ⟨T2, r, S2, rs2, sim2, ZOut.bind h2 rs2 fun yd S3 T3 H3 w st3 sim3 rel3 rs3 h3 => ?_⟩
      cases xd with
      | int i =>
        cases yd with
        | int j =>
          rw [rel2.int_of, rel3.int_of]
          exact ⟨i, j, rfl, rfl, setFD_ok k sim3 rs3 (rel.step (st2.trans st3)) (.int _) h3⟩
        | _ => exact h3.elim
      | _ => cases yd <;> exact h3.elim
    refine Out.use h1' fun d' ed kd => ?_
    unfold fldD at ed
    split at ed
    · rename_i n
      split at ed
      · rename_i c' fs q
        split at ed
        · rename_i hc
          subst hc
          obtain ⟨a, dx, fvs, rfl, hn', h2, h3, h4⟩ := ins_of k sim1 rel q
          obtain ⟨w, e1, e2⟩ := lookup_rep h3 h4 ed
          obtain ⟨T5, r5, S5, q1, q2, q3⟩ := kd T1 H1 w (Step.refl T1 H1) sim1 e2
          refine ⟨a, C, dx, fvs, w, rfl, h2, k.cls, hn, e1, T5, r5, S5, q1, q2, ?_⟩
          revert q3
          cases m r5 S5 with
          | bad => exact fun h => h
          | exc n S => exact fun h => h
          | ok y S =>
            intro h T6 H6 v6 s6 m6 p6
            obtain ⟨i, j, e3, e4, a', dx', fvs', e5, e6, e7, e8⟩ := h T6 H6 v6 s6 m6 p6
            cases e5
            exact ⟨i, j, e3, e4, dx', fvs', e6, e7, e8⟩
        · cases ed
      · cases ed
    · cases ed
end
/-! ### methods -/
def isIns (c mth : Str) (o : D) (S : Store) : Bool := match o with
  | .loc n => match S[n]? with
    | some (.ins c' fs) => decide (c' = c) && (fs.lookup mth).isNone
    | _ => false
  | _ => false
def mMeth (c mth : Str) (n : Nat) (F : List D → Store → R D) (mo : EM) (ms : AM) : EM := fun r S => (mo r S).bind fun o S1 => if isIns c mth o S1 = true then (ms r S1).bind fun ds S2 => if (o :: ds).length = n then F (o :: ds) S2 else .bad else .bad
section
variable {X : Cx} {Wx : WX} {o e : Expr} {es : List Expr} {c mth : Str} {C f : Addr} {mo : EM} {ms : AM} {pos apos p : Pos} {k n : Nat} {fd : FuncData} {ps : List Str} {Fn : List D → Store → R D} {x : Str}
theorem isIns_ok {K : PySem.W.Frag} {mg : Str → Option Value} {T : Tb} {S : Store} {H : Hp} {v : V} {d : D} (kc : ClsOk K mg c C) (sim : Sim K mg T S H) (h : Rep K T H v d) (e : isIns c mth d S = true) : ∃ a dx fvs, v = .ref a ∧ H a = some (.ins C dx fvs) ∧ fvs.lookup mth = none := by
  unfold isIns at e
  split at e
  · rename_i n
    split at e
    · rename_i c' fs q
      rw [Bool.and_eq_true] at e
      have hc := of_decide_eq_true e.1
      subst hc
      obtain ⟨a, dx, fvs, rfl, hn', h2, h3, h4⟩ := ins_of kc sim h q
      exact ⟨a, dx, fvs, rfl, h2, lookup_none h3 (Option.isNone_iff_eq_none.mp e.2)⟩
    · cases e
  · cases e
theorem out_sp {K : PySem.W.Frag} {mg : Str → Option Value} {T : Tb} {g : St} {H : Hp} {x : R D} {Q : VK} (h : Out K mg Wx (Rep K) T g H x Q) : Out K mg (fun c d _ H => WE Wx g c d H) (Rep K) T [] H x Q := by
  cases x with
  | bad => exact h
  | exc n S => exact h
  | ok d S => exact h
theorem j_meth {pl : Sem Bool} (kc : ClsOk X.K X.mg c C) (hm : Meth X.K C mth f) (F : FnOk X.prog X.w X.K X.mg X.base (L2.CX X.prog X.w) k f fd ps (spD X.K X.mg n Fn)) (hr : Room k X.A) (hb : Binds X.K fd ps []) (tk : Takes X Wx)
    (ho : PE X o (tD X.K X.mg Wx mo)) (ha : PA X (e :: es) (tDA X.K X.mg Wx ms))
    (hst : starEach (e :: es) X.env = (false, eval e X.env) :: starEach es X.env := by rfl) (hpl : (backTo pos (starEach es X.env)).any (·.1) = false := by rfl)
    (ht : eval (.Call (.Attribute o mth apos) (e :: es) [] pos) X.env = (do
      let ov ← eval o X.env
      standAt apos.atName
      let (f, first) ← holding [ov] (getMethod ov mth pl)
      callWith pos f first (backTo pos (starEach (e :: es) X.env)) (backToKw pos (keywordEach [] X.env))) := by rfl) :
    PE X (.Call (.Attribute o mth apos) (e :: es) [] pos) (tD X.K X.mg Wx (mMeth c mth n Fn mo ms)) := by
  refine ⟨fun pins s g H Q I h => PySem.W.methodCall_KW (pl := pl) ?_ ht⟩
  obtain ⟨T, r, S, rs, sim, h⟩ := h
  refine thn (ho.run pins s g H (fun v H1 => ∃ a dx fvs, v = .ref a ∧ H1 a = some (.ins C dx fvs) ∧ fvs.lookup mth = none ∧ tDA X.K X.mg Wx ms g H1 fun vs H2 => spD X.K X.mg n Fn (v :: vs) H2 Q (WE Wx g)) I ⟨T, r, S, rs, sim, Out.bind h fun d S1 T1 H1 v st sim1 rel h1 => ?_⟩) fun u s1 hu => ?_
  · split at h1
    · rename_i hi
      obtain ⟨a, dx, fvs, rfl, e2, e3⟩ := isIns_ok kc sim1 rel hi
      refine ⟨a, dx, fvs, rfl, e2, e3, T1, r, S1, rs.step st, sim1, Out.bind h1 fun ds S2 T2 H2 vs st2 sim2 rel2 h2 => ?_⟩
      split at h2
      · rename_i hn
        exact ⟨by rw [List.length_cons, rel2.length]; exact hn, T2, S2, d :: ds, .cons (rel.step st2) rel2, sim2, out_sp h2⟩
      · exact h2.elim
    · exact h1.elim
  · obtain ⟨v, H1, I1, rv, a, dx, fvs, ev, ea, el, q⟩ := hu
    subst ev
    obtain rfl : u = Value.ref a := rv
    refine getmeth_ok I1 ea kc.cls hm el ?_
    refine PySem.W.callWith_K (first := [.ref a]) (h₀ := X.base) I.ok.mod.kin hm.kp (thn (ha.run pos pins s1 g H1 _ I1 q) fun us s2 hq => ?_) hst hpl
    obtain ⟨vs, H2, I2, rr, q2⟩ := hq
    exact ⟨I2.kIn, run_fnSD (us := .ref a :: us) (vs := .ref a :: vs) (E := WE Wx) (dvs := []) F hr hb .nil (passAt tk g) I2 (.cons rfl rr) (by rw [List.append_nil]; exact q2)⟩
theorem j_meth0 {pl : Sem Bool} (kc : ClsOk X.K X.mg c C) (hm : Meth X.K C mth f) (F : FnOk X.prog X.w X.K X.mg X.base (L2.CX X.prog X.w) k f fd ps (spD X.K X.mg n Fn)) (hr : Room k X.A) (hb : Binds X.K fd ps []) (tk : Takes X Wx)
    (ho : PE X o (tD X.K X.mg Wx mo))
    (ht : eval (.Call (.Attribute o mth apos) [] [] pos) X.env = (do
      let ov ← eval o X.env
      standAt apos.atName
      let (f, first) ← holding [ov] (getMethod ov mth pl)
      callWith pos f first (backTo pos (starEach [] X.env)) (backToKw pos (keywordEach [] X.env))) := by rfl) :
    PE X (.Call (.Attribute o mth apos) [] [] pos) (tD X.K X.mg Wx (mMeth c mth n Fn mo mNil)) := by
  refine ⟨fun pins s g H Q I h => PySem.W.methodCall_KW (pl := pl) ?_ ht⟩
  obtain ⟨T, r, S, rs, sim, h⟩ := h
  refine thn (ho.run pins s g H (fun v H1 => ∃ a dx fvs, v = .ref a ∧ H1 a = some (.ins C dx fvs) ∧ fvs.lookup mth = none ∧ spD X.K X.mg n Fn [v] H1 Q (WE Wx g)) I ⟨T, r, S, rs, sim, Out.bind h fun d S1 T1 H1 v st sim1 rel h1 => ?_⟩) fun u s1 hu => ?_
  · split at h1
    · rename_i hi
      obtain ⟨a, dx, fvs, rfl, e2, e3⟩ := isIns_ok kc sim1 rel hi
      have h1 : Out X.K X.mg Wx (Rep X.K) T1 g H1 (if [d].length = n then Fn [d] S1 else .bad) Q := h1
      split at h1
      · rename_i hn
        exact ⟨a, dx, fvs, rfl, e2, e3, hn, T1, S1, [d], .cons rel .nil, sim1, out_sp h1⟩
      · exact h1.elim
    · exact h1.elim
  · obtain ⟨v, H1, I1, rv, a, dx, fvs, ev, ea, el, q⟩ := hu
    subst ev
    obtain rfl : u = Value.ref a := rv
    refine getmeth_ok I1 ea kc.cls hm el ?_
    exact PySem.W.callWith_K0 (first := [.ref a]) I1.kIn hm.kp (run_fnSD (us := [.ref a]) (vs := [.ref a]) (E := WE Wx) (dvs := []) F hr hb .nil (passAt tk g) I1 (.cons rfl .nil) q)
/-! ### making an instance -/
def mMake (c : Str) (n : Nat) (F : List D → Store → R D) (ms : AM) : EM := fun r S => (ms r S).bind fun ds S1 => if (ds.length + 1) = n then (nox (F (.loc S1.length :: ds) (S1 ++ [.ins c []]))).bind fun d S2 => match d with
  | .non => .ok (.loc S1.length) S2
  | _ => .bad else .bad
theorem make_ok {K : PySem.W.Frag} {mg : Str → Option Value} {T : Tb} {S : Store} {H : Hp} {g : St} {ds : List D} {vs : List V} {Q : VK} (kc : ClsOk K mg c C) (sim : Sim K mg T S H) (rel : RepL K T H vs ds) (hn : ds.length + 1 = n)
    (h : Out K mg Wx (Rep K) T g H ((nox (Fn (.loc S.length :: ds) (S ++ [.ins c []]))).bind fun d S2 => match d with
      | .non => .ok (.loc S.length) S2
      | _ => .bad) Q) : ∀ x dx, H x = none → H dx = none → dx ≠ x → spD K mg n Fn (.ref x :: vs) (upd (upd H dx (.own x)) x (.ins C dx [])) (fun v H2 => v = .non ∧ Q (.ref x) H2) E0 := by
  intro x dx hx hdx ne
  have nl : ∀ (a : Addr) (o : HO), (∀ xs, o ≠ .lst xs ∧ o ≠ .tup xs ∧ (∀ y, o ≠ .frz y (.lst xs)) ∧ ∀ y, o ≠ .frz y (.tup xs)) → ∀ {H : Hp}, HLen H → HLen (upd H a o) := fun a o ho H hh => hlen_oth hh ho
  have st1 := sim.stepNew (o := .own x) hdx
  have sim1 := sim.new (o := .own x) hdx (nl dx (.own x) (fun xs => ⟨nofun, nofun, fun _ => nofun, fun _ => nofun⟩) sim.hl)
  have hx1 : (upd H dx (.own x)) x = none := by rw [upd_ne ne.symm]; exact hx
  have st2 := sim1.stepAlloc (o := .ins C dx []) hx1
  have sim2 := sim1.alloc (u := .ins C dx []) (o := .ins c []) hx1 (nl x (.ins C dx []) (fun xs => ⟨nofun, nofun, fun _ => nofun, fun _ => nofun⟩) sim1.hl) ⟨C, dx, [], kc.at_, upd_same, rfl, .nil⟩
  refine ⟨by rw [List.length_cons, rel.length]; exact hn, T.add x, S ++ [.ins c []], .loc S.length :: ds, .cons (.loc sim.newGet) ((rel.step st1).step st2), sim2, ?_⟩
  revert h
  cases Fn (.loc S.length :: ds) (S ++ [.ins c []]) with
  | bad => exact fun h => h
  | exc m S2 => exact fun h => h.elim
  | ok d S2 =>
    intro h T' H' v s m rep
    cases d with
    | non => exact ⟨rep.non_of, h T' H' _ ((st1.trans st2).trans s) m (.loc (s.get sim.newGet))⟩
    | _ => exact h.elim
theorem j_make (kc : ClsOk X.K X.mg c C) (M : Mk X.K C f) (F : FnOk X.prog X.w X.K X.mg X.base (L2.CX X.prog X.w) k f fd ps (spD X.K X.mg n Fn)) (hr : Room (k + 1) X.A) (hg : Gl X c) (hb : Binds X.K fd ps [])
    (ha : PA X (e :: es) (tDA X.K X.mg Wx ms)) (hdb : (c == ("__debug__" : Str)) = false := by decide) (he : starEach (e :: es) X.env = (false, eval e X.env) :: starEach es X.env := by rfl) (hpl : (backTo pos (starEach es X.env)).any (·.1) = false := by rfl) :
    PE X (.Call (.Name c p) (e :: es) [] pos) (tD X.K X.mg Wx (mMake c n Fn ms)) :=
  pe_imp (pe_make (E := E0) M F hr hg kc.at_ hb .nil passL ha hdb he hpl) fun g H Q h => by
    obtain ⟨T, r, S, rs, sim, h⟩ := h
    refine ⟨T, r, S, rs, sim, Out.bind h fun ds S1 T1 H1 vs st sim1 rel h1 => ?_⟩
    split at h1
    · rename_i hn
      rw [List.append_nil]
      exact make_ok kc sim1 rel hn h1
    · exact h1.elim
end
end Dv
set_option maxHeartbeats 1000000
namespace Dv
open PySem L2
/-! ### a sort of plain lists -/
section
variable {α : Type}
def insL (lt : α → α → Bool) (x : α) : List α → List α
  | [] => [x]
  | y :: ys => if lt y x = true then y :: insL lt x ys else x :: y :: ys
def sortL (lt : α → α → Bool) : List α → List α
  | [] => []
  | x :: xs => insL lt x (sortL lt xs)
variable {lt : α → α → Bool}
theorem insL_perm (x : α) : ∀ l : List α, (insL lt x l).Perm (x :: l)
  | [] => List.Perm.refl _
  | y :: ys => by
    unfold insL
    split
    · exact ((insL_perm x ys).cons y).trans (List.Perm.swap x y ys)
    · exact List.Perm.refl _
theorem sortL_perm : ∀ l : List α, (sortL lt l).Perm l
  | [] => List.Perm.refl _
  | x :: xs => (insL_perm x _).trans ((sortL_perm xs).cons x)
theorem insL_srtd (O : SrtO.Swo lt) (x : α) : ∀ {l : List α}, SrtO.Srtd lt l → SrtO.Srtd lt (insL lt x l)
  | [], _ => List.pairwise_singleton _ _
  | y :: ys, h => by
    unfold insL
    split
    · rename_i hy
      refine List.pairwise_cons.mpr ⟨fun z hz => ?_, insL_srtd O x (List.pairwise_cons.mp h).2⟩
      rcases List.mem_cons.mp ((insL_perm x ys).mem_iff.mp hz) with e | e
      · rw [e]
        exact O.asym _ _ hy
      · exact (List.pairwise_cons.mp h).1 z e
    · rename_i hy
      refine List.pairwise_cons.mpr ⟨fun z hz => ?_, h⟩
      have hy : lt y x = false := by simpa using hy
      rcases List.mem_cons.mp hz with e | e
      · rw [e]
        exact hy
      · exact O.tr x y z hy ((List.pairwise_cons.mp h).1 z e)
theorem sortL_srtd (O : SrtO.Swo lt) : ∀ l : List α, SrtO.Srtd lt (sortL lt l)
  | [] => List.Pairwise.nil
  | x :: xs => insL_srtd O x (sortL_srtd O xs)
theorem insL_cls (O : SrtO.Swo lt) (x z : α) : ∀ l : List α, (insL lt x l).filter (SrtO.eqv lt z) = (x :: l).filter (SrtO.eqv lt z)
  | [] => rfl
  | y :: ys => by
    unfold insL
    split
    · rename_i hy
      have ih := insL_cls O x z ys
      by_cases hz : SrtO.eqv lt z y = true
      · have hx : SrtO.eqv lt z x = false := by
          by_cases q : SrtO.eqv lt z x = true
          · have h1 := SrtO.eqv_iff.mp hz
            have h2 := SrtO.eqv_iff.mp q
            have : lt y x = false := O.tr x z y h2.1 h1.2
            rw [hy] at this
            cases this
          · simpa using q
        rw [List.filter_cons_of_pos hz, ih, List.filter_cons_of_neg (by rw [hx]; exact Bool.false_ne_true), List.filter_cons_of_neg (by rw [hx]; exact Bool.false_ne_true), List.filter_cons_of_pos hz]
      · rw [List.filter_cons_of_neg hz, ih]
        by_cases hx : SrtO.eqv lt z x = true
        · rw [List.filter_cons_of_pos hx, List.filter_cons_of_pos hx, List.filter_cons_of_neg hz]
        · rw [List.filter_cons_of_neg hx, List.filter_cons_of_neg hx, List.filter_cons_of_neg hz]
    · rfl
theorem sortL_stb (O : SrtO.Swo lt) : ∀ l : List α, SrtO.Stb lt (sortL lt l) l
  | [] => SrtO.Stb.refl _
  | x :: xs => ⟨sortL_perm _, fun z => by
    show (insL lt x (sortL lt xs)).filter (SrtO.eqv lt z) = (x :: xs).filter (SrtO.eqv lt z)
    rw [insL_cls O]
    by_cases hx : SrtO.eqv lt z x = true
    · rw [List.filter_cons_of_pos hx, List.filter_cons_of_pos hx, (sortL_stb O xs).cls z]
    · rw [List.filter_cons_of_neg hx, List.filter_cons_of_neg hx, (sortL_stb O xs).cls z]⟩
theorem sortL_uniq (O : SrtO.Swo lt) {l m : List α} (h1 : SrtO.Srtd lt m) (h2 : SrtO.Stb lt m l) : m = sortL lt l :=
  SrtO.stb_uniq O h1 (sortL_srtd O l) (h2.trans ⟨(sortL_stb O l).perm.symm, fun z => ((sortL_stb O l).cls z).symm⟩)
theorem sortL_len (l : List α) : (sortL lt l).length = l.length := (sortL_perm l).length_eq
end
def ltI (a b : Int) : Bool := decide (a < b)
theorem ltI_swo : SrtO.Swo ltI := ⟨fun x y h => decide_eq_false (by have := of_decide_eq_true h; omega), fun x y z h1 h2 => decide_eq_false (by have := of_decide_eq_false h1; have := of_decide_eq_false h2; omega)⟩
abbrev ltR : List Int → List Int → Bool := HT.lexLt
theorem ltR_asym : ∀ x y : List Int, ltR x y = true → ltR y x = false
  | [], [], h => by cases h
  | [], _ :: _, _ => rfl
  | _ :: _, [], h => by cases h
  | a :: x, b :: y, h => by
    have h : (if a = b then HT.lexLt x y else decide (a < b)) = true := h
    show (if b = a then HT.lexLt y x else decide (b < a)) = false
    by_cases e : a = b
    · subst e
      rw [if_pos rfl] at h ⊢
      exact ltR_asym x y h
    · rw [if_neg e] at h
      rw [if_neg (Ne.symm e)]
      have := of_decide_eq_true h
      exact decide_eq_false (by omega)
theorem ltR_tr : ∀ x y z : List Int, ltR y x = false → ltR z y = false → ltR z x = false
  | [], [], z, _, h => h
  | [], b :: y, [], _, _ => rfl
  | [], b :: y, c :: z, _, _ => rfl
  | a :: x, [], z, h, _ => by cases h
  | a :: x, b :: y, [], _, h => by cases h
  | a :: x, b :: y, c :: z, g1, g2 => by
    have h1 : (if b = a then HT.lexLt y x else decide (b < a)) = false := g1
    have h2 : (if c = b then HT.lexLt z y else decide (c < b)) = false := g2
    clear g1 g2
    show (if c = a then HT.lexLt z x else decide (c < a)) = false
    by_cases e1 : b = a
    · subst e1
      rw [if_pos rfl] at h1
      by_cases e2 : c = b
      · subst e2
        rw [if_pos rfl] at h2 ⊢
        exact ltR_tr x y z h1 h2
      · rw [if_neg e2] at h2 ⊢
        exact h2
    · rw [if_neg e1] at h1
      have h3 := of_decide_eq_false h1
      by_cases e2 : c = b
      · subst e2
        rw [if_neg e1]
        exact h1
      · rw [if_neg e2] at h2
        have h4 := of_decide_eq_false h2
        rw [if_neg (by omega)]
        exact decide_eq_false (by omega)
theorem ltR_swo : SrtO.Swo ltR := ⟨ltR_asym, ltR_tr⟩
/-! ### tuples of whole numbers, sorted -/
section
variable {prog : Program} {w : World} {A : Around} {s : Shared} {Q : Bool → Shared → Prop}
theorem lexI {b fin : Bool} : ∀ {xs ys : List Value} {ns ms : List Int} (i : Nat), PyProof.Rows.IntsAre xs ns → PyProof.Rows.IntsAre ys ms → fin = decide (ns.length < ms.length) → Q (ltR ns ms) s → PySem.W.KatLex prog w A b fin Q (xs.zip ys) i s
  | _, _, _, _, i, .nil, .nil, hf, h => by
    rw [hf]
    exact h
  | _, _, _, _, i, .nil, .cons q u hy, hf, h => by
    rw [hf]
    exact h
  | _, _, _, _, i, .cons p t hx, .nil, hf, h => by
    rw [hf]
    exact h
  | _, _, _, _, i, @PyProof.Rows.IntsAre.cons p t xs ns hx, @PyProof.Rows.IntsAre.cons q u ys ms hy, hf, h => by
    show PySem.W.KatLex prog w A b fin Q ((Value.int p t, Value.int q u) :: xs.zip ys) i s
    refine PySem.W.kat_cons (wpAny_eqBool_int ?_)
    have h : Q (if p = q then HT.lexLt ns ms else decide (p < q)) s := h
    by_cases e : p = q
    · subst e
      rw [if_pos rfl] at h
      rw [beq_self_eq_true]
      refine PySem.W.kat_yes (lexI (i + 1) hx hy ?_ h)
      rw [hf]
      simp only [List.length_cons, Nat.add_lt_add_iff_right]
    · rw [if_neg e] at h
      rw [show (p == q) = false from beq_eq_false_iff_ne.mpr e]
      exact PySem.W.kat_no (TS.oneLt_ints _ h)
/-- rows that are not empty -/
def RowsIn (h : Heap) (vs : List Value) : Prop := ∀ v ∈ vs, ∃ ns, TS.TupInts h v ns ∧ ns ≠ []
theorem rows_firsts {h : Heap} : ∀ vs : List Value, RowsIn h vs → ∃ fs, PySem.W.KatTups h vs fs ∧ fs.length = vs.length ∧ ∀ f ∈ fs, ∃ n t, f = Value.int n t
  | [], _ => ⟨[], PySem.W.KatTups.nil, rfl, fun f hf => by cases hf⟩
  | v :: vs, x => by
    obtain ⟨fs, k, hl, hi⟩ := rows_firsts vs fun u hu => x u (List.mem_cons_of_mem _ hu)
    obtain ⟨ns, ⟨a, xs, ev, ⟨o, ho, hc, n, hdt⟩, ii⟩, hne⟩ := x v List.mem_cons_self
    subst ev
    cases q : xs.toList with
    | nil =>
      rw [q] at ii
      cases ii
      exact absurd rfl hne
    | cons y ys =>
      have hy : ∃ m t, y = Value.int m t := by
        rw [q] at ii
        cases ii
        exact ⟨_, _, rfl⟩
      obtain ⟨m, t, hy⟩ := hy
      refine ⟨y :: fs, PySem.W.KatTups.cons ho hc hdt ?_ k, by rw [List.length_cons, List.length_cons, hl], fun f hf => ?_⟩
      · have z := congrArg (fun l : List Value => l[0]?) q
        simpa using z
      · rcases List.mem_cons.mp hf with e | e
        · exact ⟨m, t, e.trans hy⟩
        · exact hi f e
theorem rows_sortable {h0 : Heap} {a : Addr} {vs : List Value} (x : RowsIn s.heap vs) (h2 : 2 ≤ vs.length) (ha : ∀ o, s.heap.get? a = some o → o.cls ≠ .type "tuple") (hf : ∀ v ∈ vs, ∀ ns, TS.TupInts s.heap v ns → TS.intsOf h0 v = ns) :
    SrtO.SortableO prog w A s a vs fun v u => ltR (TS.intsOf h0 v) (TS.intsOf h0 u) := by
  intro h' keep
  have kp : ∀ {v : Value} {ns : List Int}, TS.TupInts s.heap v ns → TS.TupInts h' v ns := fun q => q.keeps fun b o e c => keep b o (fun z => by subst z; exact ha o e c) e
  have x' : RowsIn h' vs := fun v hv => by
    obtain ⟨ns, h1, h2⟩ := x v hv
    exact ⟨ns, kp h1, h2⟩
  obtain ⟨fs, k1, k2, k3⟩ := rows_firsts vs x'
  refine ⟨PyProof.Rows.tuples' true, fun Q E hq => ?_, fun p q hp hq => ?_⟩
  · refine PySem.W.kat_kind (T := .type "int") k1 (by omega) (fun f hm => ?_) (by rfl) ?_
    · obtain ⟨m, t, e⟩ := k3 f hm
      subst e
      exact PySem.W.Looks.now
    · have e : (Value.type "int" != Value.type "tuple") = true := by first | decide +kernel | rfl | decide
      rw [e]
      exact hq
  · obtain ⟨ns, t1, _⟩ := x p.1 hp
    obtain ⟨ms, t2, _⟩ := x q.1 hq
    have e1 := hf _ hp _ t1
    have e2 := hf _ hq _ t2
    show wpAny (model prog w) A (PyProof.Rows.keyLt' (PyProof.Rows.tuples' true) p.1 q.1) (fun r s' => s' = { s with heap := h' } ∧ r = ltR (TS.intsOf h0 p.1) (TS.intsOf h0 q.1)) (fun _ _ => False) _
    rw [e1, e2]
    obtain ⟨a1, xs, f1, ⟨o1, ho1, hc1, n1, hd1⟩, i1⟩ := kp t1
    obtain ⟨a2, ys, f2, ⟨o2, ho2, hc2, n2, hd2⟩, i2⟩ := kp t2
    rw [f1, f2]
    refine PySem.W.kat_lt ho1 hd1 ho2 hd2 (lexI 0 i1 i2 ?_ ⟨rfl, rfl⟩)
    have l1 := i1.length
    have l2 := i2.length
    rw [Array.length_toList] at l1 l2
    rw [l1, l2]
end
def RowV (K : PySem.W.Frag) (H : Hp) (x : V) (ns : List Int) : Prop := ns ≠ [] ∧ ∃ t, x = .ref t ∧ SqT K H t (ns.map V.int)
def rSortR (K : PySem.W.Frag) : List V → Hp → VK → Prop := fun vs H Q => ∃ (a : Addr) (xs : List V) (rows : List (List Int)) (Pr : V → List Int → Prop), vs = [V.ref a] ∧ SqL K H a xs ∧ (∀ x ns, Pr x ns → RowV K H x ns) ∧ Paired Pr xs rows ∧
  ∀ ys p, Paired Pr ys (sortL ltR rows) → H p = none → Q (.ref p) (upd H p (.lst ys))
theorem paired_mem {α β : Type} {Pr : α → β → Prop} : ∀ {xs : List α} {ys : List β} {i : Nat} {x : α}, Paired Pr xs ys → xs[i]? = some x → ∃ y, ys[i]? = some y ∧ Pr x y
  | _, _, i, _, .nil, e => by simp at e
  | _, _, 0, _, .cons r _, e => by simp at e; subst e; exact ⟨_, rfl, r⟩
  | _, _, i + 1, x, .cons _ t, e => by
    obtain ⟨v, h1, h2⟩ := paired_mem (i := i) (x := x) t (by simpa using e)
    exact ⟨v, by simpa using h1, h2⟩
theorem paired_of_map {α β γ : Type} {Pr : β → γ → Prop} {f : α → β} {g : α → γ} : ∀ {l : List α}, (∀ u ∈ l, Pr (f u) (g u)) → Paired Pr (l.map f) (l.map g)
  | [], _ => .nil
  | u :: l, h => .cons (h u List.mem_cons_self) (paired_of_map fun v hv => h v (List.mem_cons_of_mem _ hv))
theorem cr_sortR {X : Cx} : CallR X (.builtin "sorted") (rSortR X.K) := by
  intro pins s g H vs us Q I r h
  obtain ⟨a, xs, rows, Pr, rfl, hs, hP, pr, q⟩ := h
  obtain ⟨its, rv, hl, hz⟩ := I.list hs
  rw [Vals.ref1 r]
  have rowOf : ∀ (i : Nat) (u : Value), its[i]? = some u → ∃ t ns, u = .ref t ∧ rows[i]? = some ns ∧ Pr (.ref t) ns ∧ TS.TupInts s.heap u ns ∧ ns ≠ [] := fun i u hu => by
    have hi : i < xs.length := by
      rw [rv.length]
      exact (List.getElem?_eq_some_iff.mp hu).1
    obtain ⟨ns, h1, h2⟩ := paired_mem pr (List.getElem?_eq_getElem hi)
    obtain ⟨u', h3, h4⟩ := rv.get (List.getElem?_eq_getElem hi)
    rw [hu] at h3
    cases h3
    obtain ⟨hne, t, et, hT⟩ := hP _ _ h2
    rw [et] at h4 h2
    cases h4
    exact ⟨t, ns, rfl, h1, h2, tupI_raw I hT, hne⟩
  have mem : ∀ u ∈ its, ∃ t ns, u = .ref t ∧ Pr (.ref t) ns ∧ TS.TupInts s.heap u ns ∧ ns ≠ [] := fun u hu => by
    obtain ⟨i, hi, e⟩ := List.mem_iff_getElem.mp hu
    obtain ⟨t, ns, h1, _, h2, h3, h4⟩ := rowOf i u (by rw [List.getElem?_eq_getElem hi, e])
    exact ⟨t, ns, h1, h2, h3, h4⟩
  have erow : its.map (TS.intsOf s.heap) = rows := by
    refine List.ext_getElem? fun i => ?_
    rw [List.getElem?_map]
    cases e : its[i]? with
    | none =>
      have h1 : its.length ≤ i := List.getElem?_eq_none_iff.mp e
      rw [List.getElem?_eq_none (by rw [← Paired.length pr, rv.length]; exact h1)]
      rfl
    | some u =>
      obtain ⟨t, ns, _, h1, _, h3, _⟩ := rowOf i u e
      rw [h1, ← h3.ints]
      rfl
  have rin : RowsIn s.heap its := fun u hu => by
    obtain ⟨t, ns, _, _, h3, h4⟩ := mem u hu
    exact ⟨ns, h3, h4⟩
  refine SrtO.sorted_ord (ltv := fun v u => ltR (TS.intsOf s.heap v) (TS.intsOf s.heap u)) ⟨fun x y => ltR_swo.asym _ _, fun x y z => ltR_swo.tr _ _ _⟩ hl.isList (by rw [← rv.length]; exact hz) (fun h2 h1 b hb kk => ?_) fun out h1 h2 => ?_
  · refine rows_sortable (s := { s with heap := h1 }) (h0 := s.heap) (fun v hv => ?_) h2 (fun o e => ?_) fun v hv ns t => ?_
    · obtain ⟨ns, t, hne⟩ := rin v hv
      exact ⟨ns, t.keeps fun b o e _ => (kk b o e).2, hne⟩
    · have e' : some o = some (PyProof.Rows.seqObj "list" its.toArray 0) := e.symm.trans hb
      cases e'
      intro c
      exact absurd (Value.type.inj c) (by decide)
    · obtain ⟨ms, t', _⟩ := rin v hv
      have t2 := t'.keeps (h' := h1) fun b o e _ => (kk b o e).2
      rw [t'.ints, ← t2.ints]
      exact t.ints
  · obtain ⟨n, hn⟩ := PyProof.Rows.sortedAll_at s.heap its out.toArray
    have mo : ∀ u ∈ out, ∃ t ns, u = .ref t ∧ Pr (.ref t) ns ∧ TS.TupInts s.heap u ns ∧ ns ≠ [] := fun u hu => mem u (h2.perm.mem_iff.mp hu)
    have eo : out.map (TS.intsOf s.heap) = sortL ltR rows := by
      rw [← erow]
      exact sortL_uniq ltR_swo (SrtO.srtd_map h1) (SrtO.Stb.map ltR_swo _ h2)
    have hp : Paired Pr (out.map backV) (sortL ltR rows) := by
      rw [← eo]
      exact paired_of_map fun u hu => by
        obtain ⟨t, ns, e, h3, h4, _⟩ := mo u hu
        rw [h4.ints, e]
        exact h3
    refine ⟨.ref _, upd H (s.heap.objs.size + 1) (.lst (out.map backV)), I.laid (t' := s.toks) (fun _ _ => PyProof.Rows.sortedAll_old) (Nat.le_succ _) ⟨?_, out, n, vals_back fun u hu => ?_, hn⟩, rfl, q _ _ hp (I.hok.fresh (Nat.le_succ _))⟩
    · rw [List.length_map, h2.len, ← rv.length]
      exact hz
    · obtain ⟨t, ns, e, _⟩ := mo u hu
      exact ⟨t, e⟩
/-! ### sorted, by values -/
def rowD (ns : List Int) : D := .tup (ns.map D.int)
def rowsOf : List D → Option (List (List Int))
  | [] => some []
  | .tup xs :: ds => (intsOf xs).bind fun ns => if ns = [] then none else (rowsOf ds).map (ns :: ·)
  | _ :: _ => none
theorem rowsOf_some : ∀ {ds : List D} {rows : List (List Int)}, rowsOf ds = some rows → ds = rows.map rowD ∧ ∀ ns ∈ rows, ns ≠ []
  | [], _, e => by cases e; exact ⟨rfl, fun _ h => by cases h⟩
  | d :: ds, rows, e => by
    cases d <;> try cases e
    rename_i xs
    simp only [rowsOf] at e
    cases q : intsOf xs with
    | none => rw [q] at e; cases e
    | some ns =>
      rw [q] at e
      have e : (if ns = [] then none else (rowsOf ds).map (ns :: ·)) = some rows := e
      split at e
      · cases e
      · rename_i hne
        cases q2 : rowsOf ds with
        | none => rw [q2] at e; cases e
        | some rs =>
          rw [q2] at e
          cases e
          obtain ⟨h1, h2⟩ := rowsOf_some q2
          refine ⟨by rw [h1, intsOf_some q]; rfl, fun m hm => (List.mem_cons.mp hm).elim (fun e => by rw [e]; exact hne) (h2 m)⟩
theorem rowsOf_map : ∀ {rows : List (List Int)}, (∀ ns ∈ rows, ns ≠ []) → rowsOf (rows.map rowD) = some rows
  | [], _ => rfl
  | ns :: rows, h => by
    show (intsOf (ns.map D.int)).bind (fun ns => if ns = [] then none else (rowsOf (rows.map rowD)).map (ns :: ·)) = _
    rw [intsOf_map, rowsOf_map fun m hm => h m (List.mem_cons_of_mem _ hm)]
    show (if ns = [] then none else some (ns :: rows)) = _
    rw [if_neg (h ns List.mem_cons_self)]
def sortD (ds : List D) (_ : Store) : Option D := match ds with
  | [.lst xs] => match intsOf xs with
    | some ns => some (.lst ((sortL ltI ns).map D.int))
    | none => (rowsOf xs).map fun rows => .lst ((sortL ltR rows).map rowD)
  | _ => none
section
variable {X : Cx} {K : PySem.W.Frag} {mg : Str → Option Value}
def rSortA (K : PySem.W.Frag) : List V → Hp → VK → Prop := fun vs H Q => rSortedI K vs H Q ∨ rSortR K vs H Q
theorem cr_sortA : CallR X (.builtin "sorted") (rSortA X.K) := cr_sortedI.or cr_sortR
theorem sortI_uniq {ns ms : List Int} (h1 : ms.Perm ns) (h2 : ms.Pairwise (· ≤ ·)) : ms = sortL ltI ns := by
  refine sortL_uniq ltI_swo (h2.imp fun {x y} h => decide_eq_false (by omega)) ⟨h1, fun z => ?_⟩
  have e : SrtO.eqv ltI z = fun y => decide (y = z) := funext fun y => by
    unfold SrtO.eqv ltI
    by_cases q : y = z
    · subst q
      simp
    · rw [decide_eq_false q]
      by_cases q2 : z < y
      · simp [q2]
      · have q3 : y < z := by omega
        simp [q3]
  rw [e]
  have h3 := h1.filter (fun y => decide (y = z))
  have h4 : ∀ l : List Int, l.filter (fun y => decide (y = z)) = List.replicate (l.filter (fun y => decide (y = z))).length z := fun l => List.eq_replicate_iff.mpr ⟨rfl, fun y hy => of_decide_eq_true (List.mem_filter.mp hy).2⟩
  rw [h4 ms, h4 ns, h3.length_eq]
theorem RepL.pr {T : Tb} {H : Hp} : ∀ {vs : List V} {rows : List (List Int)}, RepL K T H vs (rows.map rowD) → (∀ ns ∈ rows, ns ≠ []) → Paired (fun x ns => ns ≠ [] ∧ Rep K T H x (rowD ns)) vs rows
  | _, [], .nil, _ => .nil
  | _, ns :: rows, .cons h r, hn => .cons ⟨hn ns List.mem_cons_self, h⟩ (RepL.pr r fun m hm => hn m (List.mem_cons_of_mem _ hm))
theorem RepL.of_pr {T : Tb} {H : Hp} : ∀ {vs : List V} {rows : List (List Int)}, Paired (fun x ns => ns ≠ [] ∧ Rep K T H x (rowD ns)) vs rows → RepL K T H vs (rows.map rowD)
  | _, _, .nil => .nil
  | _, _, .cons h r => .cons h.2 (RepL.of_pr r)
theorem pok_sort : POk K mg (rSortA K) sortD := fun T S H vs ds d Q sim rep e k => by
  unfold sortD at e
  split at e
  · rename_i xs
    obtain ⟨v, rfl, r⟩ := rep.one
    cases r with
    | @lst a ys _ h n r =>
      split at e
      · rename_i ns q
        cases e
        have e3 := intsOf_some q
        subst e3
        rw [r.of_ints] at h
        refine .inl ⟨a, ns, rfl, SqL.of h, fun ms p h1 h2 hp => ?_⟩
        have e4 := sortI_uniq h1 h2
        subst e4
        have st := sim.stepNew (o := .lst ((sortL ltI ns).map V.int)) hp
        refine k _ _ st (sim.new hp (hlen_lst sim.hl ?_)) (.lst upd_same (sim.off hp) (RepL.ints _))
        have := sim.hl _ _ (.inl (.inl h))
        rw [List.length_map] at this ⊢
        rw [sortL_len]
        exact this
      · rename_i q
        cases q2 : rowsOf xs with
        | none => rw [q2] at e; cases e
        | some rows =>
          rw [q2] at e
          cases e
          obtain ⟨e3, hne⟩ := rowsOf_some q2
          subst e3
          refine .inr ⟨a, ys, rows, fun x ns => ns ≠ [] ∧ Rep K T H x (rowD ns), rfl, SqL.of h, fun x ns hx => ⟨hx.1, ?_⟩, r.pr hne, fun zs p hz hp => ?_⟩
          · obtain ⟨_, hx⟩ := hx
            cases hx with
            | tup h1 h2 h3 =>
              rw [h3.of_ints] at h1
              exact ⟨_, rfl, SqT.of h1⟩
          · have rz := RepL.of_pr hz
            have st := sim.stepNew (o := .lst zs) hp
            refine k _ _ st (sim.new hp (hlen_lst sim.hl ?_)) (.lst upd_same (sim.off hp) (rz.step st))
            have h1 := sim.hl _ _ (.inl (.inl h))
            have h2 := rz.length
            rw [List.length_map, sortL_len] at h2
            have h3 := r.length
            rw [List.length_map] at h3
            omega
  · cases e
end
theorem room65 {k : Nat} {A : Around} (r : Room k A) : A.units + 65 < cLine := by
  have := r.un
  omega
end Dv
namespace Dv
open PySem L2
theorem hlen_of {P : Program} {w : World} {H : Hp} {h : Heap} (x : HOk P w H h) : HLen H := fun a xs q => by
  rcases q with q | q
  · obtain ⟨z, _⟩ := q.ok x
    exact z
  · obtain ⟨z, _⟩ := q.ok x
    exact z
def spLaw (K : PySem.W.Frag) : Sp := fun vs H Q _ => ∃ (a : Addr) (ns : List Int), vs = [.ref a] ∧ SqL K H a (ns.map V.int) ∧ ns.length ≤ 63 ∧ ∀ H', Q (.bl true) H'
theorem law_fn {P : Program} {w : World} {K : PySem.W.Frag} {mg : Str → Option Value} {base : Heap} {CX : CXT} {k : Nat} {f : Addr} {fd : FuncData} {F : Nat → List D → Store → R D} (h : ∀ fu, FnOk P w K mg base CX k f fd ["script"] (spD K mg 1 (F fu)))
    (ht : ∀ ns : List Int, ns.length ≤ 63 → ∃ fu S, F fu [.scr ns] [] = .ok (.bl true) S) : FnOk P w K mg base CX k f fd ["script"] (spLaw K) := by
  refine ⟨fun vs H Q E q => ?_, fun A outer s H args us vs Q E hr he hb hv hs => ?_⟩
  · obtain ⟨a, ns, rfl, _⟩ := q
    rfl
  · obtain ⟨a, ns, rfl, hq, hl, q⟩ := hs
    obtain ⟨fu, S', e⟩ := ht ns hl
    refine (h fu).run A outer s H args us _ Q E hr he hb hv ⟨rfl, ⟨[], []⟩, [], [.scr ns], .cons (.scr ?_) .nil, ⟨rfl, List.nodup_nil, fun i a o h1 => ?_, fun a h1 => ?_, hlen_of he.hok⟩, ?_⟩
    · rcases hq with hq | hq
      · exact .inl ⟨hq, (by intro z; cases z), (by intro z; cases z)⟩
      · exact .inr (.inr hq)
    · cases h1
    · cases h1
    · rw [e]
      intro T' H' v _ _ r
      rw [r.bl_of]
      exact q H'
theorem sp_start {K : PySem.W.Frag} {H : Hp} {a : Addr} {ns : List Int} (hl : ns.length ≤ 63) (hS : SqL K H a (ns.map V.int)) : spLaw K [.ref a] H (fun v _ => v = .bl true) fun _ _ _ => False := ⟨a, ns, rfl, hS, hl, fun _ => rfl⟩
theorem no_exc {P : Program} {w : World} {l : List PySem.Env} {H : Hp} {s : Shared} {e : Value} {s' : Shared} (h : L2.CX P w l H s (fun _ _ _ => False) e s') : False := by
  obtain ⟨_, _, _, _, _, _, _, _, _, _, _, _, z⟩ := h
  exact z
end Dv
/-! what the parts come to, for the simplifier -/
namespace Dv
open PySem L2
section
variable {r : Env} {S : Store} {ma mb mc m mo mi : EM} {ms : AM} {ta tb : BM} {sa sb : SM}
@[simp] theorem rb_ok {α β : Type} (a : α) (S : Store) (f : α → Store → R β) : (R.ok a S).bind f = f a S := rfl
@[simp] theorem rb_exc {α β : Type} (n : Str) (S : Store) (f : α → Store → R β) : (R.exc n S : R α).bind f = .exc n S := rfl
@[simp] theorem rb_bad {α β : Type} (f : α → Store → R β) : (R.bad : R α).bind f = .bad := rfl
@[simp] theorem ofO_some {α : Type} (a : α) : ofO (some a) S = .ok a S := rfl
@[simp] theorem ofO_none {α : Type} : ofO (none : Option α) S = .bad := rfl
@[simp] theorem mVar_ap (i : Nat) : mVar i r S = (match r[i]? with | some (some d) => .ok d S | _ => .bad) := rfl
@[simp] theorem mC_ap (d : D) : mC d r S = .ok d S := rfl
@[simp] theorem mNil_ap : mNil r S = .ok [] S := rfl
@[simp] theorem mCons_ap : mCons m ms r S = (m r S).bind fun d S1 => (ms r S1).bind fun ds S2 => .ok (d :: ds) S2 := rfl
@[simp] theorem mTup_ap : mTup ms r S = (ms r S).bind fun ds S1 => if ds.length ≤ 100000 then .ok (.tup ds) S1 else .bad := rfl
@[simp] theorem mLst_ap : mLst ms r S = (ms r S).bind fun ds S1 => if ds.length ≤ 100000 then .ok (.lst ds) S1 else .bad := rfl
@[simp] theorem mNewL_ap : mNewL ms r S = (ms r S).bind fun ds S1 => if ds.length ≤ 100000 then .ok (.loc S1.length) (S1 ++ [.lst ds]) else .bad := rfl
@[simp] theorem mBin_ap (f : D → D → Store → Option D) : mBin f ma mb r S = (ma r S).bind fun a S1 => (mb r S1).bind fun b S2 => ofO (f a b S2) S2 := rfl
@[simp] theorem mUn_ap (f : D → Store → Option D) : mUn f ma r S = (ma r S).bind fun a S1 => ofO (f a S1) S1 := rfl
@[simp] theorem mCall_ap (f : List D → Store → Option D) : mCall f ms r S = (ms r S).bind fun ds S1 => ofO (f ds S1) S1 := rfl
@[simp] theorem mT_ap : mT m r S = (m r S).bind fun d S1 => ofO (asB d) S1 := rfl
@[simp] theorem asB_bl (b : Bool) : asB (.bl b) = some b := rfl
@[simp] theorem mTru_ap : mTru m r S = (m r S).bind fun d S1 => ofO (truD d S1) S1 := rfl
@[simp] theorem mNotT_ap : mNotT ta r S = (ta r S).bind fun b S1 => .ok (!b) S1 := rfl
@[simp] theorem mAndT_ap : mAndT ta tb r S = (ta r S).bind fun b S1 => if b = true then tb r S1 else .ok false S1 := rfl
@[simp] theorem mOrT_ap : mOrT ta tb r S = (ta r S).bind fun b S1 => if b = true then .ok true S1 else tb r S1 := rfl
@[simp] theorem mAnd_ap : mAnd ma mb r S = (ma r S).bind fun d S1 => match d with
  | .bl true => mb r S1
  | .bl false => .ok (.bl false) S1
  | _ => .bad := rfl
@[simp] theorem mOr_ap : mOr ma mb r S = (ma r S).bind fun d S1 => match d with
  | .bl true => .ok (.bl true) S1
  | .bl false => mb r S1
  | _ => .bad := rfl
@[simp] theorem mNot_ap : mNot ma r S = (ma r S).bind fun d S1 => match d with
  | .bl b => .ok (.bl (!b)) S1
  | _ => .bad := rfl
@[simp] theorem mIf_ap : mIf ta ma mb r S = (ta r S).bind fun b S1 => if b = true then ma r S1 else mb r S1 := rfl
@[simp] theorem mChain_ap (f f' : D → D → Store → Option D) : mChain f f' ma mb mc r S = (ma r S).bind fun a S1 => (mb r S1).bind fun b S2 => (ofO (f a b S2) S2).bind fun d S3 => match d with
  | .bl true => (mc r S3).bind fun c S4 => ofO (f' b c S4) S4
  | .bl false => .ok (.bl false) S3
  | _ => .bad := rfl
@[simp] theorem bs_ok {α : Type} (a : α) (f : α → Store → Z) : bindS (.ok a S) r f = f a S := rfl
@[simp] theorem bs_exc {α : Type} (n : Str) (f : α → Store → Z) : bindS (.exc n S : R α) r f = .exc n r S := rfl
@[simp] theorem bs_bad {α : Type} (f : α → Store → Z) : bindS (.bad : R α) r f = .bad := rfl
@[simp] theorem sNil_ap : sNil r S = .ok .next r S := rfl
@[simp] theorem sSeq_ap : sSeq sa sb r S = (match sa r S with | .ok .next r1 S1 => sb r1 S1 | z => z) := rfl
@[simp] theorem sSet_ap (i : Nat) : sSet i m r S = bindS (m r S) r fun d S1 => .ok .next (r.set i (some d)) S1 := rfl
@[simp] theorem sDrop_ap : sDrop m r S = bindS (m r S) r fun _ S1 => .ok .next r S1 := rfl
@[simp] theorem sRet_ap : sRet m r S = bindS (m r S) r fun d S1 => .ok (.ret d) r S1 := rfl
@[simp] theorem sRetN_ap : sRetN r S = .ok (.ret .non) r S := rfl
@[simp] theorem sIf_ap : sIf ta sa sb r S = bindS (ta r S) r fun k S1 => if k = true then sa r S1 else sb r S1 := rfl
@[simp] theorem sBrk_ap : sBrk r S = .ok .brk r S := rfl
@[simp] theorem sCont_ap : sCont r S = .ok .cont r S := rfl
@[simp] theorem sNever_ap : sNever r S = .bad := rfl
@[simp] theorem sForget_ap (i : Nat) : sForget i sa r S = sa (r.set i none) S := rfl
@[simp] theorem sAug_ap (i : Nat) (f : Int → Int → Int) : sAug i f m r S = (match r[i]? with
  | some (some (.int a)) => bindS (m r S) r fun d S1 => match d with
    | .int b => .ok .next (r.set i (some (.int (f a b)))) S1
    | _ => .bad
  | _ => .bad) := rfl
@[simp] theorem sPar_ap (i j : Nat) : sPar i j ms r S = bindS (ms r S) r fun ds S1 => match ds with
  | [a, b] => .ok .next ((r.set i (some a)).set j (some b)) S1
  | _ => .bad := rfl
@[simp] theorem tgN_ap (i : Nat) (d : D) : tgN i d r = some (r.set i (some d)) := rfl
@[simp] theorem tgsNil_ap : tgsNil [] r = some r := rfl
@[simp] theorem tgsCons_ap (a : D → Env → Option Env) (b : List D → Env → Option Env) (d : D) (ds : List D) : tgsCons a b (d :: ds) r = (a d r).bind fun r1 => b ds r1 := rfl
@[simp] theorem tgT_ap (n : Nat) (b : List D → Env → Option Env) (ds : List D) : tgT n b (.tup ds) r = if ds.length = n then b ds r else none := rfl
@[simp] theorem sAsg_ap (gm : D → Env → Option Env) : sAsg m gm r S = bindS (m r S) r fun d S1 => match gm d r with
  | some r1 => .ok .next r1 S1
  | none => .bad := rfl
@[simp] theorem sFor_ap (im : IM) (gm : D → Env → Option Env) : sFor im gm sb r S = bindS (im r S) r fun ds S1 => sLoop gm sb ds r S1 := rfl
@[simp] theorem mIter_ap : mIter m r S = (m r S).bind fun d S1 => ofO (seqD d) S1 := rfl
@[simp] theorem mRng1_ap : mRng1 ms r S = (ms r S).bind fun ds S1 => ofO (rng1 ds) S1 := rfl
@[simp] theorem mRng2_ap : mRng2 ms r S = (ms r S).bind fun ds S1 => ofO (rng2 ds) S1 := rfl
@[simp] theorem mZip_ap : mZip ms r S = (ms r S).bind fun ds S1 => ofO (zipD ds) S1 := rfl
@[simp] theorem mLc_ap (im : IM) (vs : List Nat) (gm : D → Env → Option Env) (te : EM) : mLc im vs gm ta te r S = (im r S).bind fun ds S1 => (lcL gm ta te (wipeE r vs) ds S1).bind fun ys S2 => .ok (.lst ys) S2 := rfl
@[simp] theorem mYes_ap : mYes r S = .ok true S := rfl
@[simp] theorem nox_ok {α : Type} (a : α) : nox (.ok a S) = .ok a S := rfl
@[simp] theorem mApp_ap (n : Nat) (F : List D → Store → R D) : mApp n F ms r S = (ms r S).bind fun ds S1 => if ds.length = n then F ds S1 else .bad := rfl
@[simp] theorem mNoP_ap : mNoP r S = .ok none S := rfl
@[simp] theorem mP_ap : mP m r S = (m r S).bind fun d S1 => match d with
  | .int i => .ok (some i) S1
  | _ => .bad := rfl
@[simp] theorem mSl_ap (ml mh : OM) : mSl m ml mh r S = (m r S).bind fun d S1 => (ml r S1).bind fun lo S2 => (mh r S2).bind fun hi S3 => ofO (slD d lo hi S3) S3 := rfl
@[simp] theorem mAppend_ap : mAppend mo m r S = (mo r S).bind fun o S1 => if isLoc o S1 = true then (m r S1).bind fun d S2 => appD o d S2 else .bad := rfl
@[simp] theorem isLoc_ap (n : Nat) : isLoc (.loc n) S = (match S[n]? with | some (.lst _) => true | _ => false) := rfl
@[simp] theorem appD_ap (n : Nat) (d : D) : appD (.loc n) d S = (match S[n]? with
    | some (.lst xs) => if xs.length < 100000 then .ok .non (S.set n (.lst (xs ++ [d]))) else .bad
    | _ => .bad) := rfl
@[simp] theorem mPop_ap : mPop mo r S = (mo r S).bind fun o S1 => popD o S1 := rfl
@[simp] theorem popD_ap (n : Nat) : popD (.loc n) S = (match S[n]? with
    | some (.lst xs) => match xs[xs.length - 1]? with
      | some d => .ok d (S.set n (.lst xs.dropLast))
      | none => .bad
    | _ => .bad) := rfl
@[simp] theorem sSetIx_ap : sSetIx mo mi m r S = bindS (m r S) r fun d S1 => bindS (mo r S1) r fun o S2 => bindS (mi r S2) r fun i S3 => putD o i d r S3 := rfl
@[simp] theorem putD_ap (n : Nat) (k : Int) (d : D) : putD (.loc n) (.int k) d r S = (match S[n]? with
    | some (.lst xs) => match ixN xs.length k with
      | some j => .ok .next r (S.set n (.lst (xs.set j d)))
      | none => .bad
    | _ => .bad) := rfl
@[simp] theorem sAugIx_ap (f : Int → Int → Int) : sAugIx f mo mi m r S = bindS (mo r S) r fun o S1 => bindS (mi r S1) r fun i S2 => bindS (ofO (getL o i S2) S2) r fun x S3 => bindS (m r S3) r fun y S4 => bindS (ofO (ipD f x y) S4) r fun z S5 => putD o i z r S5 := rfl
@[simp] theorem getL_ap (n : Nat) (k : Int) : getL (.loc n) (.int k) S = (match S[n]? with
    | some (.lst xs) => if 0 ≤ k then xs[k.toNat]? else none
    | _ => none) := rfl
@[simp] theorem ipD_ap (f : Int → Int → Int) (a b : Int) : ipD f (.int a) (.int b) = some (.int (f a b)) := rfl
@[simp] theorem mFld_ap (c f : Str) : mFld c f m r S = (m r S).bind fun a S1 => ofO (fldD c f a S1) S1 := rfl
@[simp] theorem fldD_ap (c f : Str) (n : Nat) : fldD c f (.loc n) S = (match S[n]? with
    | some (.ins c' fs) => if c' = c then fs.lookup f else none
    | _ => none) := rfl
@[simp] theorem sFldD_ap (c f : Str) : sFldD c f mo m r S = bindS (m r S) r fun v S1 => bindS (mo r S1) r fun o S2 => setFD c f o v r S2 := rfl
@[simp] theorem setFD_ap (c f : Str) (n : Nat) (v : D) : setFD c f (.loc n) v r S = (match S[n]? with
    | some (.ins c' fs) => if c' = c ∧ fs.length < 900 then .ok .next r (S.set n (.ins c' (putFD f v fs))) else .bad
    | _ => .bad) := rfl
@[simp] theorem sFldAugD_ap (c f : Str) (h : Int → Int → Int) : sFldAugD c f h mo m r S = bindS (mo r S) r fun o S1 => bindS (ofO (fldD c f o S1) S1) r fun x S2 => bindS (m r S2) r fun y S3 => bindS (ofO (ipD h x y) S3) r fun z S4 => setFD c f o z r S4 := rfl
@[simp] theorem isIns_ap (c mth : Str) (n : Nat) : isIns c mth (.loc n) S = (match S[n]? with
    | some (.ins c' fs) => decide (c' = c) && (fs.lookup mth).isNone
    | _ => false) := rfl
@[simp] theorem mMeth_ap (c mth : Str) (n : Nat) (F : List D → Store → R D) : mMeth c mth n F mo ms r S = (mo r S).bind fun o S1 => if isIns c mth o S1 = true then (ms r S1).bind fun ds S2 => if (o :: ds).length = n then F (o :: ds) S2 else .bad else .bad := rfl
@[simp] theorem mMake_ap (c : Str) (n : Nat) (F : List D → Store → R D) : mMake c n F ms r S = (ms r S).bind fun ds S1 => if (ds.length + 1) = n then (nox (F (.loc S1.length :: ds) (S1 ++ [.ins c []]))).bind fun d S2 => match d with
  | .non => .ok (.loc S1.length) S2
  | _ => .bad else .bad := rfl
@[simp] theorem sLoop_nil (gm : D → Env → Option Env) : sLoop gm sb [] r S = .ok .next r S := rfl
/-! by values -/
@[simp] theorem subD_int (i j : Int) : subD (.int i) (.int j) S = some (.int (i - j)) := rfl
@[simp] theorem addD_int (i j : Int) : addD (.int i) (.int j) S = some (.int (i + j)) := rfl
@[simp] theorem addD_lst (xs ys : List D) : addD (.lst xs) (.lst ys) S = if xs.length + ys.length ≤ 100000 then some (.lst (xs ++ ys)) else none := rfl
@[simp] theorem addD_tup (xs ys : List D) : addD (.tup xs) (.tup ys) S = if xs.length + ys.length ≤ 100000 then some (.tup (xs ++ ys)) else none := rfl
@[simp] theorem fdivD_int (i j : Int) : fdivD (.int i) (.int j) S = if 0 < j ∧ j < 1073741824 then some (.int (i / j)) else none := rfl
@[simp] theorem modD_int (i j : Int) : modD (.int i) (.int j) S = if 0 < j then some (.int (i % j)) else none := rfl
@[simp] theorem negD_int (i : Int) : negD (.int i) S = some (.int (-i)) := rfl
@[simp] theorem mulD_int (i j : Int) : mulD (.int i) (.int j) S = if (-(2 ^ 64) < i ∧ i < 2 ^ 64) ∨ (-(2 ^ 64) < j ∧ j < 2 ^ 64) then some (.int (i * j)) else none := rfl
@[simp] theorem mulD_lst (xs : List D) (k : Int) : mulD (.lst xs) (.int k) S = if -100000 ≤ k ∧ k ≤ 100000 ∧ xs.length * k.toNat ≤ 100000 then some (.lst (List.replicate k.toNat xs).flatten) else none := rfl
@[simp] theorem ltD_int (i j : Int) : ltD (.int i) (.int j) S = some (.bl (decide (i < j))) := rfl
@[simp] theorem leD_int (i j : Int) : leD (.int i) (.int j) S = some (.bl (decide (i ≤ j))) := rfl
@[simp] theorem gtD_int (i j : Int) : gtD (.int i) (.int j) S = some (.bl (decide (j < i))) := rfl
@[simp] theorem geD_int (i j : Int) : geD (.int i) (.int j) S = some (.bl (decide (j ≤ i))) := rfl
@[simp] theorem eqD_int (i j : Int) : eqD (.int i) (.int j) S = some (.bl (decide (i = j))) := rfl
@[simp] theorem neD_int (i j : Int) : neD (.int i) (.int j) S = some (.bl (!decide (i = j))) := rfl
@[simp] theorem lenD_lst (xs : List D) : lenD [.lst xs] S = some (.int xs.length) := rfl
@[simp] theorem lenD_tup (xs : List D) : lenD [.tup xs] S = some (.int xs.length) := rfl
@[simp] theorem lenD_scr (xs : List Int) : lenD [.scr xs] S = some (.int xs.length) := rfl
@[simp] theorem lenD_loc (n : Nat) : lenD [.loc n] S = (match S[n]? with
    | some (.lst xs) => some (.int xs.length)
    | _ => none) := rfl
@[simp] theorem absD_int (i : Int) : absD [.int i] S = some (.int (if i < 0 then -i else i)) := rfl
@[simp] theorem intD_bl (b : Bool) : intD [.bl b] S = some (.int (if b = true then 1 else 0)) := rfl
@[simp] theorem tupD_lst (xs : List D) : tupD [.lst xs] S = some (.tup xs) := rfl
@[simp] theorem tupD_loc (n : Nat) : tupD [.loc n] S = (match S[n]? with
    | some (.lst xs) => some (.tup xs)
    | _ => none) := rfl
@[simp] theorem maxD_ints (ns : List Int) : maxD [.lst (ns.map D.int)] S = (maxI ns).map D.int := by
  show ((intsOf (ns.map D.int)).bind maxI).map D.int = _
  rw [intsOf_map]
  rfl
@[simp] theorem sumD_ints (ns : List Int) : sumD [.lst (ns.map D.int)] S = some (.int ns.sum) := by
  show (intsOf (ns.map D.int)).map _ = _
  rw [intsOf_map]
  rfl
@[simp] theorem allD_bls (bs : List Bool) : allD [.lst (bs.map D.bl)] S = some (.bl (bs.all id)) := by
  show (blsOf (bs.map D.bl)).map _ = _
  rw [blsOf_map]
  rfl
@[simp] theorem truD_bl (b : Bool) : truD (.bl b) S = some b := rfl
@[simp] theorem truD_int (i : Int) : truD (.int i) S = some (i != 0) := rfl
@[simp] theorem truD_tup (xs : List D) : truD (.tup xs) S = some (!xs.isEmpty) := rfl
@[simp] theorem truD_lst (xs : List D) : truD (.lst xs) S = some (!xs.isEmpty) := rfl
@[simp] theorem truD_scr (xs : List Int) : truD (.scr xs) S = some (!xs.isEmpty) := rfl
@[simp] theorem truD_loc (n : Nat) : truD (.loc n) S = (match S[n]? with
    | some (.lst xs) => some (!xs.isEmpty)
    | _ => none) := rfl
@[simp] theorem ixD_lst (xs : List D) (i : Int) : ixD (.lst xs) (.int i) S = atI xs i := rfl
@[simp] theorem ixD_tup (xs : List D) (i : Int) : ixD (.tup xs) (.int i) S = atI xs i := rfl
@[simp] theorem ixD_scr (xs : List Int) (i : Int) : ixD (.scr xs) (.int i) S = (atI xs i).map .int := rfl
@[simp] theorem ixD_loc (n : Nat) (i : Int) : ixD (.loc n) (.int i) S = (match S[n]? with
    | some (.lst xs) => atI xs i
    | _ => none) := rfl
@[simp] theorem seqD_lst (xs : List D) : seqD (.lst xs) = some xs := rfl
@[simp] theorem seqD_tup (xs : List D) : seqD (.tup xs) = some xs := rfl
@[simp] theorem seqD_scr (xs : List Int) : seqD (.scr xs) = some (xs.map D.int) := rfl
@[simp] theorem rng1_int (j : Int) : rng1 [.int j] = if -100000 ≤ j ∧ j ≤ 100000 then some (rng 0 j.toNat) else none := rfl
@[simp] theorem rng2_int (i j : Int) : rng2 [.int i, .int j] = if (-100000 ≤ i ∧ i ≤ 100000) ∧ (-100000 ≤ j ∧ j ≤ 100000) then some (rng i (j - i).toNat) else none := rfl
@[simp] theorem slD_lst (xs : List D) (lo hi : Option Int) : slD (.lst xs) lo hi S = some (.lst (cutL xs lo hi)) := rfl
@[simp] theorem slD_tup (xs : List D) (lo hi : Option Int) : slD (.tup xs) lo hi S = some (.tup (cutL xs lo hi)) := rfl
@[simp] theorem wipeE_nil : wipeE r [] = r := rfl
@[simp] theorem wipeE_cons (v : Nat) (vs : List Nat) : wipeE r (v :: vs) = (wipeE r vs).set v none := rfl
@[simp] theorem isND_non : isND .non .non S = some (.bl true) := rfl
end
theorem atI_zero {α : Type} (x : α) (xs : List α) : atI (x :: xs) 0 = some x := atI_nat (j := 0) rfl
theorem atI_neg1 {α : Type} (xs : List α) (x : α) : atI (xs ++ [x]) (-1) = some x := atI_last xs x
theorem ixN_nat {n j : Nat} (h : j < n) : ixN n (j : Int) = some j := by
  unfold ixN
  rw [if_pos (by omega), if_pos (by omega)]
  simp
theorem ixN_zero {n : Nat} (h : 0 < n) : ixN n 0 = some 0 := ixN_nat (j := 0) h
end Dv
/-! what a draw comes to -/
namespace Dv
open PySem L2
def mDraw2 : SM :=
    (sSeq (sDrop (mAppend (mVar 1) (mC (.int 0))))
    (sSeq (sSet 3 (mCall lenD (mCons (mVar 1) mNil)))
    (sSeq (sSet 4 (mIf (mTru (mVar 0)) (mBin ixD (mVar 0) (mBin modD (mVar 3) (mCall lenD (mCons (mVar 0) mNil)))) (mC (.int 0))))
    (sSeq (sSet 5 (mBin modD (mBin ixD (mVar 1) (mC (.int 0))) (mC (.int 65536))))
    (sSeq (sSetIx (mVar 1) (mC (.int 0)) (mBin fdivD (mBin ixD (mVar 1) (mC (.int 0))) (mC (.int 65536))))
    (sSeq (sSet 6 (mBin modD (mBin addD (mBin addD (mVar 4) (mBin mulD (mC (.int 40503)) (mVar 5))) (mBin mulD (mC (.int 104729)) (mVar 3))) (mC (.int 4294967291))))
    (sSeq (sSet 6 (mBin modD (mBin mulD (mBin modD (mBin mulD (mVar 6) (mVar 6)) (mC (.int 4294967279))) (mC (.int 48271))) (mC (.int 4294967291))))
    (sSeq (sSet 7 (mBin modD (mBin mulD (mBin modD (mBin mulD (mVar 6) (mVar 6)) (mC (.int 4294967279))) (mC (.int 69621))) (mC (.int 4294967291))))
    (sRet (mBin modD (mBin addD (mBin mulD (mBin fdivD (mVar 6) (mC (.int 64))) (mC (.int 67108864))) (mBin fdivD (mVar 7) (mC (.int 64)))) (mVar 2)))))))))))
def mDraw : SM :=
    (sSeq (sIf (mNotT (mTru (mVar 1))) (sDrop (mAppend (mVar 1) (mCall maxD (mCons (mBin addD (mLc (mIter (mVar 0)) [4] (tgN 4) mYes (mCall absD (mCons (mVar 4) mNil))) (mLst (mCons (mC (.int 0)) mNil))) mNil)))) sNil)
    mDraw2)
noncomputable def FDraw : List D → Store → R D := runT 8 mDraw
def absI (i : Int) : Int := if i < 0 then -i else i
theorem lc_abs (r0 : Env) (h4 : 4 < r0.length) (S : Store) : ∀ ns : List Int, lcL (tgN 4) mYes (mCall absD (mCons (mVar 4) mNil)) r0 (ns.map D.int) S = .ok ((ns.map absI).map D.int) S
  | [] => rfl
  | n :: ns => by
    have e : (r0.set 4 (some (D.int n)))[4]? = some (some (D.int n)) := List.getElem?_set_self h4
    rw [List.map_cons, lcL]
    simp [lc_abs r0 h4 S ns, absI, h4]
theorem maxI_cons : ∀ (x : Int) (xs : List Int), ∃ m, maxI (x :: xs) = some m
  | x, [] => ⟨x, rfl⟩
  | x, y :: ys => by
    obtain ⟨m, e⟩ := maxI_cons y ys
    show ∃ m, (maxI (y :: ys)).map (fun m => if m < x then x else m) = some m
    rw [e]
    exact ⟨_, rfl⟩
theorem maxI_app : ∀ (xs : List Int) (x : Int), ∃ m, maxI (xs ++ [x]) = some m
  | [], x => ⟨x, rfl⟩
  | y :: ys, x => maxI_cons y (ys ++ [x])
theorem atI_mod {α : Type} (x : α) (xs : List α) (k : Int) : ∃ y, atI (x :: xs) (k % ((xs.length : Int) + 1)) = some y := by
  have h1 : 0 ≤ k % ((xs.length : Int) + 1) := Int.emod_nonneg _ (by omega)
  have h2 : k % ((xs.length : Int) + 1) < xs.length + 1 := Int.emod_lt_of_pos _ (by omega)
  obtain ⟨j, ej⟩ : ∃ j : Nat, k % ((xs.length : Int) + 1) = j := ⟨_, (Int.toNat_of_nonneg h1).symm⟩
  rw [ej] at h2 ⊢
  have h3 : j < (x :: xs).length := by rw [List.length_cons]; omega
  exact ⟨(x :: xs)[j], atI_nat (List.getElem?_eq_getElem h3)⟩
theorem small_mod (a m : Int) (h0 : 0 < m) (h : m ≤ 9223372036854775808) : -(2 ^ 64) < a % m ∧ a % m < 2 ^ 64 := by
  have h1 := Int.emod_nonneg a (show m ≠ 0 by omega)
  have h2 := Int.emod_lt_of_pos a h0
  constructor <;> omega
theorem gs {S : Store} {t : Nat} {o : O} (h : S[t]? = some o) (o' : O) : (List.set S t o')[t]? = some o' := List.getElem?_set_self (List.getElem?_eq_some_iff.mp h).1
/-- what a draw tells, and what is left of the town -/
theorem draw_tail (ns ts : List Int) (t0 many : Int) (S : Store) (t : Nat) (hS : S[t]? = some (.lst ((t0 :: ts).map D.int))) (hl : ts.length < 99990) (hm : 0 < many) (y4 : Option D) : ∃ (r : Int) (ts' : List Int) (rho : Env), 0 ≤ r ∧ r < many ∧ ts'.length = ts.length + 2 ∧
    mDraw2 [some (.scr ns), some (.loc t), some (.int many), none, y4, none, none, none] S =
      .ok (.ret (.int r)) rho (S.set t (.lst (ts'.map D.int))) := by
  have ht : t < S.length := (List.getElem?_eq_some_iff.mp hS).1
  obtain ⟨c, hc⟩ : ∃ c, ∀ S' : Store, (mIf (mTru (mVar 0)) (mBin ixD (mVar 0) (mBin modD (mVar 3) (mCall lenD (mCons (mVar 0) mNil)))) (mC (.int 0))) [some (.scr ns), some (.loc t), some (.int many), some (.int ((ts.length : Int) + 1 + 1)), y4, none, none, none] S' = .ok (.int c) S' := by
    cases ns with
    | nil => exact ⟨0, fun _ => rfl⟩
    | cons n ns =>
      obtain ⟨x, ex⟩ := atI_mod n ns ((ts.length : Int) + 1 + 1)
      refine ⟨x, fun S' => ?_⟩
      have hp : (0 : Int) < (ns.length : Int) + 1 := by omega
      simp [hp, ex]
  have hlt : ts.length + 1 < 100000 := by omega
  have e1 : atI (D.int t0 :: (List.map D.int ts ++ [D.int 0])) 0 = some (D.int t0) := atI_zero _ _
  have e2 : ixN (ts.length + 1 + 1) 0 = some 0 := ixN_zero (by omega)
  have sm : ∀ a : Int, (-18446744073709551616 < a % 4294967291 ∧ a % 4294967291 < 18446744073709551616) := fun a => by omega
  have h : ∃ (a : Int) (rho : Env), mDraw2 [some (.scr ns), some (.loc t), some (.int many), none, y4, none, none, none] S = .ok (.ret (.int (a % many))) rho (S.set t (.lst (((t0 / 65536) :: (ts ++ [0])).map D.int))) := by
    unfold mDraw2
    simp [hS, gs hS, hlt, hc, e1, e2, sm, hm, -mIf_ap]
    exact ⟨_, rfl⟩
  obtain ⟨a, rho, e⟩ := h
  exact ⟨a % many, _, rho, Int.emod_nonneg _ (by omega), Int.emod_lt_of_pos _ hm, by simp, e⟩
theorem start_draw (ns : List Int) (t : Nat) (many : Int) : frame 8 [.scr ns, .loc t, .int many] = [some (.scr ns), some (.loc t), some (.int many), none, none, none, none, none] := rfl
section
variable {S S1 : Store} {rho : Env} {d d' : D}
open Classical in
theorem finT_ret (tr : Tr S S1) (e : fzD S.length S1 d = some d') : finT S (.ok (.ret d) rho S1) = .ok d' (S1.take S.length) := by
  simp only [finT, if_pos tr, e]
open Classical in
theorem finT_next (tr : Tr S S1) : finT S (.ok .next rho S1) = .ok .non (S1.take S.length) := by
  simp only [finT, if_pos tr]
theorem take_app (E : Store) : (S ++ E).take S.length = S := by simp
theorem take_set (n : Nat) (o : O) (E : Store) : (List.set S n o ++ E).take S.length = List.set S n o := by simp
theorem fz_clo (h : clo S.length d = true) : fzD S.length S1 d = some d := by
  cases d with
  | loc m =>
    have : m < S.length := of_decide_eq_true h
    show (if m < S.length then _ else _) = _
    rw [if_pos this]
  | _ => exact (if_pos h : (if clo S.length _ = true then some _ else none) = some _)
/-- a body that leaves the store -/
theorem fin_ret0 (h : clo S.length d = true) : finT S (.ok (.ret d) rho S) = .ok d S := by
  have t := Tr.app S []
  rw [List.append_nil] at t
  rw [finT_ret t (fz_clo h), List.take_length]
theorem fin_next0 : finT S (.ok .next rho S) = .ok .non S := by
  have t := Tr.app S []
  rw [List.append_nil] at t
  rw [finT_next t, List.take_length]
theorem fin_ret_app (E : Store) (h : fzD S.length (S ++ E) d = some d') : finT S (.ok (.ret d) rho (S ++ E)) = .ok d' S := by
  rw [finT_ret (Tr.app S E) h, take_app]
theorem fin_next_app (E : Store) : finT S (.ok .next rho (S ++ E)) = .ok .non S := by
  rw [finT_next (Tr.app S E), take_app]
theorem fin_ret_set (n : Nat) (o : O) (ho : cloO S.length o = true) (h : clo S.length d = true) : finT S (.ok (.ret d) rho (List.set S n o)) = .ok d (List.set S n o) := by
  have t := Tr.set S [] n o ho
  rw [List.append_nil] at t
  rw [finT_ret t (fz_clo h), List.take_of_length_le (by rw [List.length_set]; exact Nat.le_refl _)]
theorem fin_next_set (n : Nat) (o : O) (ho : cloO S.length o = true) : finT S (.ok .next rho (List.set S n o)) = .ok .non (List.set S n o) := by
  have t := Tr.set S [] n o ho
  rw [List.append_nil] at t
  rw [finT_next t, List.take_of_length_le (by rw [List.length_set]; exact Nat.le_refl _)]
theorem fin_ret_set_app (n : Nat) (o : O) (E : Store) (ho : cloO S.length o = true) (h : fzD S.length (List.set S n o ++ E) d = some d') : finT S (.ok (.ret d) rho (List.set S n o ++ E)) = .ok d' (List.set S n o) := by
  rw [finT_ret (Tr.set S E n o ho) h, take_set]
theorem fin_next_set_app (n : Nat) (o : O) (E : Store) (ho : cloO S.length o = true) : finT S (.ok .next rho (List.set S n o ++ E)) = .ok .non (List.set S n o) := by
  rw [finT_next (Tr.set S E n o ho), take_set]
end
theorem draw_ok (ns ts : List Int) (many : Int) (S : Store) (t : Nat) (hS : S[t]? = some (.lst (ts.map D.int))) (h63 : ns.length ≤ 63) (hl : ts.length < 99990) (hm : 0 < many) : ∃ (r : Int) (ts' : List Int), 0 ≤ r ∧ r < many ∧ ts'.length ≤ ts.length + 2 ∧
    FDraw [.scr ns, .loc t, .int many] S = .ok (.int r) (S.set t (.lst (ts'.map D.int))) := by
  have ht : t < S.length := (List.getElem?_eq_some_iff.mp hS).1
  obtain ⟨r, ts', rho, h0, h1, h2, e⟩ : ∃ (r : Int) (ts' : List Int) (rho : Env), 0 ≤ r ∧ r < many ∧ ts'.length ≤ ts.length + 2 ∧ mDraw (frame 8 [.scr ns, .loc t, .int many]) S = .ok (.ret (.int r)) rho (S.set t (.lst (ts'.map D.int))) := by
    rw [start_draw]
    unfold mDraw
    cases ts with
    | nil =>
      obtain ⟨m, em⟩ := maxI_app (ns.map absI) 0
      have hS' : (S.set t (.lst ([m].map D.int)))[t]? = some (.lst ([m].map D.int)) := gs hS _
      obtain ⟨r, ts', rho, h0, h1, h2, e⟩ := draw_tail ns [] m many (S.set t (.lst ([m].map D.int))) t hS' (by simp) hm none
      refine ⟨r, ts', rho, h0, h1, by simp at h2; simp [h2], ?_⟩
      rw [List.set_set] at e
      have hx : ns.length + 1 ≤ 100000 := by omega
      have em' : maxD [D.lst (List.map D.int (List.map absI ns) ++ [D.int 0])] S = some (.int m) := by
        rw [show List.map D.int (List.map absI ns) ++ [D.int 0] = (ns.map absI ++ [0]).map D.int by simp, maxD_ints, em]
        rfl
      rw [← e]
      simp only [List.map_nil] at hS
      have hlc := lc_abs [some (D.scr ns), some (D.loc t), some (D.int many), none, none, none, none, none] (by simp) S ns
      simp [hS, hlc, hx, em', -List.map_map]
    | cons t0 ts =>
      obtain ⟨r, ts', rho, h0, h1, h2, e⟩ := draw_tail ns ts t0 many S t hS (by simp at hl; omega) hm none
      refine ⟨r, ts', rho, h0, h1, by simp [h2], ?_⟩
      rw [← e]
      simp only [List.map_cons] at hS
      simp [hS]
  refine ⟨r, ts', h0, h1, h2, ?_⟩
  show finT S (mDraw (frame 8 _) S) = _
  rw [e]
  exact fin_ret_set t _ (cloL_ints _ _) rfl
end Dv
/-! equality of plain data is equality -/
namespace Dv
open PySem L2
noncomputable instance : DecidableEq D := fun a b => Classical.propDecidable (a = b)
/-- data without bools, not deeper than so -/
def pl : Nat → D → Bool
  | _, .non => true
  | _, .int _ => true
  | _, .str x => PyData.strOk x
  | k + 1, .tup xs => xs.all (pl k)
  | k + 1, .lst xs => xs.all (pl k)
  | _, _ => false
theorem pl_dat : ∀ (k : Nat) (d : D), pl k d = true → dat d = true ∧ (pyD d).canLay0 = true ∧ (pyD d).depth ≤ k
  | _, .non, _ => ⟨rfl, rfl, Nat.zero_le _⟩
  | _, .int _, _ => ⟨rfl, rfl, Nat.zero_le _⟩
  | _, .str x, h => ⟨rfl, by cases ‹Nat› <;> exact h, Nat.zero_le _⟩
  | 0, .tup _, h => by cases h
  | 0, .lst _, h => by cases h
  | 0, .bl _, h => by cases h
  | _ + 1, .bl _, h => by cases h
  | 0, .scr _, h => by cases h
  | _ + 1, .scr _, h => by cases h
  | 0, .dct _, h => by cases h
  | _ + 1, .dct _, h => by cases h
  | 0, .loc _, h => by cases h
  | _ + 1, .loc _, h => by cases h
  | 0, .ty _, h => by cases h
  | _ + 1, .ty _, h => by cases h
  | k + 1, .tup xs, h => by
    have h : xs.all (pl k) = true := h
    have r : ∀ ys : List D, ys.all (pl k) = true → dats ys = true ∧ PyData.canLayAll0 (pyDs ys) = true ∧ PyData.depthAll (pyDs ys) ≤ k := fun ys => by
      induction ys with
      | nil => exact fun _ => ⟨rfl, rfl, Nat.zero_le _⟩
      | cons y ys ih =>
        intro h
        rw [List.all_cons, Bool.and_eq_true] at h
        obtain ⟨a, b, c⟩ := pl_dat k y h.1
        obtain ⟨a', b', c'⟩ := ih h.2
        refine ⟨by show (dat y && dats ys) = true; rw [a, a']; rfl, by show (PyData.canLay0 (pyD y) && PyData.canLayAll0 (pyDs ys)) = true; rw [b, b']; rfl, ?_⟩
        show max (PyData.depth (pyD y)) (PyData.depthAll (pyDs ys)) ≤ k
        omega
    obtain ⟨a, b, c⟩ := r xs h
    exact ⟨a, b, by show PyData.depthAll (pyDs xs) + 1 ≤ _; omega⟩
  | k + 1, .lst xs, h => by
    have h : xs.all (pl k) = true := h
    have r : ∀ ys : List D, ys.all (pl k) = true → dats ys = true ∧ PyData.canLayAll0 (pyDs ys) = true ∧ PyData.depthAll (pyDs ys) ≤ k := fun ys => by
      induction ys with
      | nil => exact fun _ => ⟨rfl, rfl, Nat.zero_le _⟩
      | cons y ys ih =>
        intro h
        rw [List.all_cons, Bool.and_eq_true] at h
        obtain ⟨a, b, c⟩ := pl_dat k y h.1
        obtain ⟨a', b', c'⟩ := ih h.2
        refine ⟨by show (dat y && dats ys) = true; rw [a, a']; rfl, by show (PyData.canLay0 (pyD y) && PyData.canLayAll0 (pyDs ys)) = true; rw [b, b']; rfl, ?_⟩
        show max (PyData.depth (pyD y)) (PyData.depthAll (pyDs ys)) ≤ k
        omega
    obtain ⟨a, b, c⟩ := r xs h
    exact ⟨a, b, by show PyData.depthAll (pyDs xs) + 1 ≤ _; omega⟩
theorem pl_ok {k : Nat} {d : D} (h : pl k d = true) (hk : k ≤ 64) : okD d = true := by
  obtain ⟨a, b, c⟩ := pl_dat k d h
  unfold okD SeqAt.shaped
  rw [a, b, decide_eq_true (show (pyD d).depth ≤ 64 by omega)]
  rfl
theorem pl_all_eqv (k : Nat) (ih : ∀ a b : D, pl k a = true → pl k b = true → (PyData.eqv (pyD a) (pyD b) = true ↔ a = b)) : ∀ xs ys : List D, xs.all (pl k) = true → ys.all (pl k) = true → (PyData.eqvAll (pyDs xs) (pyDs ys) = true ↔ xs = ys)
  | [], [], _, _ => ⟨fun _ => rfl, fun _ => rfl⟩
  | [], y :: ys, _, _ => ⟨(by intro h; cases h), (by intro h; cases h)⟩
  | x :: xs, [], _, _ => ⟨(by intro h; cases h), (by intro h; cases h)⟩
  | x :: xs, y :: ys, h1, h2 => by
    rw [List.all_cons, Bool.and_eq_true] at h1 h2
    show (PyData.eqv (pyD x) (pyD y) && PyData.eqvAll (pyDs xs) (pyDs ys)) = true ↔ _
    rw [Bool.and_eq_true, ih x y h1.1 h2.1, pl_all_eqv k ih xs ys h1.2 h2.2, List.cons.injEq]
theorem pl_eqv : ∀ (k : Nat) (a b : D), pl k a = true → pl k b = true → (PyData.eqv (pyD a) (pyD b) = true ↔ a = b) := fun k => by
  induction k with
  | zero =>
    intro a b ha hb
    cases a <;> cases b <;> first | (simp [pl] at ha; done) | (simp [pl] at hb; done) | simp [pyD, PyData.eqv]
  | succ k ih =>
    intro a b ha hb
    cases a <;> cases b <;> first | (simp [pl] at ha; done) | (simp [pl] at hb; done) | simp [pyD, PyData.eqv]
    · exact pl_all_eqv k ih _ _ ha hb
    · exact pl_all_eqv k ih _ _ ha hb
theorem pl_eqvD {k : Nat} {a b : D} (ha : pl k a = true) (hb : pl k b = true) : eqvD a b = decide (a = b) := by
  by_cases h : a = b
  · rw [decide_eq_true h]
    exact (pl_eqv k a b ha hb).mpr h
  · rw [decide_eq_false h]
    cases q : eqvD a b with
    | false => rfl
    | true => exact absurd ((pl_eqv k a b ha hb).mp q) h
theorem eqO_pl {k : Nat} {a b : D} (ha : pl k a = true) (hb : pl k b = true) (hk : k ≤ 64) : eqO a b = some (decide (a = b)) := by
  have h : (if okD a = true ∧ okD b = true then some (eqvD a b) else none) = some (decide (a = b)) := by
    rw [if_pos ⟨pl_ok ha hk, pl_ok hb hk⟩, pl_eqvD ha hb]
  unfold eqO
  split
  · congr 1
    simp
  · congr 1
    simp
  · congr 1
    simp
  · exact h
theorem eqD_pl {k : Nat} {a b : D} {S : Store} (ha : pl k (now a S) = true) (hb : pl k (now b S) = true) (hk : k ≤ 64) : eqD a b S = some (.bl (decide (now a S = now b S))) := by
  unfold eqD
  rw [eqO_pl ha hb hk]
  rfl
theorem neD_pl {k : Nat} {a b : D} {S : Store} (ha : pl k (now a S) = true) (hb : pl k (now b S) = true) (hk : k ≤ 64) : neD a b S = some (.bl (!decide (now a S = now b S))) := by
  unfold neD
  rw [eqO_pl ha hb hk]
  rfl
theorem any_pl {k : Nat} {a : D} (ha : pl k a = true) : ∀ xs : List D, xs.all (pl k) = true → (xs.any fun z => eqvD z a) = decide (a ∈ xs)
  | [], _ => by simp
  | x :: xs, h => by
    rw [List.all_cons, Bool.and_eq_true] at h
    rw [List.any_cons, any_pl ha xs h.2, pl_eqvD h.1 ha]
    by_cases e : a = x
    · subst e; simp
    · have : ¬ x = a := fun z => e z.symm
      simp [e, this]
theorem inO_pl {k : Nat} {a : D} {xs : List D} (ha : pl k a = true) (hb : xs.all (pl k) = true) (hk : k + 1 ≤ 64) : inO a (.lst xs) = some (decide (a ∈ xs)) := by
  show (if okD a = true ∧ okD (.lst xs) = true then some (xs.any fun z => eqvD z a) else none) = _
  rw [if_pos ⟨pl_ok ha (by omega), pl_ok (k := k + 1) hb hk⟩, any_pl ha xs hb]
theorem pl_rowD (k : Nat) (ns : List Int) : pl (k + 1) (rowD ns) = true := by
  show (ns.map D.int).all (pl k) = true
  rw [List.all_map, List.all_eq_true]
  intro n _
  cases k <;> rfl
theorem pl_rows (k : Nat) (rows : List (List Int)) : (rows.map rowD).all (pl (k + 1)) = true := by
  rw [List.all_map, List.all_eq_true]
  intro n _
  exact pl_rowD k n
theorem map_int_inj {a b : List Int} (h : a.map D.int = b.map D.int) : a = b := by
  induction a generalizing b with
  | nil => cases b with
    | nil => rfl
    | cons => cases h
  | cons x xs ih => cases b with
    | nil => cases h
    | cons y ys =>
      rw [List.map_cons, List.map_cons, List.cons.injEq, D.int.injEq] at h
      rw [h.1, ih h.2]
theorem rowD_inj {a b : List Int} (h : rowD a = rowD b) : a = b := by
  unfold rowD at h
  injection h with h
  exact map_int_inj h
theorem rowD_iff {a b : List Int} : rowD a = rowD b ↔ a = b := ⟨rowD_inj, fun h => by rw [h]⟩
theorem eqD_row {S : Store} (a b : List Int) : eqD (rowD a) (rowD b) S = some (.bl (decide (a = b))) := by
  have := eqD_pl (k := 1) (a := rowD a) (b := rowD b) (S := S) (by exact pl_rowD 0 a) (by exact pl_rowD 0 b) (by decide)
  rw [this]
  congr 2
  exact decide_eq_decide.mpr rowD_iff
theorem neD_row {S : Store} (a b : List Int) : neD (rowD a) (rowD b) S = some (.bl (!decide (a = b))) := by
  have := neD_pl (k := 1) (a := rowD a) (b := rowD b) (S := S) (by exact pl_rowD 0 a) (by exact pl_rowD 0 b) (by decide)
  rw [this]
  congr 3
  exact decide_eq_decide.mpr rowD_iff
theorem mem_rowD {a : List Int} {rows : List (List Int)} : rowD a ∈ rows.map rowD ↔ a ∈ rows := by
  constructor
  · intro h
    obtain ⟨b, hb, e⟩ := List.mem_map.mp h
    rw [← rowD_inj e]
    exact hb
  · exact fun h => List.mem_map.mpr ⟨a, h, rfl⟩
end Dv
/-! loops by invariants; drawn rows -/
namespace Dv
open PySem L2
theorem sLoop_cons (gm : D → Env → Option Env) (b : SM) (d : D) (ds : List D) (r : Env) (S : Store) : sLoop gm b (d :: ds) r S = (match gm d r with
    | none => .bad
    | some r1 => match b r1 S with
      | .ok .next r2 S2 => sLoop gm b ds r2 S2
      | .ok .cont r2 S2 => sLoop gm b ds r2 S2
      | .ok .brk r2 S2 => .ok .next r2 S2
      | .ok (.ret d) r2 S2 => .ok (.ret d) r2 S2
      | .exc x r2 S2 => .exc x r2 S2
      | .bad => .bad) := rfl
/-- a loop that goes through -/
theorem loop_inv {gm : D → Env → Option Env} {b : SM} (I : Nat → Env → Store → Prop) : ∀ (ds : List D) (k : Nat) (r : Env) (S : Store),
    (∀ i d r S, ds[i]? = some d → I (k + i) r S → ∃ r1 r2 S2, gm d r = some r1 ∧ (b r1 S = .ok .next r2 S2 ∨ b r1 S = .ok .cont r2 S2) ∧ I (k + i + 1) r2 S2) →
    I k r S → ∃ r' S', sLoop gm b ds r S = .ok .next r' S' ∧ I (k + ds.length) r' S'
  | [], k, r, S, _, h => ⟨r, S, rfl, h⟩
  | d :: ds, k, r, S, st, h => by
    obtain ⟨r1, r2, S2, e1, e2, h2⟩ := st 0 d r S rfl h
    obtain ⟨r', S', e3, h3⟩ := loop_inv I ds (k + 1) r2 S2 (fun i d' r S q h => by
      have := st (i + 1) d' r S q
      rw [show k + (i + 1) = k + 1 + i by omega] at this
      exact this h) h2
    refine ⟨r', S', ?_, by rw [List.length_cons, show k + (ds.length + 1) = k + 1 + ds.length by omega]; exact h3⟩
    rw [sLoop_cons, e1]
    rcases e2 with e2 | e2 <;> simp only [e2] <;> exact e3
theorem lcL_cons (gm : D → Env → Option Env) (tt : BM) (te : EM) (r0 : Env) (d : D) (ds : List D) (S : Store) : lcL gm tt te r0 (d :: ds) S = (match gm d r0 with
    | none => .bad
    | some r1 => (nox (tt r1 S)).bind fun b S1 => if b = true then (nox (te r1 S1)).bind fun y S2 => (lcL gm tt te r0 ds S2).bind fun ys S3 => .ok (y :: ys) S3 else lcL gm tt te r0 ds S1) := rfl
/-- a comprehension that does things -/
theorem lc_inv {gm : D → Env → Option Env} {te : EM} {r0 : Env} (I : Nat → List D → Store → Prop) : ∀ (ds : List D) (k : Nat) (zs : List D) (S : Store),
    (∀ i d zs S, ds[i]? = some d → I (k + i) zs S → ∃ r1 y S2, gm d r0 = some r1 ∧ te r1 S = .ok y S2 ∧ I (k + i + 1) (zs ++ [y]) S2) →
    I k zs S → ∃ ys S', lcL gm mYes te r0 ds S = .ok ys S' ∧ I (k + ds.length) (zs ++ ys) S'
  | [], k, zs, S, _, h => ⟨[], S, rfl, by rw [List.append_nil]; exact h⟩
  | d :: ds, k, zs, S, st, h => by
    obtain ⟨r1, y, S2, e1, e2, h2⟩ := st 0 d zs S rfl h
    obtain ⟨ys, S', e3, h3⟩ := lc_inv I ds (k + 1) (zs ++ [y]) S2 (fun i d' zs S q h => by
      have := st (i + 1) d' zs S q
      rw [show k + (i + 1) = k + 1 + i by omega] at this
      exact this h) h2
    refine ⟨y :: ys, S', ?_, by rw [List.length_cons, show k + (ds.length + 1) = k + 1 + ds.length by omega]; rwa [List.append_assoc] at h3⟩
    rw [lcL_cons, e1]
    simp [e2, e3]
/-- a comprehension that only tells -/
theorem lc_pure {gm : D → Env → Option Env} {tt : BM} {te : EM} {r0 : Env} {S : Store} (p : D → Bool) (f : D → D) : ∀ ds : List D,
    (∀ d ∈ ds, ∃ r1, gm d r0 = some r1 ∧ tt r1 S = .ok (p d) S ∧ (p d = true → te r1 S = .ok (f d) S)) → lcL gm tt te r0 ds S = .ok ((ds.filter p).map f) S
  | [], _ => rfl
  | d :: ds, h => by
    obtain ⟨r1, e1, e2, e3⟩ := h d List.mem_cons_self
    have ih := lc_pure p f ds fun d h' => h d (List.mem_cons_of_mem _ h')
    rw [lcL_cons, e1]
    cases q : p d with
    | false => simp [e2, q, ih]
    | true => simp [e2, q, e3 q, ih]
theorem lc_map {gm : D → Env → Option Env} {te : EM} {r0 : Env} {S : Store} (f : D → D) (ds : List D)
    (h : ∀ d ∈ ds, ∃ r1, gm d r0 = some r1 ∧ te r1 S = .ok (f d) S) : lcL gm mYes te r0 ds S = .ok (ds.map f) S := by
  have := lc_pure (gm := gm) (tt := mYes) (te := te) (r0 := r0) (S := S) (fun _ => true) f ds fun d hd => by
    obtain ⟨r1, a, b⟩ := h d hd
    exact ⟨r1, a, rfl, fun _ => b⟩
  rw [this, List.filter_eq_self.mpr fun _ _ => rfl]
theorem rng_get {lo : Int} {n i : Nat} {d : D} (h : (rng lo n)[i]? = some d) : i < n ∧ d = .int (lo + i) := by
  unfold rng at h
  rw [List.getElem?_map] at h
  by_cases hi : i < n
  · rw [List.getElem?_range hi] at h
    cases h
    exact ⟨hi, rfl⟩
  · rw [List.getElem?_eq_none (by rw [List.length_range]; omega)] at h
    cases h
theorem rng0_get {n i : Nat} {d : D} (h : (rng 0 n)[i]? = some d) : i < n ∧ d = .int i := by
  obtain ⟨a, b⟩ := rng_get h
  exact ⟨a, by rw [b, Int.zero_add]⟩
/-! ### the town -/
/-- the list at t holds numbers, so many at most -/
def Twn (t n : Nat) (S : Store) : Prop := ∃ ts : List Int, ts.length ≤ n ∧ S[t]? = some (.lst (ts.map D.int))
/-- the two differ by the town alone -/
def Dif (t : Nat) (S S' : Store) : Prop := ∃ ts : List Int, S' = List.set S t (.lst (ts.map D.int))
theorem Twn.mono {t n m : Nat} {S : Store} (h : Twn t n S) (hm : n ≤ m) : Twn t m S := by
  obtain ⟨ts, a, b⟩ := h
  exact ⟨ts, by omega, b⟩
theorem Dif.trans {t : Nat} {S S' S'' : Store} (h : Dif t S S') (h' : Dif t S' S'') : Dif t S S'' := by
  obtain ⟨a, rfl⟩ := h
  obtain ⟨b, rfl⟩ := h'
  exact ⟨b, by rw [List.set_set]⟩
theorem Twn.dif {t n : Nat} {S : Store} (h : Twn t n S) : Dif t S S := by
  obtain ⟨ts, _, b⟩ := h
  refine ⟨ts, ?_⟩
  obtain ⟨h1, h2⟩ := List.getElem?_eq_some_iff.mp b
  rw [← h2, List.set_getElem_self]
theorem Dif.len {t : Nat} {S S' : Store} (h : Dif t S S') : S'.length = S.length := by
  obtain ⟨a, rfl⟩ := h
  exact List.length_set
theorem Dif.other {t i : Nat} {S S' : Store} (h : Dif t S S') (hi : i ≠ t) : S'[i]? = S[i]? := by
  obtain ⟨a, rfl⟩ := h
  exact List.getElem?_set_ne (fun e => hi e.symm)
theorem Dif.fin {t : Nat} {S S' : Store} {rho : Env} {d : D} (h : Dif t S S') (hd : clo S.length d = true) : finT S (.ok (.ret d) rho S') = .ok d S' := by
  obtain ⟨a, rfl⟩ := h
  exact fin_ret_set t _ (cloL_ints _ _) hd
theorem Dif.fin0 {t : Nat} {S S' : Store} {rho : Env} (h : Dif t S S') : finT S (.ok .next rho S') = .ok .non S' := by
  obtain ⟨a, rfl⟩ := h
  exact fin_next_set t _ (cloL_ints _ _)
theorem draw_tw {ns : List Int} {many : Int} {S : Store} {t n : Nat} (h63 : ns.length ≤ 63) (h : Twn t n S) (hn : n < 99990) (hm : 0 < many) : ∃ (r : Nat) (S' : Store), (r : Int) < many ∧ Twn t (n + 2) S' ∧ Dif t S S' ∧ FDraw [.scr ns, .loc t, .int many] S = .ok (.int r) S' := by
  obtain ⟨ts, h1, h2⟩ := h
  obtain ⟨r, ts', a, b, c, e⟩ := draw_ok ns ts many S t h2 h63 (by omega) hm
  refine ⟨r.toNat, _, ?_, ⟨ts', ?_, ?_⟩, ⟨ts', rfl⟩, ?_⟩
  · omega
  · omega
  · exact gs h2 _
  · rw [Int.toNat_of_nonneg a]
    exact e
/-! ### sorting -/
theorem ltR_tri : ∀ a b : List Int, ltR a b = false → ltR b a = false → a = b
  | [], [], _, _ => rfl
  | [], _ :: _, h, _ => by cases h
  | _ :: _, [], _, h => by cases h
  | x :: xs, y :: ys, h1, h2 => by
    rw [ltR, HT.lexLt_cons] at h1 h2
    by_cases e : x = y
    · subst e
      simp only [if_true] at h1 h2
      rw [ltR_tri xs ys h1 h2]
    · rw [if_neg e] at h1
      rw [if_neg (fun z => e z.symm)] at h2
      have := of_decide_eq_false h1
      have := of_decide_eq_false h2
      omega
theorem sortL_strict {α : Type} {lt : α → α → Bool} (O : SrtO.Swo lt) (tri : ∀ a b, lt a b = false → lt b a = false → a = b) {l : List α} (nd : l.Nodup) : (sortL lt l).Pairwise fun a b => lt a b = true := by
  have h1 : (sortL lt l).Pairwise fun a b => lt b a = false := sortL_srtd O l
  have h2 : (sortL lt l).Nodup := (sortL_perm l).nodup_iff.mpr nd
  refine (h1.and h2).imp fun {a b} h => ?_
  cases q : lt a b with
  | true => rfl
  | false => exact absurd (tri a b q h.1) h.2
theorem intsOf_row (r : List Int) (rs : List (List Int)) : intsOf ((r :: rs).map rowD) = none := rfl
theorem sortD_rows {S : Store} (rows : List (List Int)) (h : ∀ r ∈ rows, r ≠ []) : sortD [.lst (rows.map rowD)] S = some (.lst ((sortL ltR rows).map rowD)) := by
  cases rows with
  | nil => rfl
  | cons r rs =>
    show (match intsOf ((r :: rs).map rowD) with
      | some ns => some (D.lst ((sortL ltI ns).map D.int))
      | none => (rowsOf ((r :: rs).map rowD)).map fun rows => D.lst ((sortL ltR rows).map rowD)) = _
    rw [intsOf_row, rowsOf_map h]
    rfl
theorem sortD_ints {S : Store} (ns : List Int) : sortD [.lst (ns.map D.int)] S = some (.lst ((sortL ltI ns).map D.int)) := by
  show (match intsOf (ns.map D.int) with
    | some ns => some (D.lst ((sortL ltI ns).map D.int))
    | none => (rowsOf (ns.map D.int)).map fun rows => D.lst ((sortL ltR rows).map rowD)) = _
  rw [intsOf_map]
theorem cloL_rows (n : Nat) (rows : List (List Int)) : cloL n (rows.map rowD) = true := (cloL_iff n _).mpr fun d hd => by
  obtain ⟨r, _, rfl⟩ := List.mem_map.mp hd
  exact cloL_ints n r
/-! ### drawn rows -/
noncomputable def mRowsB : SM := (sSeq (sSet 7 (mCall tupD (mCons (mLc (mRng1 (mCons (mVar 2) mNil)) [8] (tgN 8) mYes (mApp 3 FDraw (mCons (mVar 0) (mCons (mVar 1) (mCons (mVar 4) mNil))))) mNil)))
    (sSet 5 (mBin addD (mVar 5) (mBin mulD (mLst (mCons (mVar 7) mNil)) (mCall intD (mCons (mBin ninD (mVar 7) (mVar 5)) mNil))))))
noncomputable def mRows : SM :=
    (sSeq (sSet 5 (mLst mNil))
    (sSeq (sFor (mRng1 (mCons (mApp 3 FDraw (mCons (mVar 0) (mCons (mVar 1) (mCons (mBin addD (mVar 3) (mC (.int 1))) mNil)))) mNil)) (tgN 6) mRowsB)
    (sRet (mCall tupD (mCons (mCall sortD (mCons (mVar 5) mNil)) mNil)))))
noncomputable def FRows : List D → Store → R D := runT 9 mRows
/-- a row of such width, of numbers below -/
def Row (width : Nat) (far : Int) (r : List Int) : Prop := r.length = width ∧ ∀ x ∈ r, 0 ≤ x ∧ x < far
theorem rowsB_ok {ns : List Int} {t n width : Nat} {most far : Int} {S : Store} {rows : List (List Int)} (h63 : ns.length ≤ 63) (hw : width ≤ 1000) (hf : 0 < far) (ht : Twn t n S) (hn : n + 2 * width < 99000) (hr : rows.length < 90000) (y6 y7 y8 : Option D) :
    ∃ (row : List Int) (S' : Store) (y7' y8' : Option D), Row width far row ∧ Twn t (n + 2 * width) S' ∧ Dif t S S' ∧
    mRowsB [some (.scr ns), some (.loc t), some (.int width), some (.int most), some (.int far), some (.lst (rows.map rowD)), y6, y7, y8] S =
      .ok .next [some (.scr ns), some (.loc t), some (.int width), some (.int most), some (.int far), some (.lst ((if row ∈ rows then rows else rows ++ [row]).map rowD)), y6, y7', y8'] S' := by
  obtain ⟨ys, S', e, row, h0, h1, h2, h3, h4⟩ := lc_inv (gm := tgN 8) (te := mApp 3 FDraw (mCons (mVar 0) (mCons (mVar 1) (mCons (mVar 4) mNil))))
    (r0 := [some (.scr ns), some (.loc t), some (.int width), some (.int most), some (.int far), some (.lst (rows.map rowD)), y6, y7, none])
    (fun i zs S' => ∃ row : List Int, i ≤ width ∧ zs = row.map D.int ∧ Row i far row ∧ Twn t (n + 2 * i) S' ∧ Dif t S S') (rng 0 width) 0 [] S (fun i d zs S1 hd hi => by
      obtain ⟨hi2, rfl⟩ := rng_get hd
      obtain ⟨row, h0, h1, h2, h3, h4⟩ := hi
      obtain ⟨x, S2, a, b, c, e⟩ := draw_tw h63 h3 (by omega) hf
      refine ⟨_, .int x, S2, rfl, ?_, row ++ [(x : Int)], by omega, ?_, ⟨?_, ?_⟩, b.mono (by omega), h4.trans c⟩
      · simp
        exact e
      · rw [h1]; simp
      · simp [h2.1]
      · intro z hz
        rw [List.mem_append] at hz
        rcases hz with hz | hz
        · exact h2.2 z hz
        · rw [List.mem_singleton] at hz
          subst hz
          omega) ⟨[], Nat.zero_le _, rfl, ⟨rfl, by intro x hx; cases hx⟩, ht.mono (by omega), ht.dif⟩
  rw [rng_len, Nat.zero_add] at h0 h2 h3
  have hin : inO (rowD row) (.lst (rows.map rowD)) = some (decide (row ∈ rows)) := by
    rw [inO_pl (k := 1) (pl_rowD 0 row) (pl_rows 0 rows) (by decide)]
    congr 1
    exact decide_eq_decide.mpr mem_rowD
  have hnin : ninD (rowD row) (.lst (rows.map rowD)) S' = some (.bl (!decide (row ∈ rows))) := by
    show (inO (rowD row) (.lst (rows.map rowD))).map (fun k => D.bl (!k)) = _
    rw [hin]
    rfl
  have hys : ys = row.map D.int := by simpa using h1
  subst hys
  refine ⟨row, S', some (rowD row), y8, h2, h3, h4, ?_⟩
  have hw' : -100000 ≤ (width : Int) ∧ (width : Int) ≤ 100000 := by omega
  have hr' : rows.length ≤ 100000 := by omega
  have hr2 : rows.length + 1 ≤ 100000 := by omega
  unfold mRowsB
  have e' : D.tup (row.map D.int) = rowD row := rfl
  by_cases hm : row ∈ rows
  · simp [hw', e, e', hnin, hm, hr']
  · simp [hw', e, e', hnin, hm, hr', hr2]
theorem rows_ok {ns : List Int} {t n width most : Nat} {far : Int} {S : Store} (h63 : ns.length ≤ 63) (hw0 : 0 < width) (hw : width ≤ 1000) (hf : 0 < far) (ht : Twn t n S) (hn : n + 2 + 2 * width * most < 99000) (hr : most < 90000) :
    ∃ (rows : List (List Int)) (S' : Store), rows.length ≤ most ∧ (∀ r ∈ rows, Row width far r) ∧ (rows.Pairwise fun a b => ltR a b = true) ∧ Twn t (n + 2 + 2 * width * most) S' ∧ Dif t S S' ∧
    FRows [.scr ns, .loc t, .int width, .int most, .int far] S = .ok (.tup (rows.map rowD)) S' := by
  obtain ⟨m, S1, hm, t1, d1, e1⟩ := draw_tw (many := (most : Int) + 1) h63 ht (by omega) (by omega)
  have hmm : m ≤ most := by omega
  obtain ⟨r', S', e, rows, y6, y7, y8, rfl, h0, h1, h2, h3, h4⟩ := loop_inv (gm := tgN 6) (b := mRowsB)
    (fun i r S' => ∃ (rows : List (List Int)) (y6 y7 y8 : Option D), r = [some (.scr ns), some (.loc t), some (.int width), some (.int most), some (.int far), some (.lst (rows.map rowD)), y6, y7, y8] ∧
      rows.length ≤ i ∧ rows.Nodup ∧ (∀ r ∈ rows, Row width far r) ∧ Twn t (n + 2 + 2 * width * i) S' ∧ Dif t S S') (rng 0 m) 0 [some (.scr ns), some (.loc t), some (.int width), some (.int most), some (.int far), some (.lst (([] : List (List Int)).map rowD)), none, none, none] S1 (fun i d r S2 hd hi => by
      obtain ⟨hi2, rfl⟩ := rng_get hd
      obtain ⟨rows, y6, y7, y8, rfl, h0, h1, h2, h3, h4⟩ := hi
      have hle : 2 * width * (0 + i + 1) ≤ 2 * width * most := Nat.mul_le_mul_left _ (by omega)
      have hsu : 2 * width * (0 + i + 1) = 2 * width * (0 + i) + 2 * width := Nat.mul_succ _ _
      obtain ⟨row, S3, y7', y8', a, b, c, e⟩ := rowsB_ok (most := (most : Int)) h63 hw hf h3 (by omega) (show rows.length < 90000 by omega) (some (.int (0 + (i : Int)))) y7 y8
      refine ⟨_, _, S3, rfl, .inl e, (if row ∈ rows then rows else rows ++ [row]), _, _, _, rfl, ?_, ?_, ?_, b.mono (by omega), h4.trans c⟩
      · split
        · omega
        · rw [List.length_append, List.length_singleton]; omega
      · split
        · exact h1
        · rename_i q
          rw [List.nodup_append]
          refine ⟨h1, by simp, fun x hx y hy => ?_⟩
          rw [List.mem_singleton] at hy
          subst hy
          intro e
          subst e
          exact q hx
      · intro z hz
        split at hz
        · exact h2 z hz
        · rw [List.mem_append] at hz
          rcases hz with hz | hz
          · exact h2 z hz
          · rw [List.mem_singleton] at hz
            subst hz
            exact a) ⟨[], none, none, none, rfl, Nat.zero_le _, List.nodup_nil, (by intro x hx; cases hx), t1.mono (by omega), d1⟩
  rw [rng_len, Nat.zero_add] at h0 h3
  have hle : 2 * width * m ≤ 2 * width * most := Nat.mul_le_mul_left _ hmm
  have hne : ∀ r ∈ rows, r ≠ [] := fun r hr e => by
    have := (h2 r hr).1
    rw [e, List.length_nil] at this
    omega
  refine ⟨sortL ltR rows, S', by rw [sortL_len]; omega, fun r hr => h2 r ((sortL_perm rows).mem_iff.mp hr), sortL_strict ltR_swo ltR_tri h1, h3.mono (by omega), h4, ?_⟩
  show finT S (mRows (frame 9 _) S) = _
  have hmr : -100000 ≤ (m : Int) ∧ (m : Int) ≤ 100000 := by omega
  have ef : frame 9 [.scr ns, .loc t, .int width, .int most, .int far] = [some (.scr ns), some (.loc t), some (.int width), some (.int most), some (.int far), none, none, none, none] := rfl
  have eb : ∃ rho, mRows (frame 9 [.scr ns, .loc t, .int width, .int most, .int far]) S = .ok (.ret (.tup ((sortL ltR rows).map rowD))) rho S' := by
    rw [ef]
    unfold mRows
    simp only [List.map_nil] at e
    simp [e1, hmr, e, sortD_rows rows hne]
  obtain ⟨rho, eb⟩ := eb
  rw [eb]
  refine h4.fin ?_
  show cloL _ _ = true
  exact cloL_rows _ _
end Dv
/-! first_at -/
namespace Dv
open PySem L2
def mFirstC : BM := (mT (mBin ltD (mVar 3) (mVar 4)))
def mFirstB : SM := (sSeq (sSet 5 (mBin fdivD (mBin addD (mVar 3) (mVar 4)) (mC (.int 2))))
    (sIf (mT (mBin ltD (mBin ixD (mVar 0) (mVar 5)) (mVar 2))) (sSet 3 (mBin addD (mVar 5) (mC (.int 1)))) (sSet 4 (mVar 5))))
def mFirst (fu : Nat) : SM :=
    (sSeq (sPar 3 4 (mCons (mVar 1) (mCons (mCall lenD (mCons (mVar 0) mNil)) mNil)))
    (sSeq (sWhile mFirstC mFirstB fu)
    (sRet (mVar 3))))
noncomputable def FFirst (fu : Nat) : List D → Store → R D := runT 6 (mFirst fu)
theorem first_loop {seq : D} {row : List Int} {S : Store} {b : Nat} {v : Int} (hix : ∀ i x, row[i]? = some x → ixD seq (.int (i : Nat)) S = some (.int x)) : ∀ (fu lo hi : Nat) (y5 : Option D), lo ≤ hi → hi ≤ row.length → b ≤ lo → hi - lo < fu → (∀ x, b < lo → row[lo - 1]? = some x → x < v) → (∀ x, row[hi]? = some x → v ≤ x) →
    ∃ (p : Nat) (y4 y5' : Option D), b ≤ p ∧ p ≤ row.length ∧ (∀ x, b < p → row[p - 1]? = some x → x < v) ∧ (∀ x, row[p]? = some x → v ≤ x) ∧
    sWhile mFirstC mFirstB fu [some seq, some (.int b), some (.int v), some (.int lo), some (.int hi), y5] S = .ok .next [some seq, some (.int b), some (.int v), some (.int p), y4, y5'] S
  | 0, lo, hi, y5, _, _, _, h, _, _ => by omega
  | fu + 1, lo, hi, y5, h1, h2, h3, h4, h5, h6 => by
    by_cases hlt : lo < hi
    · have e0 : ((lo : Int) + (hi : Int)) / 2 = ((lo + hi) / 2 : Nat) := by omega
      have hm : (lo + hi) / 2 < row.length := by omega
      have ex := hix ((lo + hi) / 2) _ (List.getElem?_eq_getElem hm)
      have ex' : ixD seq (D.int (((lo : Int) + (hi : Int)) / 2)) S = some (.int row[(lo + hi) / 2]) := by
        rw [e0]
        exact ex
      by_cases hx : row[(lo + hi) / 2] < v
      · obtain ⟨p, y4, y5', a1, a2, a3, a4, a5⟩ := first_loop (b := b) (v := v) hix fu ((lo + hi) / 2 + 1) hi (some (.int (((lo + hi) / 2 : Nat) : Int))) (by omega) h2 (by omega) (by omega) (fun x _ q => by
          rw [Nat.add_sub_cancel, List.getElem?_eq_getElem hm] at q
          cases q
          exact hx) h6
        refine ⟨p, y4, y5', a1, a2, a3, a4, ?_⟩
        rw [← a5]
        conv => lhs; unfold sWhile
        have e1 : (((lo + hi) / 2 : Nat) : Int) + 1 = (((lo + hi) / 2 + 1 : Nat) : Int) := by omega
        simp [mFirstC, mFirstB, hlt, ex', hx]
      · obtain ⟨p, y4, y5', a1, a2, a3, a4, a5⟩ := first_loop (b := b) (v := v) hix fu lo ((lo + hi) / 2) (some (.int (((lo + hi) / 2 : Nat) : Int))) (by omega) (by omega) h3 (by omega) h5 (fun x q => by
          rw [List.getElem?_eq_getElem hm] at q
          cases q
          omega)
        refine ⟨p, y4, y5', a1, a2, a3, a4, ?_⟩
        rw [← a5]
        conv => lhs; unfold sWhile
        simp [mFirstC, mFirstB, hlt, ex', hx]
    · have : hi = lo := by omega
      subst this
      refine ⟨hi, some (.int hi), y5, h3, h2, h5, h6, ?_⟩
      unfold sWhile
      simp [mFirstC]
theorem first_ok {seq : D} {row : List Int} {S : Store} {b fu : Nat} {v : Int} (hlen : lenD [seq] S = some (.int row.length)) (hix : ∀ i x, row[i]? = some x → ixD seq (.int (i : Nat)) S = some (.int x)) (hb : b ≤ row.length) (hfu : row.length < fu) :
    ∃ p : Nat, b ≤ p ∧ p ≤ row.length ∧ (∀ x, b < p → row[p - 1]? = some x → x < v) ∧ (∀ x, row[p]? = some x → v ≤ x) ∧ FFirst fu [seq, .int b, .int v] S = .ok (.int p) S := by
  obtain ⟨p, y4, y5', a1, a2, a3, a4, a5⟩ := first_loop (b := b) (v := v) hix fu b row.length none hb (Nat.le_refl _) (Nat.le_refl _) (by omega) (fun x h => by omega) (fun x h => by
    rw [List.getElem?_eq_none (Nat.le_refl _)] at h
    cases h)
  refine ⟨p, a1, a2, a3, a4, ?_⟩
  show finT S (mFirst fu (frame 6 _) S) = _
  have ef : frame 6 [seq, .int b, .int v] = [some seq, some (.int b), some (.int v), none, none, none] := rfl
  have eb : ∃ rho, mFirst fu (frame 6 [seq, .int b, .int v]) S = .ok (.ret (.int p)) rho S := by
    rw [ef]
    unfold mFirst
    simp [hlen, a5]
  obtain ⟨rho, eb⟩ := eb
  rw [eb]
  exact fin_ret0 rfl
end Dv
/-! Lookers -/
namespace Dv
open PySem L2
def mEnd : SM :=
    (sRet (mAnd (mBin neD (mFld "Looker" "levels" (mVar 0)) (mLst mNil)) (mBin eqD (mBin ixD (mBin ixD (mFld "Looker" "levels" (mVar 0)) (mUn negD (mC (.int 1)))) (mC (.int 2))) (mBin ixD (mBin ixD (mFld "Looker" "levels" (mVar 0)) (mUn negD (mC (.int 1)))) (mC (.int 1))))))
noncomputable def FEnd : List D → Store → R D := runT 1 mEnd
noncomputable def mBehind (fu : Nat) : SM :=
    (sSeq (sAsg (mBin ixD (mFld "Looker" "levels" (mVar 0)) (mUn negD (mC (.int 1)))) (tgT 3 (tgsCons (tgN 3) (tgsCons (tgN 4) (tgsCons (tgN 5) tgsNil)))))
    (sSeq (sSet 2 (mLc (mIter (mSl (mFld "Looker" "rows" (mVar 0)) mNoP (mP (mVar 4)))) [6] (tgN 6) mYes (mBin ixD (mVar 6) (mBin subD (mCall lenD (mCons (mFld "Looker" "levels" (mVar 0)) mNil)) (mC (.int 1))))))
    (sRet (mApp 3 (FFirst fu) (mCons (mVar 2) (mCons (mVar 5) (mCons (mBin addD (mVar 1) (mC (.int 1))) mNil)))))))
noncomputable def FBehind (fu : Nat) : List D → Store → R D := runT 7 (mBehind fu)
noncomputable def mKey (rs : SM) : SM :=
    (sSeq (sIf (mOrT (mNotT (mTru (mFld "Looker" "levels" (mVar 0)))) (mTru (mMeth "Looker" "at_end" 1 FEnd (mVar 0) mNil))) rs sNil)
    (sRet (mBin ixD (mBin ixD (mFld "Looker" "rows" (mVar 0)) (mBin ixD (mBin ixD (mFld "Looker" "levels" (mVar 0)) (mUn negD (mC (.int 1)))) (mC (.int 2)))) (mBin subD (mCall lenD (mCons (mFld "Looker" "levels" (mVar 0)) mNil)) (mC (.int 1))))))
noncomputable def FKey (rs : SM) : List D → Store → R D := runT 1 (mKey rs)
noncomputable def mOpened (rk rs : SM) (fu : Nat) : SM :=
    (sSeq (sIf (mOrT (mT (mBin eqD (mFld "Looker" "rows" (mVar 0)) (mTup mNil))) (mOrT (mTru (mMeth "Looker" "at_end" 1 FEnd (mVar 0) mNil)) (mT (mBin eqD (mCall lenD (mCons (mFld "Looker" "levels" (mVar 0)) mNil)) (mCall lenD (mCons (mBin ixD (mFld "Looker" "rows" (mVar 0)) (mC (.int 0))) mNil)))))) rs sNil)
    (sIf (mTru (mFld "Looker" "levels" (mVar 0))) (sSeq (sAsg (mBin ixD (mFld "Looker" "levels" (mVar 0)) (mUn negD (mC (.int 1)))) (tgT 3 (tgsCons (tgN 1) (tgsCons (tgN 2) (tgsCons (tgN 3) tgsNil)))))
    (sDrop (mAppend (mFld "Looker" "levels" (mVar 0)) (mTup (mCons (mVar 3) (mCons (mMeth "Looker" "behind" 2 (FBehind fu) (mVar 0) (mCons (mMeth "Looker" "key" 1 (FKey rk) (mVar 0) mNil) mNil)) (mCons (mVar 3) mNil))))))) (sDrop (mAppend (mFld "Looker" "levels" (mVar 0)) (mTup (mCons (mC (.int 0)) (mCons (mCall lenD (mCons (mFld "Looker" "rows" (mVar 0)) mNil)) (mCons (mC (.int 0)) mNil))))))))
noncomputable def FOpened (rk rs : SM) (fu : Nat) : List D → Store → R D := runT 4 (mOpened rk rs fu)
def mUp (rs : SM) : SM :=
    (sSeq (sIf (mNotT (mTru (mFld "Looker" "levels" (mVar 0)))) rs sNil)
    (sDrop (mPop (mFld "Looker" "levels" (mVar 0)))))
noncomputable def FUp (rs : SM) : List D → Store → R D := runT 1 (mUp rs)
def mDepth : SM := (sRet (mCall lenD (mCons (mFld "Looker" "levels" (mVar 0)) mNil)))
noncomputable def FDepth : List D → Store → R D := runT 1 mDepth
noncomputable def mPlace : SM :=
    (sSeq (sIf (mNotT (mTru (mFld "Looker" "levels" (mVar 0)))) (sRet (mTup mNil)) sNil)
    (sSeq (sIf (mTru (mMeth "Looker" "at_end" 1 FEnd (mVar 0) mNil)) (sRet (mSl (mBin ixD (mFld "Looker" "rows" (mVar 0)) (mBin ixD (mBin ixD (mFld "Looker" "levels" (mVar 0)) (mUn negD (mC (.int 1)))) (mC (.int 0)))) mNoP (mP (mBin subD (mCall lenD (mCons (mFld "Looker" "levels" (mVar 0)) mNil)) (mC (.int 1)))))) sNil)
    (sRet (mSl (mBin ixD (mFld "Looker" "rows" (mVar 0)) (mBin ixD (mBin ixD (mFld "Looker" "levels" (mVar 0)) (mUn negD (mC (.int 1)))) (mC (.int 2)))) mNoP (mP (mCall lenD (mCons (mFld "Looker" "levels" (mVar 0)) mNil)))))))
noncomputable def FPlace : List D → Store → R D := runT 1 mPlace
def mLooks : SM := (sRet (mFld "Looker" "many" (mVar 0)))
noncomputable def FLooks : List D → Store → R D := runT 1 mLooks
def mInitL : SM :=
    (sSeq (sFldD "Looker" "rows" (mVar 0) (mVar 1))
    (sSeq (sFldD "Looker" "levels" (mVar 0) (mNewL mNil))
    (sFldD "Looker" "many" (mVar 0) (mC (.int 0)))))
def FInitL : List D → Store → R D := runK 2 mInitL
/-! ### what they come to -/
def lvD (x : Nat × Nat × Nat) : D := .tup [.int x.1, .int x.2.1, .int x.2.2]
def lkF (rows : List (List Int)) (v : Nat) (m : Int) : List (Str × D) := [("rows", .tup (rows.map rowD)), ("levels", .loc v), ("many", .int m)]
structure Lk (S : Store) (l v : Nat) (rows : List (List Int)) (lv : List (Nat × Nat × Nat)) (m : Int) : Prop where
  o : S[l]? = some (.ins "Looker" (lkF rows v m))
  v : S[v]? = some (.lst (lv.map lvD))
  small : rows.length ≤ 90000 ∧ lv.length ≤ 90000
section
variable {S : Store} {l v : Nat} {rows : List (List Int)} {lv : List (Nat × Nat × Nat)} {m : Int}
theorem lkF_rows : (lkF rows v m).lookup ("rows" : Str) = some (.tup (rows.map rowD)) := rfl
theorem lkF_levels : (lkF rows v m).lookup ("levels" : Str) = some (.loc v) := rfl
theorem lkF_many : (lkF rows v m).lookup ("many" : Str) = some (.int m) := rfl
theorem mth_at_end : (lkF rows v m).lookup ("at_end" : Str) = none := rfl
theorem mth_behind : (lkF rows v m).lookup ("behind" : Str) = none := rfl
theorem mth_key : (lkF rows v m).lookup ("key" : Str) = none := rfl
theorem mth_opened : (lkF rows v m).lookup ("opened" : Str) = none := rfl
theorem mth_up : (lkF rows v m).lookup ("up" : Str) = none := rfl
theorem mth_depth : (lkF rows v m).lookup ("depth" : Str) = none := rfl
theorem mth_place : (lkF rows v m).lookup ("place" : Str) = none := rfl
theorem mth_looks : (lkF rows v m).lookup ("looks" : Str) = none := rfl
theorem atI_lv (x : Nat × Nat × Nat) : atI ((lv ++ [x]).map lvD) (-1) = some (lvD x) := by
  rw [List.map_append]
  exact atI_last _ _
theorem lv_at (x : Nat × Nat × Nat) (i : Int) : ixD (lvD x) (.int i) S = atI [D.int x.1, D.int x.2.1, D.int x.2.2] i := rfl
theorem pl_lvs (k : Nat) (lv : List (Nat × Nat × Nat)) : pl (k + 2) (.lst (lv.map lvD)) = true := by
  show (lv.map lvD).all (pl (k + 1)) = true
  rw [List.all_map, List.all_eq_true]
  intro n _
  cases k <;> rfl
theorem ne_levels (h : Lk S l v rows lv m) : neD (.loc v) (.lst []) S = some (.bl (!decide (lv = []))) := by
  have hn : now (.loc v) S = .lst (lv.map lvD) := by simp [now, h.v]
  rw [neD_pl (k := 2) (by rw [hn]; exact pl_lvs 0 lv) rfl (by decide), hn]
  cases lv with
  | nil => rw [decide_eq_true (show D.lst (List.map lvD []) = now (.lst []) S from rfl), decide_eq_true (rfl : ([] : List (Nat × Nat × Nat)) = [])]
  | cons x xs => rw [decide_eq_false (show ¬ D.lst (List.map lvD (x :: xs)) = now (.lst []) S from by show ¬ D.lst (lvD x :: List.map lvD xs) = D.lst []; simp), decide_eq_false (by simp : ¬ x :: xs = [])]
def endB (lv : List (Nat × Nat × Nat)) : Bool := match lv.getLast? with
  | none => false
  | some x => decide (x.2.2 = x.2.1)
theorem end_ok (h : Lk S l v rows lv m) : FEnd [.loc l] S = .ok (.bl (endB lv)) S := by
  have eb : ∃ rho, mEnd (frame 1 [.loc l]) S = .ok (.ret (.bl (endB lv))) rho S := by
    rw [show frame 1 [.loc l] = [some (.loc l)] from rfl]
    unfold mEnd
    rcases List.eq_nil_or_concat lv with rfl | ⟨lv', x, rfl⟩
    · simp [h.o, lkF_levels, ne_levels h, endB]
    · rw [List.concat_eq_append] at h
      have a2 : atI [D.int x.1, D.int x.2.1, D.int x.2.2] 2 = some (.int x.2.2) := rfl
      have a1 : atI [D.int x.1, D.int x.2.1, D.int x.2.2] 1 = some (.int x.2.1) := rfl
      have hv := h.v
      have := atI_lv (lv := lv') x
      simp [h.o, lkF_levels, ne_levels h, endB, h.v, this, lv_at, a1, a2, -List.map_append]
      omega
  obtain ⟨rho, eb⟩ := eb
  show finT S (mEnd (frame 1 _) S) = _
  rw [eb]
  exact fin_ret0 rfl
theorem depth_ok (h : Lk S l v rows lv m) : FDepth [.loc l] S = .ok (.int lv.length) S := by
  have eb : ∃ rho, mDepth (frame 1 [.loc l]) S = .ok (.ret (.int lv.length)) rho S := by
    rw [show frame 1 [.loc l] = [some (.loc l)] from rfl]
    unfold mDepth
    simp [h.o, lkF_levels, h.v]
  obtain ⟨rho, eb⟩ := eb
  show finT S (mDepth (frame 1 _) S) = _
  rw [eb]
  exact fin_ret0 rfl
theorem looks_ok (h : Lk S l v rows lv m) : FLooks [.loc l] S = .ok (.int m) S := by
  have eb : ∃ rho, mLooks (frame 1 [.loc l]) S = .ok (.ret (.int m)) rho S := by
    rw [show frame 1 [.loc l] = [some (.loc l)] from rfl]
    unfold mLooks
    simp [h.o, lkF_many, h.v]
  obtain ⟨rho, eb⟩ := eb
  show finT S (mLooks (frame 1 _) S) = _
  rw [eb]
  exact fin_ret0 rfl
theorem key_ok {rs : SM} {lo far at_ : Nat} {row : List Int} {y : Int} (h : Lk S l v rows (lv ++ [(lo, far, at_)]) m) (hne : at_ ≠ far) (hr : rows[at_]? = some row) (hy : row[lv.length]? = some y) : FKey rs [.loc l] S = .ok (.int y) S := by
  have eb : ∃ rho, mKey rs (frame 1 [.loc l]) S = .ok (.ret (.int y)) rho S := by
    rw [show frame 1 [.loc l] = [some (.loc l)] from rfl]
    unfold mKey
    have hE := end_ok h
    have hb : endB (lv ++ [(lo, far, at_)]) = false := by simp [endB, hne]
    have a2 : atI [D.int lo, D.int far, D.int at_] 2 = some (.int at_) := rfl
    have a3 : atI (rows.map rowD) (at_ : Int) = some (rowD row) := atI_nat (by rw [List.getElem?_map, hr]; rfl)
    have a4 : ixD (rowD row) (.int (lv.length : Int)) S = some (.int y) := by
      show atI (row.map D.int) _ = _
      exact atI_nat (by rw [List.getElem?_map, hy]; rfl)
    have a5 := atI_lv (lv := lv) (lo, far, at_)
    have a6 : ((lv.length : Int) + 1 - 1) = lv.length := by omega
    simp [h.o, lkF_levels, lkF_rows, h.v, hE, hb, mth_at_end, a2, a3, a4, a5, a6, lv_at, -List.map_append]
  obtain ⟨rho, eb⟩ := eb
  show finT S (mKey rs (frame 1 _) S) = _
  rw [eb]
  exact fin_ret0 rfl
theorem cutL_take {α : Type} (xs : List α) (k : Nat) : cutL xs none (some (k : Int)) = xs.take k := by
  unfold cutL
  rw [HT.sIx_none, HT.sIx_nat, List.drop_zero, Nat.sub_zero]
  by_cases hk : k ≤ xs.length
  · rw [Nat.min_eq_left hk]
  · rw [Nat.min_eq_right (by omega), List.take_length, List.take_of_length_le (by omega)]
def col (rows : List (List Int)) (k : Nat) : List Int := rows.map fun r => r.getD k 0
theorem col_get {k i : Nat} : (col rows k)[i]? = (rows[i]?).map fun r => r.getD k 0 := List.getElem?_map
theorem lc_col {S : Store} {r0 : Env} (h6 : 6 < r0.length) {mi : EM} {k : Nat} (hi : ∀ d, mi (r0.set 6 (some d)) S = .ok (.int k) S) (rows : List (List Int)) (hw : ∀ r ∈ rows, k < r.length) : lcL (tgN 6) mYes (mBin ixD (mVar 6) mi) r0 (rows.map rowD) S = .ok ((col rows k).map D.int) S := by
  rw [lc_map (fun d => match d with | .tup xs => xs.getD k .non | _ => .non)]
  · congr 1
    rw [col, List.map_map, List.map_map]
    refine List.map_congr_left fun r hr => ?_
    have := hw r hr
    simp [rowD, List.getElem?_eq_getElem this]
  · intro d hd
    obtain ⟨r, hr, rfl⟩ := List.mem_map.mp hd
    have := hw r hr
    refine ⟨_, rfl, ?_⟩
    have e : ixD (rowD r) (.int (k : Int)) S = some (.int r[k]) := by
      show atI (r.map D.int) _ = _
      exact atI_nat (by rw [List.getElem?_map, List.getElem?_eq_getElem this]; rfl)
    simp [h6, hi, e]
    simp [rowD, List.getElem?_eq_getElem this]
theorem behind_ok {lo far at_ fu : Nat} {y : Int} (h : Lk S l v rows (lv ++ [(lo, far, at_)]) m) (hw : ∀ r ∈ rows, lv.length < r.length) (ha : at_ ≤ far) (hf : far ≤ rows.length) (hfu : rows.length < fu) :
    ∃ p : Nat, at_ ≤ p ∧ p ≤ far ∧ (∀ x, at_ < p → (col rows lv.length)[p - 1]? = some x → x < y + 1) ∧ (∀ x, p < far → (col rows lv.length)[p]? = some x → y + 1 ≤ x) ∧ FBehind fu [.loc l, .int y] S = .ok (.int p) S := by
  have hlen : (col (rows.take far) lv.length).length = far := by rw [col, List.length_map, List.length_take]; omega
  have hcol : ∀ i, i < far → (col (rows.take far) lv.length)[i]? = (col rows lv.length)[i]? := fun i hi => by
    rw [col_get, col_get, List.getElem?_take_of_lt hi]
  obtain ⟨p, p1, p2, p3, p4, p5⟩ := first_ok (seq := .lst ((col (rows.take far) lv.length).map D.int)) (row := col (rows.take far) lv.length) (S := S) (b := at_) (fu := fu) (v := y + 1) (by simp) (fun i x hx => by
    show atI _ _ = _
    exact atI_nat (by rw [List.getElem?_map, hx]; rfl)) (by omega) (by omega)
  refine ⟨p, p1, by omega, fun x hp hx => p3 x hp (by rw [hcol _ (by omega)]; exact hx), fun x hp hx => p4 x (by rw [hcol _ hp]; exact hx), ?_⟩
  have eb : ∃ rho, mBehind fu (frame 7 [.loc l, .int y]) S = .ok (.ret (.int p)) rho S := by
    rw [show frame 7 [.loc l, .int y] = [some (.loc l), some (.int y), none, none, none, none, none] from rfl]
    unfold mBehind
    have a5 := atI_lv (lv := lv) (lo, far, at_)
    have a6 : ((lv.length : Int) + 1 - 1) = lv.length := by omega
    have ec := lc_col (S := S) (r0 := [some (.loc l), some (.int y), none, some (.int lo), some (.int far), some (.int at_), none]) (by simp) (mi := (mBin subD (mCall lenD (mCons (mFld "Looker" "levels" (mVar 0)) mNil)) (mC (.int 1)))) (k := lv.length) (fun d => by
      simp [h.o, lkF_levels, h.v, a6]) (rows.take far) (fun r hr => hw r (List.mem_of_mem_take hr))
    simp [h.o, lkF_levels, lkF_rows, h.v, a5, lvD, cutL_take, ec, p5, ← List.map_take, -List.map_append, -mBin_ap]
    simp [h.o, lkF_levels, lkF_rows, h.v, a5, lvD, cutL_take, ec, p5, ← List.map_take, -List.map_append]
  obtain ⟨rho, eb⟩ := eb
  show finT S (mBehind fu (frame 7 _) S) = _
  rw [eb]
  exact fin_ret0 rfl
theorem cloL_lvs (n : Nat) (lv : List (Nat × Nat × Nat)) : cloL n (lv.map lvD) = true := (cloL_iff n _).mpr fun d hd => by
  obtain ⟨r, _, rfl⟩ := List.mem_map.mp hd
  rfl
theorem Lk.set (h : Lk S l v rows lv m) (lv' : List (Nat × Nat × Nat)) (hl : lv'.length ≤ 90000) : Lk (List.set S v (.lst (lv'.map lvD))) l v rows lv' m := by
  have hne : v ≠ l := fun e => by
    have h1 := h.o
    have h2 := h.v
    rw [e, h1] at h2
    cases h2
  exact ⟨by rw [List.getElem?_set_ne hne]; exact h.o, gs h.v _, h.small.1, hl⟩
theorem eq_rows (k : Nat) : eqD (.tup (rows.map rowD)) (.tup []) S = some (.bl (decide (rows = []))) := by
  rw [eqD_pl (k := 2) (by exact pl_rows 0 rows) rfl (by decide)]
  congr 2
  refine decide_eq_decide.mpr ?_
  show D.tup (rows.map rowD) = D.tup [] ↔ _
  simp
theorem opened0_ok {rk rs : SM} {fu : Nat} {row : List Int} {rs' : List (List Int)} (h : Lk S l v (row :: rs') [] m) (hr : row ≠ []) : FOpened rk rs fu [.loc l] S = .ok .non (List.set S v (.lst ([(0, rs'.length + 1, 0)].map lvD))) := by
  have eb : ∃ rho, mOpened rk rs fu (frame 4 [.loc l]) S = .ok .next rho (List.set S v (.lst ([(0, rs'.length + 1, 0)].map lvD))) := by
    rw [show frame 4 [.loc l] = [some (.loc l), none, none, none] from rfl]
    unfold mOpened
    have hE := end_ok h
    have hb : endB [] = false := rfl
    have e1 := eq_rows (S := S) (rows := row :: rs') 0
    have a1 : atI ((row :: rs').map rowD) 0 = some (rowD row) := atI_zero _ _
    have a2 : ∀ S, lenD [rowD row] S = some (.int row.length) := fun S => by simp [rowD]
    have a3 : ¬ (0 : Int) = row.length := by
      have := List.length_pos_iff.mpr hr
      omega
    simp [h.o, lkF_levels, lkF_rows, h.v, hE, hb, mth_at_end, e1, a1, a2, a3, -List.map_cons]
    simp [lvD]
  obtain ⟨rho, eb⟩ := eb
  show finT S (mOpened rk rs fu (frame 4 _) S) = _
  rw [eb]
  exact fin_next_set v _ (cloL_lvs _ _)
theorem opened_ok {rk rs : SM} {lo far at_ fu : Nat} {row0 row : List Int} {y : Int} (h : Lk S l v rows (lv ++ [(lo, far, at_)]) m) (h0 : rows[0]? = some row0) (hd : lv.length + 1 < row0.length) (hne : at_ ≠ far) (ha : at_ ≤ far) (hf : far ≤ rows.length)
    (hw : ∀ r ∈ rows, lv.length < r.length) (hr : rows[at_]? = some row) (hy : row[lv.length]? = some y) (hfu : rows.length < fu) :
    ∃ p : Nat, at_ ≤ p ∧ p ≤ far ∧ (∀ x, at_ < p → (col rows lv.length)[p - 1]? = some x → x < y + 1) ∧ (∀ x, p < far → (col rows lv.length)[p]? = some x → y + 1 ≤ x) ∧
    FOpened rk rs fu [.loc l] S = .ok .non (List.set S v (.lst ((lv ++ [(lo, far, at_), (at_, p, at_)]).map lvD))) := by
  obtain ⟨p, p1, p2, p3, p4, p5⟩ := behind_ok (y := y) h hw ha hf hfu
  refine ⟨p, p1, p2, p3, p4, ?_⟩
  have eb : ∃ rho, mOpened rk rs fu (frame 4 [.loc l]) S = .ok .next rho (List.set S v (.lst ((lv ++ [(lo, far, at_), (at_, p, at_)]).map lvD))) := by
    rw [show frame 4 [.loc l] = [some (.loc l), none, none, none] from rfl]
    unfold mOpened
    have hE := end_ok h
    have hb : endB (lv ++ [(lo, far, at_)]) = false := by simp [endB, hne]
    have e1 := eq_rows (S := S) (rows := rows) 0
    have e2 : ¬ rows = [] := fun e => by rw [e] at h0; cases h0
    have a1 : atI (rows.map rowD) 0 = some (rowD row0) := atI_nat (j := 0) (by rw [List.getElem?_map, h0]; rfl)
    have a2 : ∀ S, lenD [rowD row0] S = some (.int row0.length) := fun S => by simp [rowD]
    have a3 : ¬ (lv.length : Int) + 1 = row0.length := by omega
    have a5 := atI_lv (lv := lv) (lo, far, at_)
    have hk := key_ok (rs := rk) h hne hr hy
    have hs : lv.length + 1 < 100000 := by
      have := h.small.2
      simp at this
      omega
    have a6 : (List.map lvD (lv ++ [(lo, far, at_)])).isEmpty = false := by simp
    simp [h.o, lkF_levels, lkF_rows, h.v, hE, hb, mth_at_end, mth_key, mth_behind, e1, e2, a1, a2, a3, a5, a6, hk, p5, hs, -List.map_append]
    simp [lvD, p5, h.o, h.v, lkF_levels, hs, mth_behind, mth_key, hk]
  obtain ⟨rho, eb⟩ := eb
  show finT S (mOpened rk rs fu (frame 4 _) S) = _
  rw [eb]
  exact fin_next_set v _ (cloL_lvs _ _)
theorem up_ok {rs : SM} {x : Nat × Nat × Nat} (h : Lk S l v rows (lv ++ [x]) m) : FUp rs [.loc l] S = .ok .non (List.set S v (.lst (lv.map lvD))) := by
  have eb : ∃ rho, mUp rs (frame 1 [.loc l]) S = .ok .next rho (List.set S v (.lst (lv.map lvD))) := by
    rw [show frame 1 [.loc l] = [some (.loc l)] from rfl]
    unfold mUp
    have a6 : (List.map lvD (lv ++ [x])).isEmpty = false := by simp
    simp [h.o, lkF_levels, h.v, a6, -List.map_append]
    simp
  obtain ⟨rho, eb⟩ := eb
  show finT S (mUp rs (frame 1 _) S) = _
  rw [eb]
  exact fin_next_set v _ (cloL_lvs _ _)
theorem place0_ok (h : Lk S l v rows [] m) : FPlace [.loc l] S = .ok (.tup []) S := by
  have eb : ∃ rho, mPlace (frame 1 [.loc l]) S = .ok (.ret (.tup [])) rho S := by
    rw [show frame 1 [.loc l] = [some (.loc l)] from rfl]
    unfold mPlace
    simp [h.o, lkF_levels, h.v]
  obtain ⟨rho, eb⟩ := eb
  show finT S (mPlace (frame 1 _) S) = _
  rw [eb]
  exact fin_ret0 rfl
theorem place_ok {lo far at_ : Nat} {row : List Int} (h : Lk S l v rows (lv ++ [(lo, far, at_)]) m) (hne : at_ ≠ far) (hr : rows[at_]? = some row) : FPlace [.loc l] S = .ok (rowD (row.take (lv.length + 1))) S := by
  have eb : ∃ rho, mPlace (frame 1 [.loc l]) S = .ok (.ret (rowD (row.take (lv.length + 1)))) rho S := by
    rw [show frame 1 [.loc l] = [some (.loc l)] from rfl]
    unfold mPlace
    have hE := end_ok h
    have hb : endB (lv ++ [(lo, far, at_)]) = false := by simp [endB, hne]
    have a2 : atI [D.int lo, D.int far, D.int at_] 2 = some (.int at_) := rfl
    have a3 : atI (rows.map rowD) (at_ : Int) = some (rowD row) := atI_nat (by rw [List.getElem?_map, hr]; rfl)
    have a5 := atI_lv (lv := lv) (lo, far, at_)
    have a6 : (List.map lvD (lv ++ [(lo, far, at_)])).isEmpty = false := by simp
    have a7 : slD (rowD row) none (some ((lv.length : Int) + 1)) S = some (rowD (row.take (lv.length + 1))) := by
      show some (D.tup (cutL (row.map D.int) none (some ((lv.length + 1 : Nat) : Int)))) = _
      rw [cutL_take, rowD, List.map_take]
    simp [h.o, lkF_levels, lkF_rows, h.v, hE, hb, mth_at_end, a2, a3, a5, a6, a7, lv_at, -List.map_append]
  obtain ⟨rho, eb⟩ := eb
  show finT S (mPlace (frame 1 _) S) = _
  rw [eb]
  exact fin_ret0 (cloL_ints _ _)
theorem makeL_ok (S : Store) (rows : List (List Int)) (hr : rows.length ≤ 90000) : FInitL [.loc S.length, .tup (rows.map rowD)] (S ++ [.ins "Looker" []]) = .ok .non (S ++ [.ins "Looker" (lkF rows (S.length + 1) 0), .lst []]) ∧ Lk (S ++ [.ins "Looker" (lkF rows (S.length + 1) 0), .lst []]) S.length (S.length + 1) rows [] 0 := by
  constructor
  · show finK (mInitL (frame 2 _) _) = _
    rw [show frame 2 [.loc S.length, .tup (rows.map rowD)] = [some (.loc S.length), some (.tup (rows.map rowD))] from rfl]
    unfold mInitL
    have n1 : ¬ (Str.ofString "rows" = Str.ofString "levels") := by decide
    have n2 : ¬ (Str.ofString "rows" = Str.ofString "many") := by decide
    have n3 : ¬ (Str.ofString "levels" = Str.ofString "many") := by decide
    simp [putFD, finK, lkF, n1, n2, n3, List.getElem?_append, List.set_append]
  · exact ⟨by simp, by simp, by omega, by simp⟩
end
end Dv
set_option maxHeartbeats 4000000
/-! set(xs) of a list, by whatever its loop does; sorted(set(xs)) -/
namespace Dv
open PySem PySem.Spec PyProof.Rows L2
abbrev nset (w : World) : Obj := { cls := .type "set", dict := none, data := .set #[] 0 (.fresh 0 0 (!w.params.followText "set-order")) }
abbrev liter (l : Addr) : Obj := { cls := .type "list_iterator", data := .fields #[.ref l, .int 0 0] }
section
variable {P : Program} {w : World} {A : Around} {E : Value → Shared → Prop} {s : Shared}
/-- what the loop has to leave: the set at its address, all else as it was -/
theorem set_of_list {l : Addr} {xs : Array Value} {Q : Value → Shared → Prop} (G : Heap → Prop) (hl : s.heap.IsList l xs)
    (lp : ∀ R : Result → Shared → Prop, (∀ h' tk, G h' → (∀ b o, s.heap.get? b = some o → h'.get? b = some o) → R (.ok (.ret .none)) { s with heap := h', toks := tk }) →
      ((s.heap.push (nset w)).push (liter l)).IsList l xs → codeAny (model P w) A.in1.in1 (.builtin "set.update.loop" ⟨[.ref s.heap.objs.size, .ref (s.heap.objs.size + 1)], []⟩) R { s with heap := (s.heap.push (nset w)).push (liter l) })
    (fin : ∀ h' tk, G h' → (∀ b o, s.heap.get? b = some o → h'.get? b = some o) → Q (.ref s.heap.objs.size) { s with heap := h', toks := tk }) : wpAny (model P w) A (call (.type "set") [.ref l]) Q E s := by
  obtain ⟨cc, tt, hmro⟩ := F.called_set.mro
  have k1 := F.called_set.made
  have k2 := F.called_set.sub
  refine wpAny_call (codeAny_of_tree ?_)
  show wpAny _ _ (callAny (.type "set") _) _ _ _
  refine wpAny_pure ⟨Code.quiet_builtin _ (by decide +kernel), codeAny_builtin F.entry_type_call ?_⟩
  rw [Around.under_plain (weight_type_call_type "set" [.ref l] []) rfl]
  have k3 := F.called_set.notType
  have k4 := F.called_set.canCreate
  have k5 := F.typeCall_set_1 (.ref l)
  repeat (any_goals (first | assumption | wp_step))
  have e0 : (s.heap.push (nset w)).get? s.heap.objs.size = some (nset w) := Heap.get?_push_size _ rfl
  refine codeAny_mono (code_set_led1 (.ref l) (E := E) (Q₁ := fun v u => v = .ref s.heap.objs.size ∧ u = { s with heap := s.heap.push (nset w) }) ⟨rfl, rfl⟩) fun r u hr => ?_
  cases r with
  | error e => exact hr
  | ok fl =>
    cases fl with
    | ret obj =>
      obtain ⟨rfl, rfl⟩ := hr
      have ty : Shared.TypeIs { s with heap := s.heap.push (nset w) } (.ref s.heap.objs.size) "set" := ⟨_, e0, rfl⟩
      have k6 := F.called_set.init.lookup
      have k7 := F.called_set.init.bind (.ref s.heap.objs.size)
      repeat (any_goals (first | assumption | wp_step))
      refine codeAny_mono (codeAny_call_builtin (R := wants (fun r u => r = .none ∧ ∃ h' tk, u = { s with heap := h', toks := tk } ∧ G h' ∧ ∀ b o, s.heap.get? b = some o → h'.get? b = some o) E) F.called_set.init.plain F.entry_set_init (check_set_init_1 ty ?_)) fun r2 u2 hr2 => ?_
      · obtain ⟨ol, hol, hcl, nl, hdl⟩ := hl
        obtain ⟨ocls, odict, odata, oslots⟩ := ol
        simp only at hcl hdl
        subst hcl; subst hdl
        have there : (s.heap.push (nset w)).get? l = some { cls := .type "list", dict := odict, data := .seq xs nl, slots := oslots } := Heap.get?_push_of_some _ hol
        have k8 := F.sub_list_set
        have k9 := F.sub_list_frozenset
        have k10 : (Value.type "list" == Value.type "dict") = false := by decide
        have isl : (s.heap.push (nset w)).IsList l xs := ⟨_, there, rfl, nl, rfl⟩
        unfold Builtin.«set.__init__» noKeywords Builtin.Frozenset.updateFrom
        generalize hPI : pyIter = PI
        wp_walk
        subst hPI
        refine wpAny_pyIter_list isl ?_
        refine wpAny_bind (wpAny_runValue ?_)
        have sz : (s.heap.push (nset w)).objs.size = s.heap.objs.size + 1 := Heap.size_push ..
        rw [sz]
        refine lp _ (fun h' tk g k => ?_) (isl.push _)
        show wpAny _ _ _ _ _ _
        refine wpAny_pure ?_
        show wpAny _ _ (ret Value.none) _ _ _
        exact wpAny_pure ⟨rfl, h', tk, rfl, g, k⟩
      · cases r2 with
        | error e => exact hr2
        | ok f2 =>
          cases f2 with
          | ret r =>
            obtain ⟨rfl, h', tk, rfl, g, k⟩ := hr2
            repeat (any_goals (first | assumption | wp_step))
            exact fin h' tk g k
          | _ => exact hr2.elim
    | _ => exact hr.elim
/-- of ints -/
theorem set_of_ints {l : Addr} {xs : Array Value} (ns : List Int) {Q : Value → Shared → Prop} (hh : A.handled = none) (hl : s.heap.IsList l xs) (hi : IntsAre xs.toList ns) (hb : ns.length + 1 < scanBound)
    (fin : ∀ h' tk c, SetR w h' s.heap.objs.size (fun j => decide (j ∈ ns)) c → c ≤ ns.length → (∀ b o, s.heap.get? b = some o → h'.get? b = some o) → Q (.ref s.heap.objs.size) { s with heap := h', toks := tk }) : wpAny (model P w) A (call (.type "set") [.ref l]) Q E s := by
  have hsz : xs.size = ns.length := by
    have q := IntsAre.length hi
    rw [Array.length_toList] at q
    exact q
  have hlS : l < s.heap.objs.size := by
    obtain ⟨o, ho, _⟩ := hl
    exact Heap.lt_size ho
  refine set_of_list (fun h' => ∃ c, SetR w h' s.heap.objs.size (fun j => decide (j ∈ ns)) c ∧ c ≤ ns.length) hl (fun R hR isl => ?_) fun h' tk ⟨c, h1, h2⟩ k => fin h' tk c h1 h2 k
  have sz : (s.heap.push (nset w)).objs.size = s.heap.objs.size + 1 := Heap.size_push ..
  have hne : l ≠ s.heap.objs.size + 1 := Nat.ne_of_lt (Nat.lt_succ_of_lt hlS)
  have hnf : s.heap.objs.size ∉ [s.heap.objs.size + 1, l] := by
    simp only [List.mem_cons, List.not_mem_nil, or_false, not_or]
    exact ⟨Nat.ne_of_lt (Nat.lt_succ_self _), Nat.ne_of_gt hlS⟩
  have vals : ∀ (i : Nat) (v : Value), xs[i]? = some v → ∃ k t, ns[i]? = some k ∧ v = .int k t := fun i v hv => by
    have h1 : i < ns.length := by rw [← hsz]; exact (Array.getElem?_eq_some_iff.mp hv).1
    obtain ⟨t, e⟩ := PyProof.Rows.IntsAre.int_at hi i v (by rw [Array.getElem?_toList]; exact hv)
    refine ⟨ns[i], t, List.getElem?_eq_getElem h1, ?_⟩
    rw [e, List.getD_eq_getElem?_getD, List.getElem?_eq_getElem h1] <;> rfl
  have h3 : A.in1.in1.in1.handled = none := by simp [hh]
  have git : ((s.heap.push (nset w)).push (liter l)).get? (s.heap.objs.size + 1) = some (liter l) := by
    rw [← sz]
    exact Heap.get?_push_size _ rfl
  refine set_update_ints ((Walks.list h3 (s.heap.objs.size + 1) l hne xs).toS) s.heap.objs.size hnf ns hsz hb vals (xs.size - 0) 0 _ (by omega) (Nat.zero_le _) ⟨⟨_, git, rfl, rfl⟩, isl⟩ ⟨0, Nat.le_refl 0, setR_new_at (Heap.get?_push_of_some _ (Heap.get?_push_size _ rfl))⟩ fun s' c hm hc hS => ?_
  obtain ⟨h', g2, d', tk', os'⟩ := s'
  have eg : g2 = s.gens := hm.gens
  have ed : d' = s.drawn := hm.drawn
  have eo : os' = s.os := hm.os
  subst eg; subst ed; subst eo
  refine hR h' tk' ⟨c, hS, by omega⟩ fun b o e => ?_
  have hb0 : b < s.heap.objs.size := Heap.lt_size e
  exact hm.heap b o (by simp only [List.mem_cons, List.not_mem_nil, or_false, not_or]; exact ⟨Nat.ne_of_lt hb0, Nat.ne_of_lt (Nat.lt_succ_of_lt hb0)⟩) (Heap.get?_push_of_some _ (Heap.get?_push_of_some _ e))
end
end Dv
namespace Dv
open PySem PySem.Spec PyProof.Rows L2
section
variable {X : Cx}
def rSetI (K : PySem.W.Frag) (w : World) : List V → Hp → VK → Prop := fun vs H Q => ∃ (l : Addr) (ns : List Int), vs = [.ref l] ∧ SqL K H l (ns.map V.int) ∧ ns.length ≤ 1000 ∧ ∀ (a : Addr) (c : Nat), H a = none → c ≤ ns.length → Q (.ref a) (upd H a (SetO w a (fun j => decide (j ∈ ns)) c))
theorem cr_setI (hc : X.calm = true) : CallR X (.type "set") (rSetI X.K X.w) := by
  intro pins s σ H vs us Q I r h
  obtain ⟨l, ns, rfl, hl, hz, q⟩ := h
  rw [Vals.ref1 r]
  obtain ⟨its, rv, pl, _⟩ := I.list hl
  have hn : H s.heap.objs.size = none := I.hok.fresh (Nat.le_refl _)
  refine set_of_ints (P := X.prog) (w := X.w) ns (I.ok.hd hc) pl.isList (by simpa using ints_of_vals rv) (by unfold scanBound; omega) fun h' tk c R hcn k => ?_
  exact ⟨.ref s.heap.objs.size, upd H s.heap.objs.size (SetO X.w s.heap.objs.size (fun j => decide (j ∈ ns)) c), I.laid (t' := tk) k (Nat.le_refl _) (setO_new R), rfl, q _ c hn hcn⟩
/-- one call in the other -/
theorem j_callBT {Wx : WX} {ms : AM} {es : List Expr} {x y : Str} {p p' pos pos' : Pos} {e : Expr} {id id' : String} {r r' : List V → Hp → VK → Prop} {f : List D → Store → Option D} (hc' : CallR X (.builtin id') r') (hc : CallR X (.type id) r)
    (hf : POk X.K X.mg (fun vs H Q => r vs H fun v H1 => r' [v] H1 Q) f) (hg' : Gl X y) (hm' : X.mg y = none) (hv' : bootBuiltins y = some (.builtin id')) (hg : Gl X x) (hm : X.mg x = none) (hv : bootBuiltins x = some (.type id)) (ha : PA X (e :: es) (tDA X.K X.mg Wx ms))
    (hn' : y ≠ "__name__" := by decide) (hdb' : (y == ("__debug__" : Str)) = false := by decide) (hn : x ≠ "__name__" := by decide) (hdb : (x == ("__debug__" : Str)) = false := by decide)
    (he : starEach (e :: es) X.env = (false, eval e X.env) :: starEach es X.env := by rfl) (hpl : (backTo pos (starEach es X.env)).any (·.1) = false := by rfl) :
    PE X (.Call (.Name y p') [.Call (.Name x p) (e :: es) [] pos] [] pos') (tD X.K X.mg Wx (mCall f ms)) :=
  pe_imp (pe_callB hc' hg' hm' hv' (pa_cons (pe_callTy hc hg hm hv ha hn hdb he hpl) pa_nil) hn' hdb') fun g H Q h => tCB_of hf g H Q h
end
theorem strict_ext {α : Type} {lt : α → α → Bool} (O : SrtO.Swo lt) : ∀ {a b : List α}, (a.Pairwise fun x y => lt x y = true) → (b.Pairwise fun x y => lt x y = true) → (∀ x, x ∈ a ↔ x ∈ b) → a = b
  | [], [], _, _, _ => rfl
  | [], y :: ys, _, _, h => absurd ((h y).mpr List.mem_cons_self) (by intro h; cases h)
  | x :: xs, [], _, _, h => absurd ((h x).mp List.mem_cons_self) (by intro h; cases h)
  | x :: xs, y :: ys, h1, h2, h => by
    rw [List.pairwise_cons] at h1 h2
    have e : x = y := by
      have hx := (h x).mp List.mem_cons_self
      have hy := (h y).mpr List.mem_cons_self
      rcases List.mem_cons.mp hx with e | e
      · exact e
      · rcases List.mem_cons.mp hy with e2 | e2
        · exact e2.symm
        · have q1 := h2.1 x e
          have q2 := h1.1 y e2
          rw [O.asym _ _ q1] at q2
          cases q2
    subst e
    have nx : x ∉ xs := fun m => by
      have q := h1.1 x m
      rw [O.refl x] at q
      cases q
    have ny : x ∉ ys := fun m => by
      have q := h2.1 x m
      rw [O.refl x] at q
      cases q
    refine congrArg (x :: ·) (strict_ext O h1.2 h2.2 fun z => ?_)
    constructor
    · intro m
      rcases List.mem_cons.mp ((h z).mp (List.mem_cons_of_mem _ m)) with e | e
      · subst e
        exact absurd m nx
      · exact e
    · intro m
      rcases List.mem_cons.mp ((h z).mpr (List.mem_cons_of_mem _ m)) with e | e
      · subst e
        exact absurd m ny
      · exact e
theorem ltI_tri (a b : Int) (h1 : ltI a b = false) (h2 : ltI b a = false) : a = b := by
  have := of_decide_eq_false h1
  have := of_decide_eq_false h2
  omega
/-- each once -/
def dedL {α : Type} [DecidableEq α] : List α → List α
  | [] => []
  | x :: xs => if x ∈ dedL xs then dedL xs else x :: dedL xs
theorem mem_dedL {α : Type} [DecidableEq α] (z : α) : ∀ xs : List α, z ∈ dedL xs ↔ z ∈ xs
  | [] => Iff.rfl
  | x :: xs => by
    have ih := mem_dedL z xs
    unfold dedL
    split
    · rename_i h
      rw [ih, List.mem_cons]
      refine ⟨.inr, fun q => ?_⟩
      rcases q with rfl | q
      · exact (mem_dedL z xs).mp h
      · exact q
    · rw [List.mem_cons, List.mem_cons, ih]
theorem nodup_dedL {α : Type} [DecidableEq α] : ∀ xs : List α, (dedL xs).Nodup
  | [] => List.nodup_nil
  | x :: xs => by
    unfold dedL
    split
    · exact nodup_dedL xs
    · rename_i h
      exact List.nodup_cons.mpr ⟨h, nodup_dedL xs⟩
/-- sorted(set(xs)) -/
def ssI (ns : List Int) : List Int := sortL ltI (dedL ns)
theorem mem_ssI {z : Int} {ns : List Int} : z ∈ ssI ns ↔ z ∈ ns := by
  unfold ssI
  rw [(sortL_perm _).mem_iff, mem_dedL]
theorem ssI_strict (ns : List Int) : (ssI ns).Pairwise (· < ·) := (sortL_strict ltI_swo ltI_tri (nodup_dedL ns)).imp fun {x y} h => of_decide_eq_true h
theorem ssI_ext {a ns : List Int} (h : a.Pairwise (· < ·)) (m : ∀ z, z ∈ a ↔ z ∈ ns) : a = ssI ns :=
  strict_ext ltI_swo (h.imp fun {x y} h => decide_eq_true h) (sortL_strict ltI_swo ltI_tri (nodup_dedL ns)) fun z => by
    rw [m z]
    exact mem_ssI.symm
def sortSetD (ds : List D) (S : Store) : Option D := match ds with
  | [.lst xs] => match intsOf xs with
    | some ns => if ns.length < 64 then some (.lst ((ssI ns).map D.int)) else none
    | none => none
  | _ => none
theorem sortSetD_ints {S : Store} {ns : List Int} (h : ns.length < 64) : sortSetD [.lst (ns.map D.int)] S = some (.lst ((ssI ns).map D.int)) := by
  show (match intsOf (ns.map D.int) with
    | some ns => if ns.length < 64 then some (D.lst ((ssI ns).map D.int)) else none
    | none => none) = _
  rw [intsOf_map]
  exact if_pos h
theorem pok_sortSet {K : PySem.W.Frag} {mg : Str → Option Value} {w : World} : POk K mg (fun vs H Q => rSetI K w vs H fun v H1 => rSortedSet w [v] H1 Q) sortSetD := fun T S H vs ds d Q sim rep e k => by
  unfold sortSetD at e
  split at e
  · rename_i xs
    split at e
    · rename_i ns hi
      split at e
      · rename_i h64
        cases e
        have hx := intsOf_some hi
        subst hx
        cases rep with
        | cons r1 rt =>
          cases rt
          cases r1 with
          | @lst a vs' _ hH off rl =>
            have hv := rl.of_ints
            subst hv
            refine ⟨a, ns, rfl, .inl (.inl hH), by omega, fun p c hp hc => ⟨p, _, c, rfl, upd_same .., by omega, fun ms q hs hm hl hq => ?_⟩⟩
            have em : ms = ssI ns := ssI_ext hs fun z => by rw [hm z, decide_eq_true_eq]
            subst em
            have st1 := sim.stepNew (o := SetO w p (fun j => decide (j ∈ ns)) c) hp
            have sim1 := sim.new (o := SetO w p (fun j => decide (j ∈ ns)) c) hp (hlen_oth sim.hl fun xs => ⟨(by intro z; cases z), (by intro z; cases z), (by intro x z; cases z), (by intro x z; cases z)⟩)
            have hlen : (List.map V.int (ssI ns)).length ≤ sizeLine := by rw [List.length_map, hl, sizeLine_eq]; omega
            exact k _ (.ref q) (st1.trans (sim1.stepNew hq)) (sim1.new hq (hlen_lst sim1.hl hlen)) (.lst (upd_same ..) (sim1.off hq) (RepL.ints _))
      · cases e
    · cases e
  · cases e
end Dv
/-! lists that are made anew and may change -/
namespace Dv
open PySem L2
section
variable (K : PySem.W.Frag) (mg : Str → Option Value)
def POk2N (r : R2) (f : D → D → Store → Option (List D)) : Prop := ∀ T S H x y a b ds (Q : VK), Sim K mg T S H → Rep K T H x a → Rep K T H y b → f a b S = some ds →
  (∀ vs p, RepL K T H vs ds → vs.length ≤ sizeLine → H p = none → Q (.ref p) (upd H p (.lst vs))) → r x y H Q
def POkN (r : List V → Hp → VK → Prop) (f : List D → Store → Option (List D)) : Prop := ∀ T S H xs es ds (Q : VK), Sim K mg T S H → RepL K T H xs es → f es S = some ds →
  (∀ vs p, RepL K T H vs ds → vs.length ≤ sizeLine → H p = none → Q (.ref p) (upd H p (.lst vs))) → r xs H Q
end
def newO (o : Option (List D)) (S : Store) : R D := match o with
  | some ds => .ok (.loc S.length) (S ++ [.lst ds])
  | none => .bad
def mBinN (f : D → D → Store → Option (List D)) (ma mb : EM) : EM := fun r S => (ma r S).bind fun a S1 => (mb r S1).bind fun b S2 => newO (f a b S2) S2
def mCallN (f : List D → Store → Option (List D)) (ms : AM) : EM := fun r S => (ms r S).bind fun ds S1 => newO (f ds S1) S1
@[simp] theorem newO_some (ds : List D) (S : Store) : newO (some ds) S = .ok (.loc S.length) (S ++ [.lst ds]) := rfl
@[simp] theorem mBinN_ap {f : D → D → Store → Option (List D)} {ma mb : EM} {r : Env} {S : Store} : mBinN f ma mb r S = (ma r S).bind fun a S1 => (mb r S1).bind fun b S2 => newO (f a b S2) S2 := rfl
@[simp] theorem mCallN_ap {f : List D → Store → Option (List D)} {ms : AM} {r : Env} {S : Store} : mCallN f ms r S = (ms r S).bind fun ds S1 => newO (f ds S1) S1 := rfl
section
variable {X : Cx} {Wx : WX} {a b : Expr} {es : List Expr} {pos : Pos} {ma mb : EM} {ms : AM}
theorem newO_use {K : PySem.W.Frag} {mg : Str → Option Value} {T : Tb} {S : Store} {H : Hp} {g : St} {o : Option (List D)} {Q : VK} (sim : Sim K mg T S H) (h : Out K mg Wx (Rep K) T g H (newO o S) Q) : ∃ ds, o = some ds ∧ ∀ vs p, RepL K T H vs ds → vs.length ≤ sizeLine → H p = none → Q (.ref p) (upd H p (.lst vs)) := by
  cases o with
  | none => exact h.elim
  | some ds =>
    refine ⟨ds, rfl, fun vs p rl hz hp => ?_⟩
    have st : Step T H (T.add p) (upd H p (.lst vs)) := sim.stepAlloc hp
    exact h (T.add p) _ _ st (sim.alloc hp (hlen_lst sim.hl hz) ⟨vs, upd_same, rl.step st⟩) (.loc sim.newGet)
theorem j_binN {op : Operator} {r : R2} {f : D → D → Store → Option (List D)} (ho : OpR X (binaryOp op) r) (hf : POk2N X.K X.mg r f) (ha : PE X a (tD X.K X.mg Wx ma)) (hb : PE X b (tD X.K X.mg Wx mb)) : PE X (.BinOp a op b pos) (tD X.K X.mg Wx (mBinN f ma mb)) := by
  refine pe_imp (pe_op ho ha hb) fun g H Q h => ?_
  obtain ⟨T, r, S, rs, sim, h⟩ := h
  refine ⟨T, r, S, rs, sim, Out.bind h fun x S1 T1 H1 v st sim1 rel h1 => ?_⟩
  refine ⟨T1, r, S1, rs.step st, sim1, Out.bind h1 fun y S2 T2 H2 w st2 sim2 rel2 h2 => ?_⟩
  obtain ⟨ds, e, k⟩ := newO_use sim2 h2
  exact hf T2 S2 H2 v w x y ds Q sim2 (rel.step st2) rel2 e k
theorem j_callTN {x : Str} {p : Pos} {e : Expr} {id : String} {r : List V → Hp → VK → Prop} {f : List D → Store → Option (List D)} (hc : CallR X (.type id) r) (hf : POkN X.K X.mg r f) (hg : Gl X x) (hm : X.mg x = none) (hv : bootBuiltins x = some (.type id)) (ha : PA X (e :: es) (tDA X.K X.mg Wx ms))
    (hn : x ≠ "__name__" := by decide) (hdb : (x == ("__debug__" : Str)) = false := by decide) (he : starEach (e :: es) X.env = (false, eval e X.env) :: starEach es X.env := by rfl) (hpl : (backTo pos (starEach es X.env)).any (·.1) = false := by rfl) :
    PE X (.Call (.Name x p) (e :: es) [] pos) (tD X.K X.mg Wx (mCallN f ms)) := pe_imp (pe_callTy hc hg hm hv ha hn hdb he hpl) fun g H Q h => by
  obtain ⟨T, r, S, rs, sim, h⟩ := h
  refine ⟨T, r, S, rs, sim, Out.bind h fun x S1 T1 H1 v st sim1 rel h1 => ?_⟩
  obtain ⟨ds, e, k⟩ := newO_use sim1 h1
  exact hf T1 S1 H1 v x ds Q sim1 rel e k
end
/-- what a list holds -/
def lstAt (d : D) (S : Store) : Option (List D) := match d with
  | .lst xs => some xs
  | .loc n => match S[n]? with
    | some (.lst xs) => some xs
    | _ => none
  | _ => none
@[simp] theorem lstAt_lst (xs : List D) (S : Store) : lstAt (.lst xs) S = some xs := rfl
@[simp] theorem lstAt_loc (n : Nat) (S : Store) : lstAt (.loc n) S = (match S[n]? with
    | some (.lst xs) => some xs
    | _ => none) := rfl
section
variable {K : PySem.W.Frag} {mg : Str → Option Value} {T : Tb} {S : Store} {H : Hp}
theorem lstAt_rep {v : V} {d : D} {ds : List D} (sim : Sim K mg T S H) (r : Rep K T H v d) (e : lstAt d S = some ds) : ∃ a xs, v = .ref a ∧ H a = some (.lst xs) ∧ RepL K T H xs ds ∧ xs.length ≤ sizeLine := by
  cases r with
  | lst h n r =>
    cases e
    exact ⟨_, _, rfl, h, r, sim.hl _ _ (.inl (.inl h))⟩
  | @loc a n h =>
    simp only [lstAt] at e
    split at e
    · rename_i ys hs
      cases e
      obtain ⟨xs, h1, h2⟩ := sim.obj n a _ h hs
      exact ⟨a, xs, rfl, h1, h2, sim.hl _ _ (.inl (.inl h1))⟩
    · cases e
  | _ => cases e
end
def catN (a b : D) (S : Store) : Option (List D) := match lstAt a S, lstAt b S with
  | some xs, some ys => if xs.length + ys.length ≤ 100000 then some (xs ++ ys) else none
  | _, _ => none
def repN (a b : D) (S : Store) : Option (List D) := match lstAt a S, b with
  | some xs, .int k => if -100000 ≤ k ∧ k ≤ 100000 ∧ xs.length * k.toNat ≤ 100000 then some (List.replicate k.toNat xs).flatten else none
  | _, _ => none
section
variable {K : PySem.W.Frag} {mg : Str → Option Value}
theorem pok_catN : POk2N K mg (rAddA K) catN := fun T S H x y a b ds Q sim rx ry e k => by
  unfold catN at e
  split at e
  · rename_i xs ys h1 h2
    split at e
    · rename_i hz
      cases e
      obtain ⟨p, us, rfl, hp, r1, _⟩ := lstAt_rep sim rx h1
      obtain ⟨q, vs, rfl, hq, r2, _⟩ := lstAt_rep sim ry h2
      have hz' : us.length + vs.length ≤ sizeLine := by rw [r1.length, r2.length]; exact sz5 hz
      exact .inr (.inr (.inr ⟨p, q, us, vs, rfl, rfl, hp, hq, hz', fun o ho => k _ o (RepL.append r1 r2) (by rw [List.length_append]; exact hz') ho⟩))
    · cases e
  · cases e
theorem pok_repN : POk2N K mg rMulA repN := fun T S H x y a b ds Q sim rx ry e k => by
  unfold repN at e
  split at e
  · rename_i xs j h1
    split at e
    · rename_i hz
      cases e
      obtain ⟨p, us, rfl, hp, r1, _⟩ := lstAt_rep sim rx h1
      cases ry
      have hz' : us.length * j.toNat ≤ sizeLine := by rw [r1.length]; exact sz5 hz.2.2
      exact .inr ⟨p, j, us, rfl, rfl, hp, by omega, by omega, hz', fun o ho => k _ o (r1.rep j.toNat) (by rw [flat_len]; exact hz') ho⟩
    · cases e
  · cases e
/-- a + b of lists, either of which may be one that changes -/
def addL (a b : D) (S : Store) : Option D := (catN a b S).map .lst
theorem pok_addL : POk2 K mg (rAddA K) addL := fun T S H x y a b d Q sim rx ry e k => by
  unfold addL at e
  cases q : catN a b S with
  | none => rw [q] at e; cases e
  | some ds =>
    rw [q] at e
    cases e
    refine pok_catN T S H x y a b ds Q sim rx ry q fun vs p rl hz hp => ?_
    have st := sim.stepNew (o := .lst vs) hp
    exact k _ _ st (sim.new hp (hlen_lst sim.hl hz)) (.lst upd_same (sim.off hp) (rl.step st))
/-- list(xs) -/
def lstN (ds : List D) (S : Store) : Option (List D) := match ds with
  | [.tup xs] => some xs
  | [d] => lstAt d S
  | _ => none
theorem pok_lstN : POkN K mg (fun xs H Q => ∃ p ys, xs = [.ref p] ∧ (SqL K H p ys ∨ SqT K H p ys) ∧ ∀ l, H l = none → Q (.ref l) (upd H l (.lst ys))) lstN := fun T S H vs es ds Q sim rep e k => by
  unfold lstN at e
  split at e
  · cases e
    obtain ⟨v, rfl, r⟩ := rep.one
    cases r with
    | tup h n r => exact ⟨_, _, rfl, .inr (SqT.of h), fun l hl => k _ l r (sim.hl _ _ (.inr (.inl h))) hl⟩
  · obtain ⟨v, rfl, r⟩ := rep.one
    obtain ⟨p, us, rfl, hp, r1, hz⟩ := lstAt_rep sim r e
    exact ⟨p, us, rfl, .inl (SqL.of hp), fun l hl => k _ l r1 hz hl⟩
  · cases e
theorem fn_bad {P : Program} {w : World} {base : Heap} {CX : CXT} {k : Nat} {f : Addr} {fd : FuncData} {ps : List Str} : FnOk P w K mg base CX k f fd ps (spD K mg ps.length fun _ _ => .bad) := by
  refine ⟨fun vs H Q E q => q.1, fun A outer s H args us vs Q E hr he hb hv hs => ?_⟩
  obtain ⟨hl, T, S, ds, rep, sim, out⟩ := hs
  exact out.elim
end
end Dv
/-! sorted rows, their blocks of like beginnings; Lookers over them -/
namespace Dv
open PySem L2
/-! ### rows in order -/
theorem ltR_cons (x y : Int) (xs ys : List Int) : ltR (x :: xs) (y :: ys) = if x = y then ltR xs ys else decide (x < y) := rfl
theorem lt_take : ∀ (a b : List Int) (d : Nat), ltR a b = true → ltR (b.take d) (a.take d) = false
  | [], [], _, h => by cases h
  | [], y :: ys, 0, _ => rfl
  | [], y :: ys, d + 1, _ => rfl
  | x :: xs, [], _, h => by cases h
  | x :: xs, y :: ys, 0, _ => rfl
  | x :: xs, y :: ys, d + 1, h => by
    rw [ltR_cons] at h
    rw [List.take_succ_cons, List.take_succ_cons, ltR_cons]
    by_cases e : x = y
    · subst e
      simp only [if_true] at h ⊢
      exact lt_take xs ys d h
    · rw [if_neg e] at h
      have := of_decide_eq_true h
      rw [if_neg (fun z => e z.symm)]
      exact decide_eq_false (by omega)
theorem lt_col : ∀ (a b : List Int) (k : Nat), a.take k = b.take k → k < a.length → k < b.length → ltR a b = true → a.getD k 0 ≤ b.getD k 0
  | x :: xs, y :: ys, 0, _, _, _, h => by
    rw [ltR_cons] at h
    show x ≤ y
    by_cases e : x = y
    · omega
    · rw [if_neg e] at h
      have := of_decide_eq_true h
      omega
  | x :: xs, y :: ys, k + 1, e, h1, h2, h => by
    rw [List.take_succ_cons, List.take_succ_cons, List.cons.injEq] at e
    rw [ltR_cons, if_pos e.1] at h
    exact lt_col xs ys k e.2 (Nat.lt_of_succ_lt_succ h1) (Nat.lt_of_succ_lt_succ h2) h
  | [], _, _, _, h, _, _ => absurd h (Nat.not_lt_zero _)
  | _, [], _, _, _, h, _ => absurd h (Nat.not_lt_zero _)
theorem take_snoc (a : List Int) (k : Nat) (h : k < a.length) : a.take (k + 1) = a.take k ++ [a.getD k 0] := by
  rw [List.take_add_one, List.getElem?_eq_getElem h, List.getD_eq_getElem?_getD, List.getElem?_eq_getElem h]
  rfl
structure Tab (rows : List (List Int)) (w : Nat) : Prop where
  wd : ∀ r ∈ rows, r.length = w
  srt : rows.Pairwise fun a b => ltR a b = true
/-- the beginning of row i, its number in a column -/
def tk (rows : List (List Int)) (d i : Nat) : List Int := (rows.getD i []).take d
def cl (rows : List (List Int)) (k i : Nat) : Int := (rows.getD i []).getD k 0
section
variable {rows : List (List Int)} {w : Nat}
theorem getD_lt {i : Nat} (h : i < rows.length) : rows.getD i [] = rows[i] := by
  rw [List.getD_eq_getElem?_getD, List.getElem?_eq_getElem h]
  rfl
theorem Tab.len (T : Tab rows w) {i : Nat} (h : i < rows.length) : (rows.getD i []).length = w := by
  rw [getD_lt h]
  exact T.wd _ (List.getElem_mem h)
theorem Tab.lt (T : Tab rows w) {i j : Nat} (hij : i < j) (hj : j < rows.length) : ltR (rows.getD i []) (rows.getD j []) = true := by
  rw [getD_lt hj, getD_lt (Nat.lt_trans hij hj)]
  exact (List.pairwise_iff_getElem.mp T.srt) i j (Nat.lt_trans hij hj) hj hij
theorem tk_mono (T : Tab rows w) {d i j : Nat} (hij : i ≤ j) (hj : j < rows.length) : ltR (tk rows d j) (tk rows d i) = false := by
  rcases Nat.lt_or_eq_of_le hij with h | h
  · exact lt_take _ _ d (T.lt h hj)
  · subst h
    exact ltR_swo.refl _
theorem tk_between (T : Tab rows w) {d i j l : Nat} (h1 : i ≤ j) (h2 : j ≤ l) (hl : l < rows.length) (e : tk rows d i = tk rows d l) : tk rows d j = tk rows d i := by
  refine ltR_tri _ _ (tk_mono T h1 (by omega)) ?_
  rw [e]
  exact tk_mono T h2 hl
theorem cl_mono (T : Tab rows w) {k i j : Nat} (hk : k < w) (hij : i ≤ j) (hj : j < rows.length) (e : tk rows k i = tk rows k j) : cl rows k i ≤ cl rows k j := by
  rcases Nat.lt_or_eq_of_le hij with h | h
  · exact lt_col _ _ k e (by rw [T.len (by omega)]; exact hk) (by rw [T.len hj]; exact hk) (T.lt h hj)
  · subst h
    exact Int.le_refl _
theorem tk_succ (T : Tab rows w) {k i : Nat} (hk : k < w) (hi : i < rows.length) : tk rows (k + 1) i = tk rows k i ++ [cl rows k i] := take_snoc _ k (by rw [T.len hi]; exact hk)
theorem tk_succ_iff (T : Tab rows w) {k i j : Nat} (hk : k < w) (hi : i < rows.length) (hj : j < rows.length) : tk rows (k + 1) i = tk rows (k + 1) j ↔ tk rows k i = tk rows k j ∧ cl rows k i = cl rows k j := by
  rw [tk_succ T hk hi, tk_succ T hk hj]
  constructor
  · intro h
    have := List.append_inj h (by rw [tk, tk, List.length_take, List.length_take, T.len hi, T.len hj])
    exact ⟨this.1, by simpa using this.2⟩
  · intro h
    rw [h.1, h.2]
theorem tk_down {k i j : Nat} (e : tk rows (k + 1) i = tk rows (k + 1) j) : tk rows k i = tk rows k j := by
  have := congrArg (List.take k) e
  rw [tk, tk, List.take_take, List.take_take, Nat.min_eq_left (by omega)] at this
  exact this
theorem tk_le {k d i j : Nat} (h : k ≤ d) (e : tk rows d i = tk rows d j) : tk rows k i = tk rows k j := by
  have := congrArg (List.take k) e
  rw [tk, tk, List.take_take, List.take_take, Nat.min_eq_left h] at this
  exact this
theorem tk_full (T : Tab rows w) {i : Nat} (hi : i < rows.length) : tk rows w i = rows.getD i [] := List.take_of_length_le (by rw [T.len hi]; exact Nat.le_refl _)
theorem tk_inj (T : Tab rows w) {i j : Nat} (hi : i < rows.length) (hj : j < rows.length) (e : tk rows w i = tk rows w j) : i = j := by
  rw [tk_full T hi, tk_full T hj] at e
  rcases Nat.lt_trichotomy i j with h | h | h
  · have := T.lt h hj
    rw [e, ltR_swo.refl] at this
    cases this
  · exact h
  · have := T.lt h hi
    rw [e, ltR_swo.refl] at this
    cases this
/-- all rows of one beginning -/
structure Blk (rows : List (List Int)) (k lo far : Nat) : Prop where
  lt : lo < far
  le : far ≤ rows.length
  iff : ∀ i, i < rows.length → (tk rows k i = tk rows k lo ↔ lo ≤ i ∧ i < far)
/-- a level: its block, its place in it -/
structure St (rows : List (List Int)) (k : Nat) (x : Nat × Nat × Nat) : Prop where
  blk : Blk rows k x.1 x.2.1
  lo : x.1 ≤ x.2.2
  hi : x.2.2 ≤ x.2.1
  gs : x.2.2 < x.2.1 → ∀ i, x.1 ≤ i → i < x.2.2 → cl rows k i < cl rows k x.2.2
theorem Blk.top (T : Tab rows w) (h : rows ≠ []) : Blk rows 0 0 rows.length := ⟨List.length_pos_iff.mpr h, Nat.le_refl _, fun i hi => ⟨fun _ => ⟨Nat.zero_le _, hi⟩, fun _ => rfl⟩⟩
theorem Blk.tk {k lo far i : Nat} (b : Blk rows k lo far) (h1 : lo ≤ i) (h2 : i < far) : Dv.tk rows k i = Dv.tk rows k lo := (b.iff i (Nat.lt_of_lt_of_le h2 b.le)).mpr ⟨h1, h2⟩
theorem Blk.mono (T : Tab rows w) {k lo far i j : Nat} (b : Blk rows k lo far) (hk : k < w) (h1 : lo ≤ i) (h2 : i ≤ j) (h3 : j < far) : cl rows k i ≤ cl rows k j :=
  cl_mono T hk h2 (Nat.lt_of_lt_of_le h3 b.le) ((b.tk h1 (Nat.lt_of_le_of_lt h2 h3)).trans (b.tk (Nat.le_trans h1 h2) h3).symm)
/-- the block below a place -/
theorem Blk.sub (T : Tab rows w) {k lo far at_ p : Nat} (b : Blk rows k lo far) (hk : k < w) (h1 : lo ≤ at_) (h2 : at_ < far) (hp : p ≤ far) (hap : at_ < p) (gs : ∀ i, lo ≤ i → i < at_ → cl rows k i < cl rows k at_) (h3 : ∀ i, at_ ≤ i → i < p → cl rows k i ≤ cl rows k at_)
    (h4 : ∀ i, p ≤ i → i < far → cl rows k at_ < cl rows k i) : Blk rows (k + 1) at_ p := by
  refine ⟨hap, Nat.le_trans hp b.le, fun i hi => ?_⟩
  have hat : at_ < rows.length := Nat.lt_of_lt_of_le h2 b.le
  rw [tk_succ_iff T hk hi hat]
  constructor
  · rintro ⟨e1, e2⟩
    have e1' := e1.trans (b.tk h1 h2)
    obtain ⟨q1, q2⟩ := (b.iff i hi).mp e1'
    constructor
    · rcases Nat.lt_or_ge i at_ with h | h
      · have := gs i q1 h
        omega
      · exact h
    · rcases Nat.lt_or_ge i p with h | h
      · exact h
      · have := h4 i h q2
        omega
  · rintro ⟨q1, q2⟩
    refine ⟨(b.tk (Nat.le_trans h1 q1) (by omega)).trans (b.tk h1 h2).symm, ?_⟩
    have e1 := h3 i q1 q2
    have e2 := b.mono T hk h1 q1 (by omega)
    omega
end
end Dv
/-! Lookers that move -/
namespace Dv
open PySem L2
def mGoto : SM :=
    (sSeq (sAsg (mBin ixD (mFld "Looker" "levels" (mVar 0)) (mUn negD (mC (.int 1)))) (tgT 3 (tgsCons (tgN 2) (tgsCons (tgN 3) (tgsCons (tgN 4) tgsNil)))))
    (sSeq (sSetIx (mFld "Looker" "levels" (mVar 0)) (mUn negD (mC (.int 1))) (mTup (mCons (mVar 2) (mCons (mVar 3) (mCons (mVar 1) mNil)))))
    (sFldAugD "Looker" "many" (fun i j => i + j) (mVar 0) (mC (.int 1)))))
noncomputable def FGoto : List D → Store → R D := runT 5 mGoto
noncomputable def mReach (rk : SM) (fu : Nat) : SM :=
    (sIf (mT (mBin ltD (mMeth "Looker" "key" 1 (FKey rk) (mVar 0) mNil) (mVar 1))) (sDrop (mMeth "Looker" "go_to" 2 FGoto (mVar 0) (mCons (mMeth "Looker" "behind" 2 (FBehind fu) (mVar 0) (mCons (mBin subD (mVar 1) (mC (.int 1))) mNil)) mNil))) (sDrop (mMeth "Looker" "go_to" 2 FGoto (mVar 0) (mCons (mBin ixD (mBin ixD (mFld "Looker" "levels" (mVar 0)) (mUn negD (mC (.int 1)))) (mC (.int 2))) mNil))))
noncomputable def FReach (rk : SM) (fu : Nat) : List D → Store → R D := runT 2 (mReach rk fu)
noncomputable def mFurther (rk : SM) (fu : Nat) : SM :=
    (sDrop (mMeth "Looker" "go_to" 2 FGoto (mVar 0) (mCons (mMeth "Looker" "behind" 2 (FBehind fu) (mVar 0) (mCons (mMeth "Looker" "key" 1 (FKey rk) (mVar 0) mNil) mNil)) mNil)))
noncomputable def FFurther (rk : SM) (fu : Nat) : List D → Store → R D := runT 1 (mFurther rk fu)
section
variable {S : Store} {l v : Nat} {rows : List (List Int)} {lv : List (Nat × Nat × Nat)} {m : Int} {w : Nat}
theorem getD_some {a : List Int} {k : Nat} (h : k < a.length) : a[k]? = some (a.getD k 0) := by
  rw [List.getD_eq_getElem?_getD, List.getElem?_eq_getElem h]
  rfl
theorem mth_goto : (lkF rows v m).lookup ("go_to" : Str) = none := rfl
theorem mth_further : (lkF rows v m).lookup ("further" : Str) = none := rfl
theorem mth_reach : (lkF rows v m).lookup ("reach" : Str) = none := rfl
theorem Lk.ne (h : Lk S l v rows lv m) : v ≠ l := fun e => by
  have h1 := h.o
  have h2 := h.v
  rw [e, h1] at h2
  cases h2
/-- the store when a Looker has moved -/
def mvS (S : Store) (l v : Nat) (rows : List (List Int)) (lv : List (Nat × Nat × Nat)) (m : Int) : Store := List.set (List.set S v (.lst (lv.map lvD))) l (.ins "Looker" (lkF rows v m))
theorem Lk.mv (h : Lk S l v rows lv m) (lv' : List (Nat × Nat × Nat)) (m' : Int) (hl : lv'.length ≤ 90000) : Lk (mvS S l v rows lv' m') l v rows lv' m' := by
  have h1 := h.set lv' hl
  refine ⟨gs h1.o _, ?_, h.small.1, hl⟩
  rw [mvS, List.getElem?_set_ne (fun e => h.ne e.symm)]
  exact h1.v
theorem mvS_other {S : Store} {l v i : Nat} {rows : List (List Int)} {lv : List (Nat × Nat × Nat)} {m : Int} (h1 : i ≠ l) (h2 : i ≠ v) : (mvS S l v rows lv m)[i]? = S[i]? := by
  rw [mvS, List.getElem?_set_ne (fun e => h1 e.symm), List.getElem?_set_ne (fun e => h2 e.symm)]
theorem mvS_len : (mvS S l v rows lv m).length = S.length := by rw [mvS, List.length_set, List.length_set]
theorem lkF_put (m' : Int) : putFD ("many" : Str) (.int m') (lkF rows v m) = lkF rows v m' := rfl
theorem ixN_neg1 (n : Nat) : ixN (n + 1) (-1) = some n := by
  unfold ixN
  rw [if_neg (by omega), if_pos (by omega)]
  congr 1
  omega
theorem goto_ok {lo far at_ spot : Nat} (h : Lk S l v rows (lv ++ [(lo, far, at_)]) m) : FGoto [.loc l, .int spot] S = .ok .non (mvS S l v rows (lv ++ [(lo, far, spot)]) (m + 1)) := by
  have eb : ∃ rho, mGoto (frame 5 [.loc l, .int spot]) S = .ok .next rho (mvS S l v rows (lv ++ [(lo, far, spot)]) (m + 1)) := by
    rw [show frame 5 [.loc l, .int spot] = [some (.loc l), some (.int spot), none, none, none] from rfl]
    unfold mGoto
    have a5 := atI_lv (lv := lv) (lo, far, at_)
    have h1 := h.set (lv ++ [(lo, far, spot)]) (by have := h.small.2; simp at this ⊢; omega)
    have a6 : ixN (lv.length + 1) (-1) = some lv.length := ixN_neg1 _
    have a7 : (List.map lvD (lv ++ [(lo, far, at_)])).set lv.length (.tup [.int lo, .int far, .int spot]) = List.map lvD (lv ++ [(lo, far, spot)]) := by
      rw [List.map_append, List.set_append_right _ _ (by simp)]
      simp [lvD]
    have a8 : (lkF rows v m).length < 900 := by show 3 < 900; decide
    have a9 := lkF_put (rows := rows) (v := v) (m := m) (m + 1)
    simp [h.o, lkF_levels, lkF_many, h.v, a5, a6, a7, a8, a9, -List.map_append]
    simp [lvD, a7, h1.o, lkF_many, a8, a9, mvS, h.o, lkF_levels, h.v, a6, -List.map_append]
  obtain ⟨rho, eb⟩ := eb
  show finT S (mGoto (frame 5 _) S) = _
  rw [eb]
  have tr : Tr S (mvS S l v rows (lv ++ [(lo, far, spot)]) (m + 1)) := by
    refine ⟨by rw [mvS_len]; exact Nat.le_refl _, fun i o hi e => ?_⟩
    have hk := h.mv (lv ++ [(lo, far, spot)]) (m + 1) (by have := h.small.2; simp at this ⊢; omega)
    by_cases e1 : i = l
    · subst e1
      rw [hk.o] at e
      cases e
      refine .inr ?_
      show cloL S.length [.tup (rows.map rowD), .loc v, .int (m + 1)] = true
      have hv : v < S.length := (List.getElem?_eq_some_iff.mp h.v).1
      have c1 : cloL S.length (rows.map rowD) = true := cloL_rows _ _
      simp [cloL, clo, c1, hv]
    · by_cases e2 : i = v
      · subst e2
        rw [hk.v] at e
        cases e
        exact .inr (cloL_lvs _ _)
      · rw [mvS_other e1 e2] at e
        exact .inl e
  rw [finT_next tr, List.take_of_length_le (by rw [mvS_len]; exact Nat.le_refl _)]
/-- behind, over a block -/
theorem beh_ok {lo far at_ fu : Nat} {y : Int} (T : Tab rows w) (h : Lk S l v rows (lv ++ [(lo, far, at_)]) m) (st : St rows lv.length (lo, far, at_)) (hk : lv.length < w) (hfu : rows.length < fu) :
    ∃ p : Nat, at_ ≤ p ∧ p ≤ far ∧ (∀ i, at_ ≤ i → i < p → cl rows lv.length i ≤ y) ∧ (∀ i, p ≤ i → i < far → y < cl rows lv.length i) ∧ FBehind fu [.loc l, .int y] S = .ok (.int p) S := by
  obtain ⟨p, p1, p2, p3, p4, p5⟩ := behind_ok (y := y) h (fun r hr => by rw [T.wd r hr]; exact hk) st.hi st.blk.le hfu
  have hcol : ∀ i, i < rows.length → (col rows lv.length)[i]? = some (cl rows lv.length i) := fun i hi => by
    rw [col_get, List.getElem?_eq_getElem hi, cl, getD_lt hi]
    rfl
  have hle := st.blk.le
  have hlo := st.lo
  simp only at hle hlo
  refine ⟨p, p1, p2, fun i h1 h2 => ?_, fun i h1 h2 => ?_, p5⟩
  · have a := p3 (cl rows lv.length (p - 1)) (by omega) (hcol _ (by omega))
    have b := st.blk.mono T hk (i := i) (j := p - 1) (by simp only; omega) (by omega) (by simp only; omega)
    omega
  · have a := p4 (cl rows lv.length p) (by omega) (hcol _ (by omega))
    have b := st.blk.mono T hk (i := p) (j := i) (by simp only; omega) (by omega) (by simp only; omega)
    omega
theorem key_at {rk : SM} {lo far at_ : Nat} (T : Tab rows w) (h : Lk S l v rows (lv ++ [(lo, far, at_)]) m) (st : St rows lv.length (lo, far, at_)) (hlt : at_ < far) (hk : lv.length < w) : FKey rk [.loc l] S = .ok (.int (cl rows lv.length at_)) S := by
  have hle := st.blk.le
  simp only at hle
  have hi : at_ < rows.length := by omega
  refine key_ok h (by omega) (row := rows.getD at_ []) (by rw [List.getElem?_eq_getElem hi, getD_lt hi]) ?_
  have : lv.length < (rows.getD at_ []).length := by rw [T.len hi]; exact hk
  exact getD_some this
theorem place_at {lo far at_ : Nat} (T : Tab rows w) (h : Lk S l v rows (lv ++ [(lo, far, at_)]) m) (st : St rows lv.length (lo, far, at_)) (hlt : at_ < far) : FPlace [.loc l] S = .ok (rowD (tk rows (lv.length + 1) at_)) S := by
  have hle := st.blk.le
  simp only at hle
  have hi : at_ < rows.length := by omega
  exact place_ok h (by omega) (row := rows.getD at_ []) (by rw [List.getElem?_eq_getElem hi, getD_lt hi])
/-- at the end of a level the place is the one above -/
theorem place_end {lo far : Nat} (T : Tab rows w) (h : Lk S l v rows (lv ++ [(lo, far, far)]) m) (st : St rows lv.length (lo, far, far)) : FPlace [.loc l] S = .ok (rowD (tk rows lv.length lo)) S := by
  have hle := st.blk.le
  have hlt := st.blk.lt
  simp only at hle hlt
  have hi : lo < rows.length := by omega
  have eb : ∃ rho, mPlace (frame 1 [.loc l]) S = .ok (.ret (rowD (tk rows lv.length lo))) rho S := by
    rw [show frame 1 [.loc l] = [some (.loc l)] from rfl]
    unfold mPlace
    have hE := end_ok h
    have hb : endB (lv ++ [(lo, far, far)]) = true := by simp [endB]
    have a2 : atI [D.int lo, D.int far, D.int far] 0 = some (.int lo) := rfl
    have a3 : atI (rows.map rowD) (lo : Int) = some (rowD (rows.getD lo [])) := atI_nat (by rw [List.getElem?_map, List.getElem?_eq_getElem hi, getD_lt hi]; rfl)
    have a5 := atI_lv (lv := lv) (lo, far, far)
    have a6 : (List.map lvD (lv ++ [(lo, far, far)])).isEmpty = false := by simp
    have a8 : ((lv.length : Int) + 1 - 1) = lv.length := by omega
    have a7 : slD (rowD (rows.getD lo [])) none (some (lv.length : Int)) S = some (rowD (tk rows lv.length lo)) := by
      show some (D.tup (cutL ((rows.getD lo []).map D.int) none (some (lv.length : Int)))) = _
      rw [cutL_take, rowD, tk, List.map_take]
    simp [h.o, lkF_levels, lkF_rows, h.v, hE, hb, mth_at_end, a2, a3, a5, a6, a7, a8, lv_at, -List.map_append, -List.getD_eq_getElem?_getD]
  obtain ⟨rho, eb⟩ := eb
  show finT S (mPlace (frame 1 _) S) = _
  rw [eb]
  exact fin_ret0 (cloL_ints _ _)
/-- further, over a block -/
theorem fur_ok {rk : SM} {lo far at_ fu : Nat} (T : Tab rows w) (h : Lk S l v rows (lv ++ [(lo, far, at_)]) m) (st : St rows lv.length (lo, far, at_)) (hlt : at_ < far) (hk : lv.length < w) (hfu : rows.length < fu) :
    ∃ p : Nat, at_ < p ∧ p ≤ far ∧ St rows lv.length (lo, far, p) ∧ Blk rows (lv.length + 1) at_ p ∧ FFurther rk fu [.loc l] S = .ok .non (mvS S l v rows (lv ++ [(lo, far, p)]) (m + 1)) := by
  obtain ⟨p, p1, p2, p3, p4, p5⟩ := beh_ok (y := cl rows lv.length at_) T h st hk hfu
  have hlo := st.lo
  simp only at hlo
  have hap : at_ < p := by
    rcases Nat.lt_or_ge at_ p with q | q
    · exact q
    · have := p4 at_ q hlt
      omega
  have hgs := st.gs hlt
  simp only at hgs
  refine ⟨p, hap, p2, ⟨st.blk, by simp only; omega, p2, fun hp i h1 h2 => ?_⟩, st.blk.sub T hk hlo hlt p2 hap hgs p3 p4, ?_⟩
  · simp only at hp h1 h2 ⊢
    have b := p4 p (Nat.le_refl _) hp
    rcases Nat.lt_or_ge i at_ with q | q
    · have := hgs i h1 q
      omega
    · have := p3 i q h2
      omega
  · have ek := key_at (rk := rk) T h st hlt hk
    have eg := goto_ok (spot := p) h
    have eb : ∃ rho, mFurther rk fu (frame 1 [.loc l]) S = .ok .next rho (mvS S l v rows (lv ++ [(lo, far, p)]) (m + 1)) := by
      rw [show frame 1 [.loc l] = [some (.loc l)] from rfl]
      unfold mFurther
      simp [h.o, mth_goto, mth_behind, mth_key, ek, p5, eg]
    obtain ⟨rho, eb⟩ := eb
    show finT S (mFurther rk fu (frame 1 _) S) = _
    rw [eb]
    exact mv_fin h _ _
where
  mv_fin {rho : Env} {lo far at_ : Nat} {lv : List (Nat × Nat × Nat)} (h : Lk S l v rows (lv ++ [(lo, far, at_)]) m) (spot : Nat) (m' : Int) : finT S (.ok .next rho (mvS S l v rows (lv ++ [(lo, far, spot)]) m')) = .ok .non (mvS S l v rows (lv ++ [(lo, far, spot)]) m') := by
    have hk := h.mv (lv ++ [(lo, far, spot)]) m' (by have := h.small.2; simp at this ⊢; omega)
    have tr : Tr S (mvS S l v rows (lv ++ [(lo, far, spot)]) m') := by
      refine ⟨by rw [mvS_len]; exact Nat.le_refl _, fun i o hi e => ?_⟩
      by_cases e1 : i = l
      · subst e1
        rw [hk.o] at e
        cases e
        refine .inr ?_
        show cloL S.length [.tup (rows.map rowD), .loc v, .int m'] = true
        have hv : v < S.length := (List.getElem?_eq_some_iff.mp h.v).1
        have c1 : cloL S.length (rows.map rowD) = true := cloL_rows _ _
        simp [cloL, clo, c1, hv]
      · by_cases e2 : i = v
        · subst e2
          rw [hk.v] at e
          cases e
          exact .inr (cloL_lvs _ _)
        · rw [mvS_other e1 e2] at e
          exact .inl e
    rw [finT_next tr, List.take_of_length_le (by rw [mvS_len]; exact Nat.le_refl _)]
end
end Dv
namespace Dv
open PySem L2
/-- a while by a measure -/
theorem while_inv {c : BM} {b : SM} (I : Nat → Env → Store → Prop) (Done : Env → Store → Prop)
    (st : ∀ n r S, I n r S → (c r S = .ok false S ∧ Done r S) ∨ (c r S = .ok true S ∧ ∃ r2 S2 n2, b r S = .ok .next r2 S2 ∧ n2 < n ∧ I n2 r2 S2)) :
    ∀ (fu n : Nat) (r : Env) (S : Store), n < fu → I n r S → ∃ r' S', sWhile c b fu r S = .ok .next r' S' ∧ Done r' S'
  | 0, n, r, S, h, _ => absurd h (Nat.not_lt_zero _)
  | fu + 1, n, r, S, h, i => by
    rcases st n r S i with ⟨e, d⟩ | ⟨e, r2, S2, n2, e2, hn, i2⟩
    · refine ⟨r, S, ?_, d⟩
      unfold sWhile
      simp [e]
    · obtain ⟨r', S', e3, d⟩ := while_inv I Done st fu n2 r2 S2 (by omega) i2
      refine ⟨r', S', ?_, d⟩
      rw [← e3]
      conv => lhs; unfold sWhile
      simp [e, e2]
section
variable {S S1 : Store} {l v : Nat} {rows : List (List Int)} {lv : List (Nat × Nat × Nat)} {m : Int} {w : Nat}
def Good (rows : List (List Int)) (lv : List (Nat × Nat × Nat)) : Prop := ∀ k x, lv[k]? = some x → St rows k x
theorem Good.last {x : Nat × Nat × Nat} (h : Good rows (lv ++ [x])) : St rows lv.length x := h _ _ (by simp)
theorem Good.front {x : Nat × Nat × Nat} (h : Good rows (lv ++ [x])) : Good rows lv := fun k y e => h k y (by
  have : k < lv.length := (List.getElem?_eq_some_iff.mp e).1
  rw [List.getElem?_append_left this]
  exact e)
theorem Good.snoc {x : Nat × Nat × Nat} (h : Good rows lv) (hx : St rows lv.length x) : Good rows (lv ++ [x]) := fun k y e => by
  rcases Nat.lt_trichotomy k lv.length with q | q | q
  · rw [List.getElem?_append_left q] at e
    exact h k y e
  · subst q
    rw [List.getElem?_append_right (Nat.le_refl _), Nat.sub_self] at e
    cases e
    exact hx
  · rw [List.getElem?_eq_none (by rw [List.length_append, List.length_singleton]; omega)] at e
    cases e
theorem Blk.uniq {k lo far far' : Nat} (a : Blk rows k lo far) (b : Blk rows k lo far') : far = far' := by
  rcases Nat.lt_trichotomy far far' with h | h | h
  · have h1 := (b.iff far (Nat.lt_of_lt_of_le h b.le)).mpr ⟨Nat.le_of_lt a.lt, h⟩
    have h2 := (a.iff far (Nat.lt_of_lt_of_le h b.le)).mp h1
    omega
  · exact h
  · have h1 := (a.iff far' (Nat.lt_of_lt_of_le h a.le)).mpr ⟨Nat.le_of_lt b.lt, h⟩
    have h2 := (b.iff far' (Nat.lt_of_lt_of_le h a.le)).mp h1
    omega
theorem St.start {k lo far : Nat} (b : Blk rows k lo far) : St rows k (lo, far, lo) := ⟨b, Nat.le_refl _, Nat.le_of_lt b.lt, fun _ i h1 h2 => by simp only at h1 h2; omega⟩
/-- the block that opened goes into -/
theorem opn_ok {rk rs : SM} {fu : Nat} (T : Tab rows w) (h : Lk S l v rows lv m) (g : Good rows lv) (hne : rows ≠ []) (hd : lv.length < w) (hend : ∀ lv' lo far at_, lv = lv' ++ [(lo, far, at_)] → at_ < far) (hfu : rows.length < fu) :
    ∃ lo far, Blk rows lv.length lo far ∧ (lv = [] → lo = 0) ∧ (∀ lv' lo' far' at_, lv = lv' ++ [(lo', far', at_)] → lo = at_) ∧ FOpened rk rs fu [.loc l] S = .ok .non (List.set S v (.lst ((lv ++ [(lo, far, lo)]).map lvD))) := by
  rcases List.eq_nil_or_concat lv with rfl | ⟨lv', x, rfl⟩
  · obtain ⟨row, rs', rfl⟩ : ∃ row rs', rows = row :: rs' := by
      cases rows with
      | nil => exact absurd rfl hne
      | cons a b => exact ⟨a, b, rfl⟩
    have hr : row ≠ [] := fun e => by
      have := T.wd row List.mem_cons_self
      rw [e] at this
      simp at this hd
      omega
    refine ⟨0, rs'.length + 1, Blk.top T hne, fun _ => rfl, fun lv' lo far at_ e => ?_, opened0_ok h hr⟩
    have := congrArg List.length e
    simp at this
  · rw [List.concat_eq_append] at h g hend hd ⊢
    obtain ⟨lo, far, at_⟩ := x
    have hlt := hend lv' lo far at_ rfl
    have st := g.last
    rw [List.length_append, List.length_singleton] at hd
    have hle := st.blk.le
    have hlo := st.lo
    simp only at hle hlo
    have hi : at_ < rows.length := by omega
    have h0 : rows[0]? = some (rows.getD 0 []) := by rw [List.getElem?_eq_getElem (by omega), getD_lt (by omega)]
    have ek : (rows.getD at_ [])[lv'.length]? = some (cl rows lv'.length at_) := getD_some (by rw [T.len hi]; omega)
    obtain ⟨p, p1, p2, p3, p4, p5⟩ := opened_ok (rk := rk) (rs := rs) (fu := fu) h h0 (by rw [T.len (by omega)]; omega) (by omega) (by omega) hle (fun r hr => by rw [T.wd r hr]; omega) (by rw [List.getElem?_eq_getElem hi, getD_lt hi]) ek hfu
    have hcol : ∀ i, i < rows.length → (col rows lv'.length)[i]? = some (cl rows lv'.length i) := fun i hi => by
      rw [col_get, List.getElem?_eq_getElem hi, cl, getD_lt hi]
      rfl
    have hap : at_ < p := by
      rcases Nat.lt_or_ge at_ p with q | q
      · exact q
      · have : p = at_ := by omega
        subst this
        have := p4 _ (by omega) (hcol _ hi)
        omega
    have hgs := st.gs hlt
    simp only at hgs
    have b : Blk rows (lv'.length + 1) at_ p := st.blk.sub T (by omega) hlo hlt p2 hap hgs (fun i q1 q2 => by
        have a := p3 _ hap (hcol (p - 1) (by omega))
        have b := st.blk.mono T (k := lv'.length) (by omega) (i := i) (j := p - 1) (by simp only; omega) (by omega) (by simp only; omega)
        omega) (fun i q1 q2 => by
        simp only at q2
        have a := p4 _ (by omega) (hcol p (by omega))
        have b := st.blk.mono T (k := lv'.length) (by omega) (i := p) (j := i) (by simp only; omega) (by omega) (by simp only; omega)
        omega)
    refine ⟨at_, p, by rw [List.length_append, List.length_singleton]; exact b, fun e => ?_, fun lv'' lo' far' at' e => ?_, ?_⟩
    · simp at e
    · have := List.append_inj' e rfl
      simp at this
      exact this.2.2.2
    · rw [p5, List.append_assoc]
      rfl
/-! ### what else of the store stays -/
structure Nx (S S1 : Store) (l v : Nat) : Prop where
  len : S.length ≤ S1.length
  oth : ∀ i, i < S.length → i ≠ l → i ≠ v → S1[i]? = S[i]?
theorem Nx.refl (S : Store) (l v : Nat) : Nx S S l v := ⟨Nat.le_refl _, fun _ _ _ _ => rfl⟩
theorem Nx.trans {S2 : Store} (a : Nx S S1 l v) (b : Nx S1 S2 l v) : Nx S S2 l v := ⟨Nat.le_trans a.len b.len, fun i h1 h2 h3 => (b.oth i (Nat.lt_of_lt_of_le h1 a.len) h2 h3).trans (a.oth i h1 h2 h3)⟩
theorem Nx.app (S E : Store) (l v : Nat) : Nx S (S ++ E) l v := ⟨by rw [List.length_append]; omega, fun i h _ _ => List.getElem?_append_left h⟩
theorem Nx.set (S : Store) (l v : Nat) (o : O) : Nx S (List.set S v o) l v := ⟨by rw [List.length_set]; exact Nat.le_refl _, fun i _ _ h => List.getElem?_set_ne (fun e => h e.symm)⟩
theorem Nx.mv : Nx S (mvS S l v rows lv m) l v := ⟨by rw [mvS_len]; exact Nat.le_refl _, fun i _ h1 h2 => mvS_other h1 h2⟩
theorem Nx.new {o : O} {n : Nat} (hn : S.length ≤ n) (a : Nx S S1 l v) : Nx S (List.set S1 n o) l v := ⟨by rw [List.length_set]; exact a.len, fun i h1 h2 h3 => by
  rw [List.getElem?_set_ne (by omega)]
  exact a.oth i h1 h2 h3⟩
theorem Lk.app (h : Lk S l v rows lv m) (E : Store) : Lk (S ++ E) l v rows lv m := ⟨by rw [List.getElem?_append_left (List.getElem?_eq_some_iff.mp h.o).1]; exact h.o, by rw [List.getElem?_append_left (List.getElem?_eq_some_iff.mp h.v).1]; exact h.v, h.small⟩
theorem Lk.keep {n : Nat} {o : O} (h : Lk S l v rows lv m) (h1 : n ≠ l) (h2 : n ≠ v) : Lk (List.set S n o) l v rows lv m := ⟨by rw [List.getElem?_set_ne h1]; exact h.o, by rw [List.getElem?_set_ne h2]; exact h.v, h.small⟩
theorem nx_take {lv0 : List (Nat × Nat × Nat)} {m0 : Int} (h : Lk S l v rows lv0 m0) (nx : Nx S S1 l v) (hk : Lk S1 l v rows lv m) : S1.take S.length = mvS S l v rows lv m := by
  refine List.ext_getElem? fun i => ?_
  by_cases hi : i < S.length
  · rw [List.getElem?_take_of_lt hi]
    by_cases e1 : i = l
    · subst e1
      have q : (mvS S i v rows lv m)[i]? = some (.ins "Looker" (lkF rows v m)) := gs (h.set lv hk.small.2).o _
      rw [hk.o, q]
    · by_cases e2 : i = v
      · subst e2
        have q := (h.mv lv m hk.small.2).v
        rw [hk.v, q]
      · rw [nx.oth i hi e1 e2, mvS_other e1 e2]
  · rw [List.getElem?_eq_none (by rw [List.length_take]; omega), List.getElem?_eq_none (by rw [mvS_len]; omega)]
theorem nx_tr {lv0 : List (Nat × Nat × Nat)} {m0 : Int} (h : Lk S l v rows lv0 m0) (nx : Nx S S1 l v) (hk : Lk S1 l v rows lv m) : Tr S S1 := by
  refine ⟨nx.len, fun i o hi e => ?_⟩
  by_cases e1 : i = l
  · subst e1
    rw [hk.o] at e
    cases e
    refine .inr ?_
    show cloL S.length [.tup (rows.map rowD), .loc v, .int m] = true
    have hv : v < S.length := (List.getElem?_eq_some_iff.mp h.v).1
    have c1 : cloL S.length (rows.map rowD) = true := cloL_rows _ _
    simp [cloL, clo, c1, hv]
  · by_cases e2 : i = v
    · subst e2
      rw [hk.v] at e
      cases e
      exact .inr (cloL_lvs _ _)
    · rw [nx.oth i hi e1 e2] at e
      exact .inl e
theorem nx_fin {lv0 : List (Nat × Nat × Nat)} {m0 : Int} {rho : Env} {d d' : D} (h : Lk S l v rows lv0 m0) (nx : Nx S S1 l v) (hk : Lk S1 l v rows lv m) (e : fzD S.length S1 d = some d') : finT S (.ok (.ret d) rho S1) = .ok d' (mvS S l v rows lv m) := by
  rw [finT_ret (nx_tr h nx hk) e, nx_take h nx hk]
theorem mv_next {lv0 : List (Nat × Nat × Nat)} {m0 : Int} {rho : Env} (h : Lk S l v rows lv0 m0) (lv : List (Nat × Nat × Nat)) (m : Int) (hl : lv.length ≤ 90000) : finT S (.ok .next rho (mvS S l v rows lv m)) = .ok .non (mvS S l v rows lv m) := by
  have hk := h.mv lv m hl
  rw [finT_next (nx_tr h Nx.mv hk), nx_take h Nx.mv hk]
theorem reach_ok {rk : SM} {lo far at_ fu : Nat} {y : Int} (T : Tab rows w) (h : Lk S l v rows (lv ++ [(lo, far, at_)]) m) (st : St rows lv.length (lo, far, at_)) (hlt : at_ < far) (hk : lv.length < w) (hfu : rows.length < fu) :
    ∃ p : Nat, at_ ≤ p ∧ p ≤ far ∧ (∀ i, at_ ≤ i → i < p → cl rows lv.length i < y) ∧ (p < far → y ≤ cl rows lv.length p) ∧ St rows lv.length (lo, far, p) ∧ FReach rk fu [.loc l, .int y] S = .ok .non (mvS S l v rows (lv ++ [(lo, far, p)]) (m + 1)) := by
  have ek := key_at (rk := rk) T h st hlt hk
  have hlo := st.lo
  have hgs := st.gs hlt
  simp only at hlo hgs
  have fin : ∀ spot rho, mReach rk fu (frame 2 [.loc l, .int y]) S = .ok .next rho (mvS S l v rows (lv ++ [(lo, far, spot)]) (m + 1)) → FReach rk fu [.loc l, .int y] S = .ok .non (mvS S l v rows (lv ++ [(lo, far, spot)]) (m + 1)) := fun spot rho eb => by
    show finT S (mReach rk fu (frame 2 _) S) = _
    rw [eb]
    exact mv_next h _ _ (by have := h.small.2; simp at this ⊢; omega)
  have ef : frame 2 [.loc l, .int y] = [some (.loc l), some (.int y)] := rfl
  by_cases hy : cl rows lv.length at_ < y
  · obtain ⟨p, p1, p2, p3, p4, p5⟩ := beh_ok (y := y - 1) T h st hk hfu
    refine ⟨p, p1, p2, fun i q1 q2 => by have := p3 i q1 q2; omega, fun q => by have := p4 p (Nat.le_refl _) q; omega, ⟨st.blk, by simp only; omega, p2, fun hp i q1 q2 => ?_⟩, ?_⟩
    · simp only at hp q1 q2 ⊢
      have := p4 p (Nat.le_refl _) hp
      rcases Nat.lt_or_ge i at_ with q | q
      · have := hgs i q1 q
        omega
      · have := p3 i q q2
        omega
    · have eg := goto_ok (spot := p) h
      have eb : ∃ rho, mReach rk fu (frame 2 [.loc l, .int y]) S = .ok .next rho (mvS S l v rows (lv ++ [(lo, far, p)]) (m + 1)) := by
        rw [ef]
        unfold mReach
        simp [h.o, mth_goto, mth_behind, mth_key, ek, p5, eg, hy]
      obtain ⟨rho, eb⟩ := eb
      exact fin p rho eb
  · refine ⟨at_, Nat.le_refl _, Nat.le_of_lt hlt, fun i q1 q2 => by omega, fun _ => by omega, st, ?_⟩
    have eg := goto_ok (spot := at_) h
    have a5 := atI_lv (lv := lv) (lo, far, at_)
    have a2 : atI [D.int lo, D.int far, D.int at_] 2 = some (.int at_) := rfl
    have eb : ∃ rho, mReach rk fu (frame 2 [.loc l, .int y]) S = .ok .next rho (mvS S l v rows (lv ++ [(lo, far, at_)]) (m + 1)) := by
      rw [ef]
      unfold mReach
      simp [h.o, mth_goto, mth_behind, mth_key, ek, eg, hy, lkF_levels, h.v, a5, lv_at, a2, -List.map_append]
    obtain ⟨rho, eb⟩ := eb
    exact fin at_ rho eb
end
/-! ### the trie -/
def mTrie : SM :=
    (sRet (mCall sortSetD (mCons (mLc (mIter (mVar 0)) [2] (tgN 2) (mT (mBin eqD (mSl (mVar 2) mNoP (mP (mCall lenD (mCons (mVar 1) mNil)))) (mVar 1))) (mBin ixD (mVar 2) (mCall lenD (mCons (mVar 1) mNil)))) mNil)))
noncomputable def FTrie : List D → Store → R D := runT 3 mTrie
def trieI (rows : List (List Int)) (pl : List Int) : List Int := ssI ((rows.filter fun r => decide (r.take pl.length = pl)).map fun r => r.getD pl.length 0)
theorem trie_ok {S : Store} {rows : List (List Int)} {pl : List Int} {w : Nat} (hw : ∀ r ∈ rows, r.length = w) (hp : pl.length < w) (h64 : rows.length < 64) : FTrie [.tup (rows.map rowD), rowD pl] S = .ok (.lst ((trieI rows pl).map D.int)) S := by
  have hl := lc_pure (gm := tgN 2) (tt := (mT (mBin eqD (mSl (mVar 2) mNoP (mP (mCall lenD (mCons (mVar 1) mNil)))) (mVar 1)))) (te := (mBin ixD (mVar 2) (mCall lenD (mCons (mVar 1) mNil))))
    (r0 := [some (.tup (rows.map rowD)), some (rowD pl), none]) (S := S) (fun d => match d with | .tup xs => decide (xs.take pl.length = pl.map D.int) | _ => false) (fun d => match d with | .tup xs => xs.getD pl.length .non | _ => .non) (rows.map rowD) (fun d hd => by
      obtain ⟨r, hr, rfl⟩ := List.mem_map.mp hd
      have hrl := hw r hr
      refine ⟨_, rfl, ?_, fun _ => ?_⟩
      · have e1 : lenD [rowD pl] S = some (.int pl.length) := by simp [rowD]
        have e2 : slD (rowD r) none (some (pl.length : Int)) S = some (rowD (r.take pl.length)) := by
          show some (D.tup (cutL (r.map D.int) none (some (pl.length : Int)))) = _
          rw [cutL_take, rowD, List.map_take]
        have e3 := eqD_row (S := S) (r.take pl.length) pl
        simp [e1, e2, e3]
        simp only [rowD]
        rw [← List.map_take]
        exact decide_eq_decide.mpr ⟨fun h => by rw [h], map_int_inj⟩
      · have e1 : lenD [rowD pl] S = some (.int pl.length) := by simp [rowD]
        have hlt : pl.length < r.length := by omega
        have e2 : ixD (rowD r) (.int (pl.length : Int)) S = some (.int r[pl.length]) := by
          show atI (r.map D.int) _ = _
          exact atI_nat (by rw [List.getElem?_map, List.getElem?_eq_getElem hlt]; rfl)
        simp [e1, e2]
        simp [rowD, List.getElem?_eq_getElem hlt])
  have ev : ((rows.map rowD).filter fun d => match d with | .tup xs => decide (xs.take pl.length = pl.map D.int) | _ => false).map (fun d => match d with | .tup xs => xs.getD pl.length .non | _ => D.non) = ((rows.filter fun r => decide (r.take pl.length = pl)).map fun r => r.getD pl.length 0).map D.int := by
    rw [List.filter_map, List.map_map, List.map_map]
    have ef : (rows.filter ((fun d => match d with | .tup xs => decide (xs.take pl.length = pl.map D.int) | _ => false) ∘ rowD)) = rows.filter fun r => decide (r.take pl.length = pl) := by
      refine List.filter_congr fun r hr => ?_
      show decide ((r.map D.int).take pl.length = pl.map D.int) = _
      rw [← List.map_take]
      exact decide_eq_decide.mpr ⟨map_int_inj, fun h => by rw [h]⟩
    rw [ef]
    refine List.map_congr_left fun r hr => ?_
    have hlt : pl.length < r.length := by rw [hw r (List.mem_filter.mp hr).1]; exact hp
    show (r.map D.int).getD pl.length .non = D.int (r.getD pl.length 0)
    simp [List.getElem?_eq_getElem hlt]
  rw [ev] at hl
  have hz : ((rows.filter fun r => decide (r.take pl.length = pl)).map fun r => r.getD pl.length 0).length < 64 := by
    rw [List.length_map]
    exact Nat.lt_of_le_of_lt (List.length_filter_le _ _) h64
  have es := sortSetD_ints (S := S) hz
  have eb : ∃ rho, mTrie (frame 3 [.tup (rows.map rowD), rowD pl]) S = .ok (.ret (.lst ((trieI rows pl).map D.int))) rho S := by
    rw [show frame 3 [.tup (rows.map rowD), rowD pl] = [some (.tup (rows.map rowD)), some (rowD pl), none] from rfl]
    unfold mTrie trieI
    simp only [sRet_ap, mCall_ap, mCons_ap, mLc_ap, mIter_ap, mVar_ap, List.getElem?_cons_zero, rb_ok, seqD_tup, ofO_some, wipeE_cons, wipeE_nil, List.set_cons_succ, List.set_cons_zero, hl, mNil_ap, es, bs_ok]
    exact ⟨_, rfl⟩
  obtain ⟨rho, eb⟩ := eb
  show finT S (mTrie (frame 3 _) S) = _
  rw [eb]
  exact fin_ret0 (cloL_ints _ _)
end Dv
/-! _law_same is equality -/
namespace Dv
open PySem L2
def mSame (self : List D → Store → R D) : SM :=
    (sSeq (sIf (mT (mBin isND (mVar 1) (mC .non))) (sRet (mBin isND (mVar 0) (mC .non))) sNil)
    (sSeq (sIf (mTru (mCall isiD (mCons (mVar 1) (mCons (mC (.ty "bool")) mNil)))) (sRet (mAnd (mCall isiD (mCons (mVar 0) (mCons (mC (.ty "bool")) mNil))) (mBin eqD (mVar 0) (mVar 1)))) sNil)
    (sSeq (sIf (mTru (mCall isiD (mCons (mVar 1) (mCons (mC (.ty "tuple")) mNil)))) (sSeq (sIf (mOrT (mNotT (mTru (mCall isiD (mCons (mVar 0) (mCons (mC (.ty "tuple")) mNil))))) (mT (mBin neD (mCall lenD (mCons (mVar 0) mNil)) (mCall lenD (mCons (mVar 1) mNil))))) (sRet (mC (.bl false))) sNil)
    (sRet (mCall allD (mCons (mLc (mZip (mCons (mVar 0) (mCons (mVar 1) mNil))) [2, 3] (tgT 2 (tgsCons (tgN 2) (tgsCons (tgN 3) tgsNil))) mYes (mApp 2 self (mCons (mVar 2) (mCons (mVar 3) mNil)))) mNil)))) sNil)
    (sSeq (sIf (mTru (mCall isiD (mCons (mVar 1) (mCons (mC (.ty "str")) mNil)))) (sRet (mAnd (mCall isiD (mCons (mVar 0) (mCons (mC (.ty "str")) mNil))) (mBin eqD (mVar 0) (mVar 1)))) sNil)
    (sRet (mAnd (mCall isiD (mCons (mVar 0) (mCons (mC (.ty "int")) mNil))) (mAnd (mNot (mCall isiD (mCons (mVar 0) (mCons (mC (.ty "bool")) mNil)))) (mBin eqD (mVar 0) (mVar 1)))))))))
noncomputable def FSame : Nat → List D → Store → R D
  | 0 => fun _ _ => .bad
  | n + 1 => runT 4 (mSame (FSame n))
/-- data of tuples, not deeper than so -/
def pt : Nat → D → Bool
  | _, .non => true
  | _, .bl _ => true
  | _, .int _ => true
  | _, .str _ => true
  | k + 1, .tup xs => xs.all (pt k)
  | _, _ => false
theorem same_zip {S : Store} (f : List D → Store → R D) (k : Nat) (ih : ∀ a b, pt k a = true → pt k b = true → f [a, b] S = .ok (.bl (decide (a = b))) S) (r0 : Env) (h0 : r0.length = 4) : ∀ xs ys : List D, xs.all (pt k) = true → ys.all (pt k) = true →
    lcL (tgT 2 (tgsCons (tgN 2) (tgsCons (tgN 3) tgsNil))) mYes (mApp 2 f (mCons (mVar 2) (mCons (mVar 3) mNil))) r0 (List.zipWith (fun a b => D.tup [a, b]) xs ys) S = .ok ((List.zipWith (fun a b => decide (a = b)) xs ys).map D.bl) S
  | [], _, _, _ => by simp [lcL]
  | x :: xs, [], _, _ => by simp [lcL]
  | x :: xs, y :: ys, h1, h2 => by
    rw [List.all_cons, Bool.and_eq_true] at h1 h2
    rw [List.zipWith_cons_cons, lcL_cons]
    have e := same_zip f k ih r0 h0 xs ys h1.2 h2.2
    have e2 := ih x y h1.1 h2.1
    simp [h0, e, e2]
theorem zip_all : ∀ xs ys : List D, xs.length = ys.length → ((List.zipWith (fun a b => decide (a = b)) xs ys).all id) = decide (xs = ys)
  | [], [], _ => by simp
  | x :: xs, y :: ys, h => by
    rw [List.zipWith_cons_cons, List.all_cons, zip_all xs ys (by simpa using h)]
    by_cases e : x = y
    · subst e; simp
    · simp [e]
theorem same_ok {S : Store} : ∀ (n k : Nat), k < n → ∀ a b, pt k a = true → pt k b = true → FSame n [a, b] S = .ok (.bl (decide (a = b))) S
  | 0, k, h, _, _, _, _ => absurd h (Nat.not_lt_zero _)
  | n + 1, k, h, a, b, ha, hb => by
    have eb : ∃ rho, mSame (FSame n) (frame 4 [a, b]) S = .ok (.ret (.bl (decide (a = b)))) rho S := by
      rw [show frame 4 [a, b] = [some a, some b, none, none] from rfl]
      unfold mSame
      have i1 : ∀ d, pt k d = true → ∀ S, isiD [d, .ty "bool"] S = some (.bl (match d with | .bl _ => true | _ => false)) := fun d hd S => by
        cases d <;> first | rfl | (cases k <;> cases hd)
      have i2 : ∀ d, pt k d = true → ∀ S, isiD [d, .ty "tuple"] S = some (.bl (match d with | .tup _ => true | _ => false)) := fun d hd S => by
        cases d <;> first | rfl | (cases k <;> cases hd)
      have i3 : ∀ d, pt k d = true → ∀ S, isiD [d, .ty "str"] S = some (.bl (match d with | .str _ => true | _ => false)) := fun d hd S => by
        cases d <;> first | rfl | (cases k <;> cases hd)
      have i4 : ∀ d, pt k d = true → ∀ S, isiD [d, .ty "int"] S = some (.bl (match d with | .int _ => true | .bl _ => true | _ => false)) := fun d hd S => by
        cases d <;> first | rfl | (cases k <;> cases hd)
      have j1 : ∀ d, pt k d = true → ∀ S, isND d .non S = some (.bl (match d with | .non => true | _ => false)) := fun d hd S => by
        cases d <;> rfl
      have q1 : ∀ x y : Bool, ∀ S, eqD (.bl x) (.bl y) S = some (.bl (decide (x = y))) := fun _ _ _ => rfl
      have q2 : ∀ x y : Str, ∀ S, eqD (.str x) (.str y) S = some (.bl (decide (x = y))) := fun _ _ _ => rfl
      cases b with
      | tup ys =>
        cases a with
        | tup xs =>
          cases k with
          | zero => cases ha
          | succ k =>
            have z := same_zip (S := S) (FSame n) k (fun a b h1 h2 => same_ok n k (by omega) a b h1 h2) [some (.tup xs), some (.tup ys), none, none] rfl xs ys ha hb
            by_cases hl : xs.length = ys.length
            · have hz := zip_all xs ys hl
              have e1 : ((xs.length : Int) = (ys.length : Int)) := by rw [hl]
              have e2 : zipD [.tup xs, .tup ys] = some (List.zipWith (fun a b => D.tup [a, b]) xs ys) := rfl
              have e3 := allD_bls (S := S) (List.zipWith (fun a b => decide (a = b)) xs ys)
              simp [i1 _ ha, i1 _ hb, i2 _ ha, i2 _ hb, j1 _ hb, e1, e2, z, e3, hz, -List.map_zipWith]
            · have e1 : ¬ ((xs.length : Int) = (ys.length : Int)) := by omega
              have e2 : ¬ xs = ys := fun e => hl (by rw [e])
              simp [i1 _ ha, i1 _ hb, i2 _ ha, i2 _ hb, j1 _ hb, e1, e2]
        | _ => simp [i1 _ ha, i1 _ hb, i2 _ ha, i2 _ hb, j1 _ hb]
      | _ => cases a <;> simp [i1 _ ha, i1 _ hb, i2 _ ha, i2 _ hb, i3 _ ha, i3 _ hb, i4 _ ha, j1 _ hb, j1 _ ha, q1, q2] <;> (first | done | (cases k <;> cases hb) | (cases k <;> cases ha))
    obtain ⟨rho, eb⟩ := eb
    show finT S (mSame (FSame n) (frame 4 _) S) = _
    rw [eb]
    exact fin_ret0 rfl
theorem pt_rowD (k : Nat) (ns : List Int) : pt (k + 1) (rowD ns) = true := by
  show (ns.map D.int).all (pt k) = true
  rw [List.all_map, List.all_eq_true]
  intro n _
  cases k <;> rfl
theorem pt_rows (k : Nat) (rows : List (List Int)) : pt (k + 2) (.tup (rows.map rowD)) = true := by
  show (rows.map rowD).all (pt (k + 1)) = true
  rw [List.all_map, List.all_eq_true]
  intro n _
  exact pt_rowD k n
end Dv
namespace Dv
open PySem L2
noncomputable def mPick : SM := (sRet (mBin ixD (mVar 2) (mApp 3 FDraw (mCons (mVar 0) (mCons (mVar 1) (mCons (mCall lenD (mCons (mVar 2) mNil)) mNil))))))
noncomputable def FPick : List D → Store → R D := runT 3 mPick
theorem pick_tw {ns : List Int} {S : Store} {t n : Nat} {seq : D} {xs : List D} (h63 : ns.length ≤ 63) (h : Twn t n S) (hn : n < 99990) (hs : seq = .lst xs ∨ seq = .tup xs) (hne : xs ≠ []) (hc : ∀ m, cloL m xs = true) : ∃ (i : Nat) (d : D) (S' : Store), xs[i]? = some d ∧ Twn t (n + 2) S' ∧ Dif t S S' ∧ FPick [.scr ns, .loc t, seq] S = .ok d S' := by
  have hl : 0 < xs.length := List.length_pos_iff.mpr hne
  obtain ⟨r, S', a, b, c, e⟩ := draw_tw (many := (xs.length : Int)) h63 h hn (by omega)
  have hr : r < xs.length := by omega
  refine ⟨r, xs[r], S', List.getElem?_eq_getElem hr, b, c, ?_⟩
  have eb : ∃ rho, mPick (frame 3 [.scr ns, .loc t, seq]) S = .ok (.ret xs[r]) rho S' := by
    rw [show frame 3 [.scr ns, .loc t, seq] = [some (.scr ns), some (.loc t), some seq] from rfl]
    unfold mPick
    have ea : atI xs (r : Int) = some xs[r] := atI_nat (List.getElem?_eq_getElem hr)
    rcases hs with rfl | rfl
    · simp [e, ea]
    · simp [e, ea]
  obtain ⟨rho, eb⟩ := eb
  show finT S (mPick (frame 3 _) S) = _
  rw [eb]
  exact c.fin ((cloL_iff _ _).mp (hc _) _ (List.getElem_mem hr))
/-- a loop that may return -/
theorem loop_ret {gm : D → Env → Option Env} {b : SM} (I : Nat → Env → Store → Prop) (Rt : D → Env → Store → Prop) : ∀ (ds : List D) (k : Nat) (r : Env) (S : Store),
    (∀ i d r S, ds[i]? = some d → I (k + i) r S → ∃ r1, gm d r = some r1 ∧ ((∃ r2 S2, b r1 S = .ok .next r2 S2 ∧ I (k + i + 1) r2 S2) ∨ ∃ x r2 S2, b r1 S = .ok (.ret x) r2 S2 ∧ Rt x r2 S2)) →
    I k r S → (∃ r' S', sLoop gm b ds r S = .ok .next r' S' ∧ I (k + ds.length) r' S') ∨ ∃ x r' S', sLoop gm b ds r S = .ok (.ret x) r' S' ∧ Rt x r' S'
  | [], k, r, S, _, h => .inl ⟨r, S, rfl, h⟩
  | d :: ds, k, r, S, st, h => by
    obtain ⟨r1, e1, e2⟩ := st 0 d r S rfl h
    rw [sLoop_cons, e1]
    rcases e2 with ⟨r2, S2, e2, h2⟩ | ⟨x, r2, S2, e2, h2⟩
    · have := loop_ret I Rt ds (k + 1) r2 S2 (fun i d' r S q h => by
        have := st (i + 1) d' r S q
        rw [show k + (i + 1) = k + 1 + i by omega] at this
        exact this h) h2
      simp only [e2]
      rw [List.length_cons, show k + (ds.length + 1) = k + 1 + ds.length by omega]
      exact this
    · simp only [e2]
      exact .inr ⟨x, r2, S2, rfl, h2⟩
/-- the store but for the town, and what is new -/
structure Tq (S S1 : Store) : Prop where
  len : S.length ≤ S1.length
  oth : ∀ i, i < S.length → i ≠ 0 → S1[i]? = S[i]?
theorem Tq.fin {S S1 : Store} {n : Nat} {rho : Env} {d : D} (h0 : 0 < S.length) (h : Tq S S1) (tw : Twn 0 n S1) (hd : clo S.length d = true) : ∃ S', finT S (.ok (.ret d) rho S1) = .ok d S' ∧ Twn 0 n S' ∧ Dif 0 S S' := by
  obtain ⟨ts, t1, t2⟩ := tw
  have tr : Tr S S1 := by
    refine ⟨h.len, fun i o hi e => ?_⟩
    by_cases e0 : i = 0
    · subst e0
      rw [t2] at e
      cases e
      exact .inr (cloL_ints _ _)
    · rw [h.oth i hi e0] at e
      exact .inl e
  have et : S1.take S.length = List.set S 0 (.lst (ts.map D.int)) := by
    refine List.ext_getElem? fun i => ?_
    by_cases hi : i < S.length
    · rw [List.getElem?_take_of_lt hi]
      by_cases e0 : i = 0
      · subst e0
        rw [t2, List.getElem?_set_self hi]
      · rw [h.oth i hi e0, List.getElem?_set_ne (fun e => e0 e.symm)]
    · rw [List.getElem?_eq_none (by rw [List.length_take]; omega), List.getElem?_eq_none (by rw [List.length_set]; omega)]
  refine ⟨_, ?_, ⟨ts, t1, ?_⟩, ⟨ts, et⟩⟩
  · rw [finT_ret tr (fz_clo hd)]
  · rw [et]
    exact List.getElem?_set_self h0
theorem eqv_self {d : D} (h : okD d = true) : eqvD d d = true := by
  unfold okD SeqAt.shaped at h
  rw [Bool.and_eq_true, Bool.and_eq_true] at h
  exact SeqAt.eqv_refl _ h.2.1
end Dv
namespace Law
open PySem L2 Dv
/-! ### the text -/
def top (i : Nat) : Stmt := PySem.Challenge.pw_meetloft_k07_whole_lookers_walked.main.body.getD i (.Pass ⟨0, 0, 0, 0⟩)
abbrev s__law_draw : Stmt := top 11
abbrev N__law_draw : List Str := ["script", "town", "many", "k", "cell", "digits", "number", "more"]
abbrev P__law_draw : List Str := ["script", "town", "many"]
theorem sc__law_draw : FnScope N__law_draw P__law_draw (defScope s__law_draw) := ⟨rfl, rfl, rfl, by decide +kernel, rfl, by decide +kernel, by decide +kernel⟩
abbrev s__law_drawn_rows : Stmt := top 13
abbrev N__law_drawn_rows : List Str := ["script", "town", "width", "most", "far", "found", "k", "row", "j"]
abbrev P__law_drawn_rows : List Str := ["script", "town", "width", "most", "far"]
theorem sc__law_drawn_rows : FnScope N__law_drawn_rows P__law_drawn_rows (defScope s__law_drawn_rows) := ⟨rfl, rfl, rfl, by decide +kernel, rfl, by decide +kernel, by decide +kernel⟩
abbrev s__law_pick : Stmt := top 12
abbrev N__law_pick : List Str := ["script", "town", "some"]
abbrev P__law_pick : List Str := ["script", "town", "some"]
theorem sc__law_pick : FnScope N__law_pick P__law_pick (defScope s__law_pick) := ⟨rfl, rfl, rfl, by decide +kernel, rfl, by decide +kernel, by decide +kernel⟩
abbrev s_Looker___init__ : Stmt := inClass (top 8) 0
abbrev N_Looker___init__ : List Str := ["self", "rows"]
abbrev P_Looker___init__ : List Str := ["self", "rows"]
theorem sc_Looker___init__ : FnScope N_Looker___init__ P_Looker___init__ (defScope s_Looker___init__) := ⟨rfl, rfl, rfl, by decide +kernel, rfl, by decide +kernel, by decide +kernel⟩
abbrev s__law_same : Stmt := top 10
abbrev N__law_same : List Str := ["got", "due", "one", "other"]
abbrev P__law_same : List Str := ["got", "due"]
theorem sc__law_same : FnScope N__law_same P__law_same (defScope s__law_same) := ⟨rfl, rfl, rfl, by decide +kernel, rfl, by decide +kernel, by decide +kernel⟩
abbrev s_Looker_at_end : Stmt := inClass (top 8) 1
abbrev N_Looker_at_end : List Str := ["self"]
abbrev P_Looker_at_end : List Str := ["self"]
theorem sc_Looker_at_end : FnScope N_Looker_at_end P_Looker_at_end (defScope s_Looker_at_end) := ⟨rfl, rfl, rfl, by decide +kernel, rfl, by decide +kernel, by decide +kernel⟩
abbrev s_first_at : Stmt := top 6
abbrev N_first_at : List Str := ["row", "begin", "value", "low", "far", "mid"]
abbrev P_first_at : List Str := ["row", "begin", "value"]
theorem sc_first_at : FnScope N_first_at P_first_at (defScope s_first_at) := ⟨rfl, rfl, rfl, by decide +kernel, rfl, by decide +kernel, by decide +kernel⟩
abbrev s_Looker_behind : Stmt := inClass (top 8) 3
abbrev N_Looker_behind : List Str := ["self", "value", "column", "low", "far", "at", "row"]
abbrev P_Looker_behind : List Str := ["self", "value"]
theorem sc_Looker_behind : FnScope N_Looker_behind P_Looker_behind (defScope s_Looker_behind) := ⟨rfl, rfl, rfl, by decide +kernel, rfl, by decide +kernel, by decide +kernel⟩
abbrev s_Looker_key : Stmt := inClass (top 8) 6
abbrev N_Looker_key : List Str := ["self"]
abbrev P_Looker_key : List Str := ["self"]
theorem sc_Looker_key : FnScope N_Looker_key P_Looker_key (defScope s_Looker_key) := ⟨rfl, rfl, rfl, by decide +kernel, rfl, by decide +kernel, by decide +kernel⟩
abbrev s_Looker_opened : Stmt := inClass (top 8) 4
abbrev N_Looker_opened : List Str := ["self", "low", "far", "at"]
abbrev P_Looker_opened : List Str := ["self"]
theorem sc_Looker_opened : FnScope N_Looker_opened P_Looker_opened (defScope s_Looker_opened) := ⟨rfl, rfl, rfl, by decide +kernel, rfl, by decide +kernel, by decide +kernel⟩
abbrev s_Looker_go_to : Stmt := inClass (top 8) 7
abbrev N_Looker_go_to : List Str := ["self", "spot", "low", "far", "at"]
abbrev P_Looker_go_to : List Str := ["self", "spot"]
theorem sc_Looker_go_to : FnScope N_Looker_go_to P_Looker_go_to (defScope s_Looker_go_to) := ⟨rfl, rfl, rfl, by decide +kernel, rfl, by decide +kernel, by decide +kernel⟩
abbrev s_Looker_reach : Stmt := inClass (top 8) 9
abbrev N_Looker_reach : List Str := ["self", "value"]
abbrev P_Looker_reach : List Str := ["self", "value"]
theorem sc_Looker_reach : FnScope N_Looker_reach P_Looker_reach (defScope s_Looker_reach) := ⟨rfl, rfl, rfl, by decide +kernel, rfl, by decide +kernel, by decide +kernel⟩
abbrev s_Looker_place : Stmt := inClass (top 8) 10
abbrev N_Looker_place : List Str := ["self"]
abbrev P_Looker_place : List Str := ["self"]
theorem sc_Looker_place : FnScope N_Looker_place P_Looker_place (defScope s_Looker_place) := ⟨rfl, rfl, rfl, by decide +kernel, rfl, by decide +kernel, by decide +kernel⟩
abbrev s_Looker_looks : Stmt := inClass (top 8) 11
abbrev N_Looker_looks : List Str := ["self"]
abbrev P_Looker_looks : List Str := ["self"]
theorem sc_Looker_looks : FnScope N_Looker_looks P_Looker_looks (defScope s_Looker_looks) := ⟨rfl, rfl, rfl, by decide +kernel, rfl, by decide +kernel, by decide +kernel⟩
abbrev s_Looker_further : Stmt := inClass (top 8) 8
abbrev N_Looker_further : List Str := ["self"]
abbrev P_Looker_further : List Str := ["self"]
theorem sc_Looker_further : FnScope N_Looker_further P_Looker_further (defScope s_Looker_further) := ⟨rfl, rfl, rfl, by decide +kernel, rfl, by decide +kernel, by decide +kernel⟩
abbrev s_Looker_depth : Stmt := inClass (top 8) 2
abbrev N_Looker_depth : List Str := ["self"]
abbrev P_Looker_depth : List Str := ["self"]
theorem sc_Looker_depth : FnScope N_Looker_depth P_Looker_depth (defScope s_Looker_depth) := ⟨rfl, rfl, rfl, by decide +kernel, rfl, by decide +kernel, by decide +kernel⟩
abbrev s__law_trie : Stmt := top 15
abbrev N__law_trie : List Str := ["rows", "place", "row"]
abbrev P__law_trie : List Str := ["rows", "place"]
theorem sc__law_trie : FnScope N__law_trie P__law_trie (defScope s__law_trie) := ⟨rfl, rfl, rfl, by decide +kernel, rfl, by decide +kernel, by decide +kernel⟩
abbrev s__law_reach_holds : Stmt := top 17
abbrev N__law_reach_holds : List Str := ["script", "town", "rows", "width", "deep", "looker", "other", "far", "value", "before", "one"]
abbrev P__law_reach_holds : List Str := ["script", "town", "rows", "width"]
theorem sc__law_reach_holds : FnScope N__law_reach_holds P__law_reach_holds (defScope s__law_reach_holds) := ⟨rfl, rfl, rfl, by decide +kernel, rfl, by decide +kernel, by decide +kernel⟩
abbrev s_Looker_up : Stmt := inClass (top 8) 5
abbrev N_Looker_up : List Str := ["self"]
abbrev P_Looker_up : List Str := ["self"]
theorem sc_Looker_up : FnScope N_Looker_up P_Looker_up (defScope s_Looker_up) := ⟨rfl, rfl, rfl, by decide +kernel, rfl, by decide +kernel, by decide +kernel⟩
abbrev s__law_walked : Stmt := top 16
abbrev N__law_walked : List Str := ["looker", "rows", "width", "found", "place", "due", "seen"]
abbrev P__law_walked : List Str := ["looker", "rows", "width"]
theorem sc__law_walked : FnScope N__law_walked P__law_walked (defScope s__law_walked) := ⟨rfl, rfl, rfl, by decide +kernel, rfl, by decide +kernel, by decide +kernel⟩
abbrev s_law : Stmt := top 18
abbrev N_law : List Str := ["script", "town", "k", "width", "rows", "looker", "places", "row", "deep"]
abbrev P_law : List Str := ["script"]
theorem sc_law : FnScope N_law P_law (defScope s_law) := ⟨rfl, rfl, rfl, by decide +kernel, rfl, by decide +kernel, by decide +kernel⟩
/-! ### what each def comes to -/
noncomputable def m__law_draw (fu : Nat) : SM :=
    (sSeq (sIf (mNotT (mTru (mVar 1))) (sDrop (mAppend (mVar 1) (mCall maxD (mCons (mBin addD (mLc (mIter (mVar 0)) [4] (tgN 4) mYes (mCall absD (mCons (mVar 4) mNil))) (mLst (mCons (mC (.int 0)) mNil))) mNil)))) sNil)
    (sSeq (sDrop (mAppend (mVar 1) (mC (.int 0))))
    (sSeq (sSet 3 (mCall lenD (mCons (mVar 1) mNil)))
    (sSeq (sSet 4 (mIf (mTru (mVar 0)) (mBin ixD (mVar 0) (mBin modD (mVar 3) (mCall lenD (mCons (mVar 0) mNil)))) (mC (.int 0))))
    (sSeq (sSet 5 (mBin modD (mBin ixD (mVar 1) (mC (.int 0))) (mC (.int 65536))))
    (sSeq (sSetIx (mVar 1) (mC (.int 0)) (mBin fdivD (mBin ixD (mVar 1) (mC (.int 0))) (mC (.int 65536))))
    (sSeq (sSet 6 (mBin modD (mBin addD (mBin addD (mVar 4) (mBin mulD (mC (.int 40503)) (mVar 5))) (mBin mulD (mC (.int 104729)) (mVar 3))) (mC (.int 4294967291))))
    (sSeq (sSet 6 (mBin modD (mBin mulD (mBin modD (mBin mulD (mVar 6) (mVar 6)) (mC (.int 4294967279))) (mC (.int 48271))) (mC (.int 4294967291))))
    (sSeq (sSet 7 (mBin modD (mBin mulD (mBin modD (mBin mulD (mVar 6) (mVar 6)) (mC (.int 4294967279))) (mC (.int 69621))) (mC (.int 4294967291))))
    (sRet (mBin modD (mBin addD (mBin mulD (mBin fdivD (mVar 6) (mC (.int 64))) (mC (.int 67108864))) (mBin fdivD (mVar 7) (mC (.int 64)))) (mVar 2))))))))))))
noncomputable def F__law_draw (fu : Nat) : List D → Store → R D := runT 8 (m__law_draw fu)
noncomputable def m__law_drawn_rows (fu : Nat) : SM :=
    (sSeq (sSet 5 (mLst mNil))
    (sSeq (sFor (mRng1 (mCons (mApp 3 (F__law_draw fu) (mCons (mVar 0) (mCons (mVar 1) (mCons (mBin addD (mVar 3) (mC (.int 1))) mNil)))) mNil)) (tgN 6) (sSeq (sSet 7 (mCall tupD (mCons (mLc (mRng1 (mCons (mVar 2) mNil)) [8] (tgN 8) mYes (mApp 3 (F__law_draw fu) (mCons (mVar 0) (mCons (mVar 1) (mCons (mVar 4) mNil))))) mNil)))
    (sSet 5 (mBin addD (mVar 5) (mBin mulD (mLst (mCons (mVar 7) mNil)) (mCall intD (mCons (mBin ninD (mVar 7) (mVar 5)) mNil)))))))
    (sRet (mCall tupD (mCons (mCall sortD (mCons (mVar 5) mNil)) mNil)))))
noncomputable def F__law_drawn_rows (fu : Nat) : List D → Store → R D := runT 9 (m__law_drawn_rows fu)
noncomputable def m__law_pick (fu : Nat) : SM :=
    (sRet (mBin ixD (mVar 2) (mApp 3 (F__law_draw fu) (mCons (mVar 0) (mCons (mVar 1) (mCons (mCall lenD (mCons (mVar 2) mNil)) mNil))))))
noncomputable def F__law_pick (fu : Nat) : List D → Store → R D := runT 3 (m__law_pick fu)
noncomputable def m_Looker___init__ (fu : Nat) : SM :=
    (sSeq (sFldD "Looker" "rows" (mVar 0) (mVar 1))
    (sSeq (sFldD "Looker" "levels" (mVar 0) (mNewL mNil))
    (sFldD "Looker" "many" (mVar 0) (mC (.int 0)))))
noncomputable def F_Looker___init__ (fu : Nat) : List D → Store → R D := runK 2 (m_Looker___init__ fu)
noncomputable def m__law_same (fu : Nat) (self : List D → Store → R D) : SM :=
    (sSeq (sIf (mT (mBin isND (mVar 1) (mC .non))) (sRet (mBin isND (mVar 0) (mC .non))) sNil)
    (sSeq (sIf (mTru (mCall isiD (mCons (mVar 1) (mCons (mC (.ty "bool")) mNil)))) (sRet (mAnd (mCall isiD (mCons (mVar 0) (mCons (mC (.ty "bool")) mNil))) (mBin eqD (mVar 0) (mVar 1)))) sNil)
    (sSeq (sIf (mTru (mCall isiD (mCons (mVar 1) (mCons (mC (.ty "tuple")) mNil)))) (sSeq (sIf (mOrT (mNotT (mTru (mCall isiD (mCons (mVar 0) (mCons (mC (.ty "tuple")) mNil))))) (mT (mBin neD (mCall lenD (mCons (mVar 0) mNil)) (mCall lenD (mCons (mVar 1) mNil))))) (sRet (mC (.bl false))) sNil)
    (sRet (mCall allD (mCons (mLc (mZip (mCons (mVar 0) (mCons (mVar 1) mNil))) [2, 3] (tgT 2 (tgsCons (tgN 2) (tgsCons (tgN 3) tgsNil))) mYes (mApp 2 self (mCons (mVar 2) (mCons (mVar 3) mNil)))) mNil)))) sNil)
    (sSeq (sIf (mTru (mCall isiD (mCons (mVar 1) (mCons (mC (.ty "str")) mNil)))) (sRet (mAnd (mCall isiD (mCons (mVar 0) (mCons (mC (.ty "str")) mNil))) (mBin eqD (mVar 0) (mVar 1)))) sNil)
    (sRet (mAnd (mCall isiD (mCons (mVar 0) (mCons (mC (.ty "int")) mNil))) (mAnd (mNot (mCall isiD (mCons (mVar 0) (mCons (mC (.ty "bool")) mNil)))) (mBin eqD (mVar 0) (mVar 1)))))))))
noncomputable def F__law_same (fu : Nat) : Nat → List D → Store → R D
  | 0 => fun _ _ => .bad
  | n + 1 => runT 4 (m__law_same fu (F__law_same fu n))
noncomputable def m_Looker_at_end (fu : Nat) : SM :=
    (sRet (mAnd (mBin neD (mFld "Looker" "levels" (mVar 0)) (mLst mNil)) (mBin eqD (mBin ixD (mBin ixD (mFld "Looker" "levels" (mVar 0)) (mUn negD (mC (.int 1)))) (mC (.int 2))) (mBin ixD (mBin ixD (mFld "Looker" "levels" (mVar 0)) (mUn negD (mC (.int 1)))) (mC (.int 1))))))
noncomputable def F_Looker_at_end (fu : Nat) : List D → Store → R D := runT 1 (m_Looker_at_end fu)
noncomputable def m_first_at (fu : Nat) : SM :=
    (sSeq (sPar 3 4 (mCons (mVar 1) (mCons (mCall lenD (mCons (mVar 0) mNil)) mNil)))
    (sSeq (sWhile (mT (mBin ltD (mVar 3) (mVar 4))) (sSeq (sSet 5 (mBin fdivD (mBin addD (mVar 3) (mVar 4)) (mC (.int 2))))
    (sIf (mT (mBin ltD (mBin ixD (mVar 0) (mVar 5)) (mVar 2))) (sSet 3 (mBin addD (mVar 5) (mC (.int 1)))) (sSet 4 (mVar 5)))) fu)
    (sRet (mVar 3))))
noncomputable def F_first_at (fu : Nat) : List D → Store → R D := runT 6 (m_first_at fu)
noncomputable def m_Looker_behind (fu : Nat) : SM :=
    (sSeq (sAsg (mBin ixD (mFld "Looker" "levels" (mVar 0)) (mUn negD (mC (.int 1)))) (tgT 3 (tgsCons (tgN 3) (tgsCons (tgN 4) (tgsCons (tgN 5) tgsNil)))))
    (sSeq (sSet 2 (mLc (mIter (mSl (mFld "Looker" "rows" (mVar 0)) mNoP (mP (mVar 4)))) [6] (tgN 6) mYes (mBin ixD (mVar 6) (mBin subD (mCall lenD (mCons (mFld "Looker" "levels" (mVar 0)) mNil)) (mC (.int 1))))))
    (sRet (mApp 3 (F_first_at fu) (mCons (mVar 2) (mCons (mVar 5) (mCons (mBin addD (mVar 1) (mC (.int 1))) mNil)))))))
noncomputable def F_Looker_behind (fu : Nat) : List D → Store → R D := runT 7 (m_Looker_behind fu)
noncomputable def m_Looker_key (fu : Nat) : SM :=
    (sSeq (sIf (mOrT (mNotT (mTru (mFld "Looker" "levels" (mVar 0)))) (mTru (mMeth "Looker" "at_end" 1 (F_Looker_at_end fu) (mVar 0) mNil))) sNever sNil)
    (sRet (mBin ixD (mBin ixD (mFld "Looker" "rows" (mVar 0)) (mBin ixD (mBin ixD (mFld "Looker" "levels" (mVar 0)) (mUn negD (mC (.int 1)))) (mC (.int 2)))) (mBin subD (mCall lenD (mCons (mFld "Looker" "levels" (mVar 0)) mNil)) (mC (.int 1))))))
noncomputable def F_Looker_key (fu : Nat) : List D → Store → R D := runT 1 (m_Looker_key fu)
noncomputable def m_Looker_opened (fu : Nat) : SM :=
    (sSeq (sIf (mOrT (mT (mBin eqD (mFld "Looker" "rows" (mVar 0)) (mTup mNil))) (mOrT (mTru (mMeth "Looker" "at_end" 1 (F_Looker_at_end fu) (mVar 0) mNil)) (mT (mBin eqD (mCall lenD (mCons (mFld "Looker" "levels" (mVar 0)) mNil)) (mCall lenD (mCons (mBin ixD (mFld "Looker" "rows" (mVar 0)) (mC (.int 0))) mNil)))))) sNever sNil)
    (sIf (mTru (mFld "Looker" "levels" (mVar 0))) (sSeq (sAsg (mBin ixD (mFld "Looker" "levels" (mVar 0)) (mUn negD (mC (.int 1)))) (tgT 3 (tgsCons (tgN 1) (tgsCons (tgN 2) (tgsCons (tgN 3) tgsNil)))))
    (sDrop (mAppend (mFld "Looker" "levels" (mVar 0)) (mTup (mCons (mVar 3) (mCons (mMeth "Looker" "behind" 2 (F_Looker_behind fu) (mVar 0) (mCons (mMeth "Looker" "key" 1 (F_Looker_key fu) (mVar 0) mNil) mNil)) (mCons (mVar 3) mNil))))))) (sDrop (mAppend (mFld "Looker" "levels" (mVar 0)) (mTup (mCons (mC (.int 0)) (mCons (mCall lenD (mCons (mFld "Looker" "rows" (mVar 0)) mNil)) (mCons (mC (.int 0)) mNil))))))))
noncomputable def F_Looker_opened (fu : Nat) : List D → Store → R D := runT 4 (m_Looker_opened fu)
noncomputable def m_Looker_go_to (fu : Nat) : SM :=
    (sSeq (sAsg (mBin ixD (mFld "Looker" "levels" (mVar 0)) (mUn negD (mC (.int 1)))) (tgT 3 (tgsCons (tgN 2) (tgsCons (tgN 3) (tgsCons (tgN 4) tgsNil)))))
    (sSeq (sSetIx (mFld "Looker" "levels" (mVar 0)) (mUn negD (mC (.int 1))) (mTup (mCons (mVar 2) (mCons (mVar 3) (mCons (mVar 1) mNil)))))
    (sFldAugD "Looker" "many" (fun i j => i + j) (mVar 0) (mC (.int 1)))))
noncomputable def F_Looker_go_to (fu : Nat) : List D → Store → R D := runT 5 (m_Looker_go_to fu)
noncomputable def m_Looker_reach (fu : Nat) : SM :=
    (sIf (mT (mBin ltD (mMeth "Looker" "key" 1 (F_Looker_key fu) (mVar 0) mNil) (mVar 1))) (sDrop (mMeth "Looker" "go_to" 2 (F_Looker_go_to fu) (mVar 0) (mCons (mMeth "Looker" "behind" 2 (F_Looker_behind fu) (mVar 0) (mCons (mBin subD (mVar 1) (mC (.int 1))) mNil)) mNil))) (sDrop (mMeth "Looker" "go_to" 2 (F_Looker_go_to fu) (mVar 0) (mCons (mBin ixD (mBin ixD (mFld "Looker" "levels" (mVar 0)) (mUn negD (mC (.int 1)))) (mC (.int 2))) mNil))))
noncomputable def F_Looker_reach (fu : Nat) : List D → Store → R D := runT 2 (m_Looker_reach fu)
noncomputable def m_Looker_place (fu : Nat) : SM :=
    (sSeq (sIf (mNotT (mTru (mFld "Looker" "levels" (mVar 0)))) (sRet (mTup mNil)) sNil)
    (sSeq (sIf (mTru (mMeth "Looker" "at_end" 1 (F_Looker_at_end fu) (mVar 0) mNil)) (sRet (mSl (mBin ixD (mFld "Looker" "rows" (mVar 0)) (mBin ixD (mBin ixD (mFld "Looker" "levels" (mVar 0)) (mUn negD (mC (.int 1)))) (mC (.int 0)))) mNoP (mP (mBin subD (mCall lenD (mCons (mFld "Looker" "levels" (mVar 0)) mNil)) (mC (.int 1)))))) sNil)
    (sRet (mSl (mBin ixD (mFld "Looker" "rows" (mVar 0)) (mBin ixD (mBin ixD (mFld "Looker" "levels" (mVar 0)) (mUn negD (mC (.int 1)))) (mC (.int 2)))) mNoP (mP (mCall lenD (mCons (mFld "Looker" "levels" (mVar 0)) mNil)))))))
noncomputable def F_Looker_place (fu : Nat) : List D → Store → R D := runT 1 (m_Looker_place fu)
noncomputable def m_Looker_looks (fu : Nat) : SM :=
    (sRet (mFld "Looker" "many" (mVar 0)))
noncomputable def F_Looker_looks (fu : Nat) : List D → Store → R D := runT 1 (m_Looker_looks fu)
noncomputable def m_Looker_further (fu : Nat) : SM :=
    (sDrop (mMeth "Looker" "go_to" 2 (F_Looker_go_to fu) (mVar 0) (mCons (mMeth "Looker" "behind" 2 (F_Looker_behind fu) (mVar 0) (mCons (mMeth "Looker" "key" 1 (F_Looker_key fu) (mVar 0) mNil) mNil)) mNil)))
noncomputable def F_Looker_further (fu : Nat) : List D → Store → R D := runT 1 (m_Looker_further fu)
noncomputable def m_Looker_depth (fu : Nat) : SM :=
    (sRet (mCall lenD (mCons (mFld "Looker" "levels" (mVar 0)) mNil)))
noncomputable def F_Looker_depth (fu : Nat) : List D → Store → R D := runT 1 (m_Looker_depth fu)
noncomputable def m__law_trie (fu : Nat) : SM :=
    (sRet (mCall sortSetD (mCons (mLc (mIter (mVar 0)) [2] (tgN 2) (mT (mBin eqD (mSl (mVar 2) mNoP (mP (mCall lenD (mCons (mVar 1) mNil)))) (mVar 1))) (mBin ixD (mVar 2) (mCall lenD (mCons (mVar 1) mNil)))) mNil)))
noncomputable def F__law_trie (fu : Nat) : List D → Store → R D := runT 3 (m__law_trie fu)
noncomputable def m__law_reach_holds (fu : Nat) : SM :=
    (sSeq (sAsg (mTup (mCons (mMake "Looker" 2 (F_Looker___init__ fu) (mCons (mVar 2) mNil)) (mCons (mMake "Looker" 2 (F_Looker___init__ fu) (mCons (mVar 2) mNil)) (mCons (mC (.int 0)) mNil)))) (tgT 3 (tgsCons (tgN 5) (tgsCons (tgN 6) (tgsCons (tgN 7) tgsNil)))))
    (sSeq (sFor (mRng1 (mCons (mVar 3) mNil)) (tgN 4) (sSeq (sDrop (mMeth "Looker" "opened" 1 (F_Looker_opened fu) (mVar 5) mNil))
    (sSeq (sDrop (mMeth "Looker" "opened" 1 (F_Looker_opened fu) (mVar 6) mNil))
    (sSeq (sAsg (mTup (mCons (mApp 3 (F__law_draw fu) (mCons (mVar 0) (mCons (mVar 1) (mCons (mC (.int 5)) mNil)))) (mCons (mMeth "Looker" "looks" 1 (F_Looker_looks fu) (mVar 6) mNil) mNil))) (tgT 2 (tgsCons (tgN 8) (tgsCons (tgN 9) tgsNil))))
    (sSeq (sDrop (mMeth "Looker" "reach" 2 (F_Looker_reach fu) (mVar 5) (mCons (mVar 8) mNil)))
    (sSeq (sSet 7 (mBin addD (mVar 7) (mC (.int 1))))
    (sSeq (sWhile (mAndT (mNotT (mTru (mMeth "Looker" "at_end" 1 (F_Looker_at_end fu) (mVar 6) mNil))) (mT (mBin ltD (mMeth "Looker" "key" 1 (F_Looker_key fu) (mVar 6) mNil) (mVar 8)))) (sDrop (mMeth "Looker" "further" 1 (F_Looker_further fu) (mVar 6) mNil)) fu)
    (sSeq (sIf (mT (mBin neD (mTup (mCons (mMeth "Looker" "at_end" 1 (F_Looker_at_end fu) (mVar 5) mNil) (mCons (mMeth "Looker" "place" 1 (F_Looker_place fu) (mVar 5) mNil) (mCons (mMeth "Looker" "depth" 1 (F_Looker_depth fu) (mVar 5) mNil) mNil)))) (mTup (mCons (mMeth "Looker" "at_end" 1 (F_Looker_at_end fu) (mVar 6) mNil) (mCons (mMeth "Looker" "place" 1 (F_Looker_place fu) (mVar 6) mNil) (mCons (mMeth "Looker" "depth" 1 (F_Looker_depth fu) (mVar 6) mNil) mNil)))))) (sRet (mC (.bl false))) sNil)
    (sSeq (sIf (mOrT (mT (mBin neD (mMeth "Looker" "looks" 1 (F_Looker_looks fu) (mVar 5) mNil) (mVar 7))) (mT (mBin ltD (mMeth "Looker" "looks" 1 (F_Looker_looks fu) (mVar 6) mNil) (mVar 9)))) (sRet (mC (.bl false))) sNil)
    (sSeq (sIf (mTru (mMeth "Looker" "at_end" 1 (F_Looker_at_end fu) (mVar 5) mNil)) (sRet (mC (.bl true))) sNil)
    (sSeq (sIf (mT (mBin ltD (mMeth "Looker" "key" 1 (F_Looker_key fu) (mVar 5) mNil) (mVar 8))) (sRet (mC (.bl false))) sNil)
    (sIf (mTru (mLc (mIter (mApp 2 (F__law_trie fu) (mCons (mVar 2) (mCons (mSl (mMeth "Looker" "place" 1 (F_Looker_place fu) (mVar 5) mNil) mNoP (mP (mUn negD (mC (.int 1))))) mNil)))) [10] (tgN 10) (mT (mChain leD ltD (mVar 8) (mVar 10) (mMeth "Looker" "key" 1 (F_Looker_key fu) (mVar 5) mNil))) (mVar 10))) (sRet (mC (.bl false))) sNil))))))))))))
    (sRet (mBin inD (mMeth "Looker" "place" 1 (F_Looker_place fu) (mVar 5) mNil) (mCall lstD (mCons (mVar 2) mNil))))))
noncomputable def F__law_reach_holds (fu : Nat) : List D → Store → R D := runT 11 (m__law_reach_holds fu)
noncomputable def m_Looker_up (fu : Nat) : SM :=
    (sSeq (sIf (mNotT (mTru (mFld "Looker" "levels" (mVar 0)))) sNever sNil)
    (sDrop (mPop (mFld "Looker" "levels" (mVar 0)))))
noncomputable def F_Looker_up (fu : Nat) : List D → Store → R D := runT 1 (m_Looker_up fu)
noncomputable def m__law_walked (fu : Nat) (self : List D → Store → R D) : SM :=
    (sSeq (sPar 3 4 (mCons (mNewL mNil) (mCons (mMeth "Looker" "place" 1 (F_Looker_place fu) (mVar 0) mNil) mNil)))
    (sSeq (sDrop (mMeth "Looker" "opened" 1 (F_Looker_opened fu) (mVar 0) mNil))
    (sSeq (sPar 5 6 (mCons (mApp 2 (F__law_trie fu) (mCons (mVar 1) (mCons (mVar 4) mNil))) (mCons (mNewL mNil) mNil)))
    (sSeq (sWhile (mNotT (mTru (mMeth "Looker" "at_end" 1 (F_Looker_at_end fu) (mVar 0) mNil))) (sSeq (sDrop (mAppend (mVar 6) (mMeth "Looker" "key" 1 (F_Looker_key fu) (mVar 0) mNil)))
    (sSeq (sIf (mT (mBin neD (mMeth "Looker" "place" 1 (F_Looker_place fu) (mVar 0) mNil) (mBin addD (mVar 4) (mTup (mCons (mMeth "Looker" "key" 1 (F_Looker_key fu) (mVar 0) mNil) mNil))))) (sRet (mLst mNil)) sNil)
    (sSeq (sIf (mT (mBin eqD (mMeth "Looker" "depth" 1 (F_Looker_depth fu) (mVar 0) mNil) (mVar 2))) (sDrop (mAppend (mVar 3) (mMeth "Looker" "place" 1 (F_Looker_place fu) (mVar 0) mNil))) (sSet 3 (mBinN catN (mVar 3) (mApp 3 self (mCons (mVar 0) (mCons (mVar 1) (mCons (mVar 2) mNil)))))))
    (sDrop (mMeth "Looker" "further" 1 (F_Looker_further fu) (mVar 0) mNil))))) fu)
    (sSeq (sIf (mOrT (mT (mBin neD (mVar 6) (mVar 5))) (mT (mBin neD (mMeth "Looker" "place" 1 (F_Looker_place fu) (mVar 0) mNil) (mVar 4)))) (sRet (mLst mNil)) sNil)
    (sSeq (sDrop (mMeth "Looker" "up" 1 (F_Looker_up fu) (mVar 0) mNil))
    (sRet (mIf (mT (mBin eqD (mMeth "Looker" "place" 1 (F_Looker_place fu) (mVar 0) mNil) (mVar 4))) (mVar 3) (mLst mNil)))))))))
noncomputable def F__law_walked (fu : Nat) : Nat → List D → Store → R D
  | 0 => fun _ _ => .bad
  | n + 1 => runT 7 (m__law_walked fu (F__law_walked fu n))
noncomputable def m_law (fu : Nat) : SM :=
    (sSeq (sSet 1 (mNewL mNil))
    (sSeq (sFor (mRng1 (mCons (mC (.int 5)) mNil)) (tgN 2) (sSeq (sSet 3 (mBin addD (mC (.int 1)) (mApp 3 (F__law_draw fu) (mCons (mVar 0) (mCons (mVar 1) (mCons (mC (.int 3)) mNil))))))
    (sSeq (sSet 4 (mApp 5 (F__law_drawn_rows fu) (mCons (mVar 0) (mCons (mVar 1) (mCons (mVar 3) (mCons (mC (.int 14)) (mCons (mApp 3 (F__law_pick fu) (mCons (mVar 0) (mCons (mVar 1) (mCons (mLst (mCons (mC (.int 2)) (mCons (mC (.int 4)) mNil))) mNil)))) mNil)))))))
    (sIf (mTru (mVar 4)) (sSeq (sSet 5 (mMake "Looker" 2 (F_Looker___init__ fu) (mCons (mVar 4) mNil)))
    (sSeq (sIf (mNotT (mTru (mApp 2 (F__law_same fu 4) (mCons (mCall tupD (mCons (mApp 3 (F__law_walked fu 5) (mCons (mVar 5) (mCons (mVar 4) (mCons (mVar 3) mNil)))) mNil)) (mCons (mVar 4) mNil))))) (sRet (mC (.bl false))) sNil)
    (sSeq (sIf (mOrT (mT (mBin neD (mMeth "Looker" "depth" 1 (F_Looker_depth fu) (mVar 5) mNil) (mC (.int 0)))) (mT (mBin neD (mMeth "Looker" "place" 1 (F_Looker_place fu) (mVar 5) mNil) (mTup mNil)))) (sRet (mC (.bl false))) sNil)
    (sSeq (sIf (mNotT (mTru (mApp 4 (F__law_reach_holds fu) (mCons (mVar 0) (mCons (mVar 1) (mCons (mVar 4) (mCons (mVar 3) mNil))))))) (sRet (mC (.bl false))) sNil)
    (sSeq (sSet 6 (mLst mNil))
    (sSeq (sFor (mIter (mVar 4)) (tgN 7) (sSet 6 (mBin addD (mVar 6) (mLc (mRng2 (mCons (mC (.int 1)) (mCons (mBin addD (mVar 3) (mC (.int 1))) mNil))) [8] (tgN 8) (mT (mBin ninD (mSl (mVar 7) mNoP (mP (mVar 8))) (mVar 6))) (mSl (mVar 7) mNoP (mP (mVar 8)))))))
    (sIf (mT (mBin neD (mMeth "Looker" "looks" 1 (F_Looker_looks fu) (mVar 5) mNil) (mCall lenD (mCons (mVar 6) mNil)))) (sRet (mC (.bl false))) sNil))))))) sNil))))
    (sRet (mC (.bl true)))))
noncomputable def F_law (fu : Nat) : List D → Store → R D := runT 9 (m_law fu)
end Law
namespace Law
open PySem L2 Dv
/-! ### how often further is asked -/
open Classical in
noncomputable def sts (rows : List (List Int)) : Nat → Nat → Bool → Nat → Nat
  | 0, _, _, _ => 0
  | n + 1, k, b, i => (if b = true ∨ tk rows (k + 1) (i - 1) ≠ tk rows (k + 1) i then 1 else 0) + sts rows n (k + 1) b i
/-- of the rows from a to c, at depth k -/
noncomputable def cnt (rows : List (List Int)) (w k a : Nat) : Nat → Nat
  | 0 => 0
  | c + 1 => cnt rows w k a c + (if a ≤ c then sts rows (w - k) k (decide (c = a)) c else 0)
section
variable {rows : List (List Int)} {w : Nat}
theorem sts_top (i : Nat) : ∀ n k, sts rows n k true i = n
  | 0, _ => rfl
  | n + 1, k => by
    rw [sts, if_pos (.inl rfl), sts_top i n (k + 1)]
    omega
theorem sts_diff {i : Nat} {b : Bool} : ∀ n k, tk rows (k + 1) (i - 1) ≠ tk rows (k + 1) i → sts rows n k b i = n
  | 0, _, _ => rfl
  | n + 1, k, h => by
    rw [sts, if_pos (.inr h), sts_diff n (k + 1) fun e => h (tk_down e)]
    omega
theorem cnt_self (k a : Nat) : ∀ c, c ≤ a → cnt rows w k a c = 0
  | 0, _ => rfl
  | c + 1, h => by
    rw [cnt, cnt_self k a c (by omega), if_neg (by omega)]
theorem cnt_group (T : Tab rows w) {k lo far at_ p : Nat} (hk : k < w) (b : Blk rows k lo far) (h1 : lo ≤ at_) (h2 : at_ < far) (gs : ∀ i, lo ≤ i → i < at_ → cl rows k i < cl rows k at_) (c : Blk rows (k + 1) at_ p) (hp : p ≤ far) :
    ∀ q, at_ < q → q ≤ p → cnt rows w k lo q = cnt rows w k lo at_ + 1 + cnt rows w (k + 1) at_ q
  | 0, h, _ => absurd h (Nat.not_lt_zero _)
  | q + 1, h, hq => by
    rcases Nat.lt_or_eq_of_le (Nat.le_of_lt_succ h) with h' | h'
    · rw [cnt, cnt_group T hk b h1 h2 gs c hp q h' (by omega), cnt, if_pos (by omega), if_pos (by omega)]
      have e1 : decide (q = lo) = false := decide_eq_false (by omega)
      have e2 : decide (q = at_) = false := decide_eq_false (by omega)
      have e3 : w - k = (w - (k + 1)) + 1 := by omega
      rw [e1, e2, e3, sts]
      have e4 : tk rows (k + 1) (q - 1) = tk rows (k + 1) q := (c.tk (by omega) (by omega)).trans (c.tk (by omega) (by omega)).symm
      rw [if_neg (by simp [e4])]
      omega
    · subst h'
      rw [cnt, if_pos h1, cnt, if_pos (Nat.le_refl _), cnt_self (k + 1) at_ at_ (Nat.le_refl _), decide_eq_true rfl, sts_top]
      have : sts rows (w - k) k (decide (at_ = lo)) at_ = w - k := by
        by_cases e : at_ = lo
        · rw [decide_eq_true e, sts_top]
        · refine sts_diff _ _ fun z => ?_
          have hn := b.le
          have := (tk_succ_iff T hk (i := at_ - 1) (j := at_) (by omega) (by omega)).mp z
          have := gs (at_ - 1) (by omega) (by omega)
          omega
      rw [this]
      omega
/-! ### the rows between -/
def seg (rows : List (List Int)) (a c : Nat) : List (List Int) := (rows.drop a).take (c - a)
theorem seg_self (a : Nat) : seg rows a a = [] := by rw [seg, Nat.sub_self, List.take_zero]
theorem seg_app {a b c : Nat} (h1 : a ≤ b) (h2 : b ≤ c) : seg rows a b ++ seg rows b c = seg rows a c := by
  unfold seg
  rw [show c - a = (b - a) + (c - b) by omega, List.take_add, List.drop_drop, show a + (b - a) = b by omega]
theorem seg_one {a : Nat} (h : a < rows.length) : seg rows a (a + 1) = [rows.getD a []] := by
  unfold seg
  rw [show a + 1 - a = 1 by omega, List.drop_eq_getElem_cons h, List.take_succ_cons, List.take_zero, getD_lt h]
theorem seg_all : seg rows 0 rows.length = rows := by
  unfold seg
  rw [List.drop_zero, Nat.sub_zero, List.take_length]
theorem seg_len (a c : Nat) : (seg rows a c).length ≤ rows.length := by
  unfold seg
  rw [List.length_take, List.length_drop]
  omega
end
/-! ### what is walked -/
noncomputable def wC : BM := (mNotT (mTru (mMeth "Looker" "at_end" 1 FEnd (mVar 0) mNil)))
noncomputable def wB (fu : Nat) (self : List D → Store → R D) : SM := (sSeq (sDrop (mAppend (mVar 6) (mMeth "Looker" "key" 1 (FKey sNever) (mVar 0) mNil)))
    (sSeq (sIf (mT (mBin neD (mMeth "Looker" "place" 1 FPlace (mVar 0) mNil) (mBin addD (mVar 4) (mTup (mCons (mMeth "Looker" "key" 1 (FKey sNever) (mVar 0) mNil) mNil))))) (sRet (mLst mNil)) sNil)
    (sSeq (sIf (mT (mBin eqD (mMeth "Looker" "depth" 1 FDepth (mVar 0) mNil) (mVar 2))) (sDrop (mAppend (mVar 3) (mMeth "Looker" "place" 1 FPlace (mVar 0) mNil))) (sSet 3 (mBinN catN (mVar 3) (mApp 3 self (mCons (mVar 0) (mCons (mVar 1) (mCons (mVar 2) mNil)))))))
    (sDrop (mMeth "Looker" "further" 1 (FFurther sNever fu) (mVar 0) mNil)))))
noncomputable def wZ : SM := (sSeq (sIf (mOrT (mT (mBin neD (mVar 6) (mVar 5))) (mT (mBin neD (mMeth "Looker" "place" 1 FPlace (mVar 0) mNil) (mVar 4)))) (sRet (mLst mNil)) sNil)
    (sSeq (sDrop (mMeth "Looker" "up" 1 (FUp sNever) (mVar 0) mNil))
    (sRet (mIf (mT (mBin eqD (mMeth "Looker" "place" 1 FPlace (mVar 0) mNil) (mVar 4))) (mVar 3) (mLst mNil)))))
theorem walked_eq (fu : Nat) (self : List D → Store → R D) : m__law_walked fu self =
    (sSeq (sPar 3 4 (mCons (mNewL mNil) (mCons (mMeth "Looker" "place" 1 FPlace (mVar 0) mNil) mNil)))
    (sSeq (sDrop (mMeth "Looker" "opened" 1 (FOpened sNever sNever fu) (mVar 0) mNil))
    (sSeq (sPar 5 6 (mCons (mApp 2 FTrie (mCons (mVar 1) (mCons (mVar 4) mNil))) (mCons (mNewL mNil) mNil)))
    (sSeq (sWhile wC (wB fu self) fu) wZ)))) := rfl
section
variable {rows : List (List Int)} {w fu l v : Nat}
/-- the state of the loop at place at_ of the block from a to b -/
structure Lp (rows : List (List Int)) (w l v : Nat) (lv : List (Nat × Nat × Nat)) (a b at_ f q : Nat) (m : Int) (S0 S : Store) : Prop where
  lk : Lk S l v rows (lv ++ [(a, b, at_)]) (m + cnt rows w lv.length a at_)
  st : St rows lv.length (a, b, at_)
  nx : Nx S0 S l v
  f0 : S0.length ≤ f
  q0 : S0.length ≤ q
  fq : f ≠ q
  found : S[f]? = some (.lst ((seg rows a at_).map rowD))
  seen : ∃ sv : List Int, S[q]? = some (.lst (sv.map D.int)) ∧ sv.Pairwise (· < ·) ∧ (∀ z, z ∈ sv ↔ ∃ i, a ≤ i ∧ i < at_ ∧ cl rows lv.length i = z) ∧ sv.length ≤ at_ - a
def SelfOk (rows : List (List Int)) (w l v k : Nat) (self : List D → Store → R D) : Prop :=
  ∀ (S : Store) (lv : List (Nat × Nat × Nat)) (m : Int) (a b : Nat), lv.length = k → Lk S l v rows lv m → Good rows lv → Blk rows k a b → (lv = [] → a = 0) → (∀ lv' lo far at_, lv = lv' ++ [(lo, far, at_)] → at_ < far ∧ a = at_) →
    self [.loc l, .tup (rows.map rowD), .int w] S = .ok (.lst ((seg rows a b).map rowD)) (mvS S l v rows lv (m + cnt rows w k a b))
theorem wB_ok {self : List D → Store → R D} {lv : List (Nat × Nat × Nat)} {a b at_ f q : Nat} {m : Int} {S0 S : Store} {dv : D} (T : Tab rows w) (hw : w < 100) (hn : rows.length < 60) (hfu : rows.length < fu) (hl0 : l < S0.length) (hv0 : v < S0.length) (hk : lv.length < w) (g : Good rows lv)
    (sf : lv.length + 1 < w → SelfOk rows w l v (lv.length + 1) self) (h : Lp rows w l v lv a b at_ f q m S0 S) (hlt : at_ < b) :
    ∃ p f' S', at_ < p ∧ p ≤ b ∧ Lp rows w l v lv a b p f' q m S0 S' ∧
      wB fu self [some (.loc l), some (.tup (rows.map rowD)), some (.int w), some (.loc f), some (rowD (tk rows lv.length a)), some dv, some (.loc q)] S = .ok .next [some (.loc l), some (.tup (rows.map rowD)), some (.int w), some (.loc f'), some (rowD (tk rows lv.length a)), some dv, some (.loc q)] S' := by
  obtain ⟨lk, st, nx, f0, q0, fq, fo, sv, hs1, hs2, hs3, hs4⟩ := h
  have hble := st.blk.le
  have hlo := st.lo
  have hgs := st.gs hlt
  simp only at hble hlo hgs
  have hat : at_ < rows.length := by omega
  -- seen
  have ek := key_at (rk := sNever) T lk st hlt hk
  have hlks := lk.small
  let S1 := List.set S q (.lst ((sv ++ [cl rows lv.length at_]).map D.int))
  have lk1 : Lk S1 l v rows (lv ++ [(a, b, at_)]) (m + cnt rows w lv.length a at_) := lk.keep (by omega) (by omega)
  have ek1 := key_at (rk := sNever) T lk1 st hlt hk
  have ep1 := place_at T lk1 st hlt
  have ed1 := depth_ok lk1
  have etk : tk rows lv.length at_ = tk rows lv.length a := st.blk.tk hlo hlt
  have ets : tk rows (lv.length + 1) at_ = tk rows lv.length a ++ [cl rows lv.length at_] := by rw [tk_succ T hk hat, etk]
  have fo1 : S1[f]? = some (.lst ((seg rows a at_).map rowD)) := by
    show (List.set S q _)[f]? = _
    rw [List.getElem?_set_ne (fun e => fq e.symm)]
    exact fo
  have q1 : S1[q]? = some (.lst ((sv ++ [cl rows lv.length at_]).map D.int)) := gs hs1 _
  have hsvl : sv.length < 100000 := by omega
  have eadd : ∀ S, addD (rowD (tk rows lv.length a)) (.tup [.int (cl rows lv.length at_)]) S = some (rowD (tk rows (lv.length + 1) at_)) := fun S => by
    have hl : ((tk rows lv.length a).map D.int).length + [D.int (cl rows lv.length at_)].length ≤ 100000 := by
      rw [List.length_map, tk, List.length_take, List.length_singleton]
      omega
    show (if _ then _ else _) = _
    rw [if_pos hl, ets, rowD, List.map_append]
    rfl
  have ene : ∀ S, neD (rowD (tk rows (lv.length + 1) at_)) (rowD (tk rows (lv.length + 1) at_)) S = some (.bl false) := fun S => by
    rw [neD_row, decide_eq_true rfl]
    rfl
  have seenP : ∀ p, at_ < p → p ≤ b → Blk rows (lv.length + 1) at_ p → (sv ++ [cl rows lv.length at_]).Pairwise (· < ·) ∧ (∀ z, z ∈ sv ++ [cl rows lv.length at_] ↔ ∃ i, a ≤ i ∧ i < p ∧ cl rows lv.length i = z) ∧ (sv ++ [cl rows lv.length at_]).length ≤ p - a := fun p hp hpb bp => by
    refine ⟨?_, fun z => ?_, by rw [List.length_append, List.length_singleton]; omega⟩
    · rw [List.pairwise_append]
      refine ⟨hs2, List.pairwise_singleton _ _, fun x hx y hy => ?_⟩
      rw [List.mem_singleton] at hy
      subst hy
      obtain ⟨i, i1, i2, rfl⟩ := (hs3 x).mp hx
      exact hgs i i1 i2
    · rw [List.mem_append, List.mem_singleton, hs3]
      have inb : ∀ i, at_ ≤ i → i < p → cl rows lv.length i = cl rows lv.length at_ := fun i i1 i2 =>
        ((tk_succ_iff T hk (by omega) hat).mp (bp.tk i1 i2)).2
      constructor
      · rintro (⟨i, i1, i2, i3⟩ | e)
        · exact ⟨i, i1, by omega, i3⟩
        · exact ⟨at_, hlo, hp, e.symm⟩
      · rintro ⟨i, i1, i2, i3⟩
        rcases Nat.lt_or_ge i at_ with z1 | z1
        · exact .inl ⟨i, i1, z1, i3⟩
        · exact .inr (by rw [← i3]; exact inb i z1 i2)
  by_cases hdeep : lv.length + 1 = w
  · -- the rows themselves
    let S2 := List.set S1 f (.lst (((seg rows a at_).map rowD) ++ [rowD (tk rows (lv.length + 1) at_)]))
    have lk2 : Lk S2 l v rows (lv ++ [(a, b, at_)]) (m + cnt rows w lv.length a at_) := lk1.keep (by omega) (by omega)
    obtain ⟨p, p1, p2, p3, p4, p5⟩ := fur_ok (rk := sNever) (fu := fu) T lk2 st hlt hk hfu
    have hp1 : p = at_ + 1 := by
      have hlt' := p4.lt
      rcases Nat.lt_or_eq_of_le (show at_ + 1 ≤ p by omega) with z | z
      · have e := p4.tk (i := at_ + 1) (by omega) z
        rw [hdeep] at e
        have := tk_inj T (by omega) hat e
        omega
      · exact z.symm
    have ecnt : (cnt rows w lv.length a p : Int) = cnt rows w lv.length a at_ + 1 := by
      have := cnt_group T hk st.blk hlo hlt hgs p4 p2 p p1 (Nat.le_refl _)
      simp only at this
      have e2 : cnt rows w (lv.length + 1) at_ p = 0 := by
        rw [hp1, cnt, cnt_self _ _ _ (Nat.le_refl _), if_pos (Nat.le_refl _), show w - (lv.length + 1) = 0 by omega]
        rfl
      omega
    have eseg : (seg rows a at_).map rowD ++ [rowD (tk rows (lv.length + 1) at_)] = (seg rows a p).map rowD := by
      rw [hdeep, tk_full T hat, hp1, ← seg_app hlo (Nat.le_succ _), seg_one hat, List.map_append]
      rfl
    refine ⟨p, f, mvS S2 l v rows (lv ++ [(a, b, p)]) (m + cnt rows w lv.length a at_ + 1), p1, p2, ⟨?_, p3, ?_, f0, q0, fq, ?_, sv ++ [cl rows lv.length at_], ?_, seenP p p1 p2 p4⟩, ?_⟩
    · have := lk2.mv (lv ++ [(a, b, p)]) (m + cnt rows w lv.length a at_ + 1) (by rw [List.length_append, List.length_singleton]; omega)
      rw [ecnt, ← Int.add_assoc]
      exact this
    · exact ((nx.new q0).new f0).trans Nx.mv
    · rw [mvS_other (by omega) (by omega), ← eseg]
      exact gs fo1 _
    · rw [mvS_other (by omega) (by omega)]
      show (List.set S1 f _)[q]? = _
      rw [List.getElem?_set_ne fq]
      exact q1
    · unfold wB
      have hsl : ((seg rows a at_).map rowD).length < 100000 := by
        rw [List.length_map]
        have := seg_len (rows := rows) a at_
        omega
      have e8 : ((lv ++ [(a, b, at_)]).length : Int) = w := by rw [List.length_append, List.length_singleton]; omega
      rw [e8] at ed1
      rw [List.length_map] at hsl
      have o0 := lk.o
      have o1 : (List.set S q (.lst (List.map D.int sv ++ [D.int (cl rows lv.length at_)])))[l]? = some (.ins "Looker" (lkF rows v (m + cnt rows w lv.length a at_))) := by
        have := lk1.o
        simp only [S1, List.map_append, List.map_cons, List.map_nil] at this
        exact this
      simp only [S1, S2, List.map_append, List.map_cons, List.map_nil] at ek1 ep1 ed1 fo1 p5 lk2
      have o2 := lk2.o
      simp [hs1, lk.o, o1, o2, mth_key, mth_place, mth_depth, mth_further, ek, ek1, ep1, ed1, hsvl, eadd, ene, fo1, hsl, p5, S2, S1]
  · -- deeper
    have sf' := sf (by omega)
    obtain ⟨p, p1, p2, p3, p4, p5⟩ := fur_ok (rk := sNever) (fu := fu) T lk1 st hlt hk hfu
    have gd : Good rows (lv ++ [(a, b, at_)]) := g.snoc st
    have eself := sf' S1 (lv ++ [(a, b, at_)]) (m + cnt rows w lv.length a at_) at_ p (by rw [List.length_append, List.length_singleton]) lk1 gd p4 (fun e => by simp at e) (fun lv' lo far at' e => by
      have := List.append_inj' e rfl
      simp at this
      obtain ⟨_, _, rfl, rfl⟩ := this
      exact ⟨hlt, rfl⟩)
    let S2 := mvS S1 l v rows (lv ++ [(a, b, at_)]) (m + cnt rows w lv.length a at_ + cnt rows w (lv.length + 1) at_ p)
    have lk2 : Lk S2 l v rows (lv ++ [(a, b, at_)]) (m + cnt rows w lv.length a at_ + cnt rows w (lv.length + 1) at_ p) := lk1.mv _ _ (by rw [List.length_append, List.length_singleton]; omega)
    let S3 := S2 ++ [.lst ((seg rows a p).map rowD)]
    have lk3 : Lk S3 l v rows (lv ++ [(a, b, at_)]) (m + cnt rows w lv.length a at_ + cnt rows w (lv.length + 1) at_ p) := lk2.app _
    obtain ⟨p', p1', p2', p3', p4', p5'⟩ := fur_ok (rk := sNever) (fu := fu) T lk3 st hlt hk hfu
    have hpp : p' = p := p4'.uniq p4
    subst hpp
    have hlen1 : S1.length = S.length := List.length_set
    have hlen2 : S2.length = S.length := by rw [mvS_len]; exact hlen1
    have hnl := nx.len
    have hlf : f < S.length := (List.getElem?_eq_some_iff.mp fo).1
    have hlq : q < S.length := (List.getElem?_eq_some_iff.mp hs1).1
    have fo2 : S2[f]? = some (.lst ((seg rows a at_).map rowD)) := by
      rw [mvS_other (by omega) (by omega)]
      exact fo1
    have ecat : catN (.loc f) (.lst ((seg rows at_ p').map rowD)) S2 = some ((seg rows a p').map rowD) := by
      have h1 := seg_len (rows := rows) a at_
      have h2 := seg_len (rows := rows) at_ p'
      unfold catN
      simp only [lstAt_loc, fo2, lstAt_lst]
      rw [if_pos (by rw [List.length_map, List.length_map]; omega), ← List.map_append, seg_app hlo (by omega)]
    have ecnt : (cnt rows w lv.length a p' : Int) = cnt rows w lv.length a at_ + cnt rows w (lv.length + 1) at_ p' + 1 := by
      have := cnt_group T hk st.blk hlo hlt hgs p4 p2 p' p1 (Nat.le_refl _)
      simp only at this
      omega
    refine ⟨p', S2.length, mvS S3 l v rows (lv ++ [(a, b, p')]) (m + cnt rows w lv.length a at_ + cnt rows w (lv.length + 1) at_ p' + 1), p1, p2, ⟨?_, p3', ?_, by omega, q0, by omega, ?_, sv ++ [cl rows lv.length at_], ?_, seenP p' p1 p2 p4⟩, ?_⟩
    · have := lk3.mv (lv ++ [(a, b, p')]) (m + cnt rows w lv.length a at_ + cnt rows w (lv.length + 1) at_ p' + 1) (by rw [List.length_append, List.length_singleton]; omega)
      rw [ecnt, show m + ((cnt rows w lv.length a at_ : Int) + cnt rows w (lv.length + 1) at_ p' + 1) = m + cnt rows w lv.length a at_ + cnt rows w (lv.length + 1) at_ p' + 1 by omega]
      exact this
    · exact (((nx.new q0).trans Nx.mv).trans (Nx.app _ _ _ _)).trans Nx.mv
    · rw [mvS_other (by omega) (by omega)]
      show (S2 ++ [O.lst ((seg rows a p').map rowD)])[S2.length]? = _
      rw [List.getElem?_append_right (Nat.le_refl _), Nat.sub_self]
      rfl
    · rw [mvS_other (by omega) (by omega)]
      show (S2 ++ _)[q]? = _
      rw [List.getElem?_append_left (by omega), mvS_other (by omega) (by omega)]
      exact q1
    · unfold wB
      have e8 : ¬ ((lv.length : Int) + 1 = w) := by omega
      have e9 : ((lv ++ [(a, b, at_)]).length : Int) = lv.length + 1 := by rw [List.length_append, List.length_singleton]; omega
      rw [e9] at ed1
      have o1 : (List.set S q (.lst (List.map D.int sv ++ [D.int (cl rows lv.length at_)])))[l]? = some (.ins "Looker" (lkF rows v (m + cnt rows w lv.length a at_))) := by
        have := lk1.o
        simp only [S1, List.map_append, List.map_cons, List.map_nil] at this
        exact this
      have o3 := lk3.o
      simp only [S3, S2, S1, List.map_append, List.map_cons, List.map_nil] at ek1 ep1 ed1 fo1 p5' o3 eself ecat
      simp [hs1, lk.o, o1, o3, mth_key, mth_place, mth_depth, mth_further, ek, ek1, ep1, ed1, hsvl, eadd, ene, e8, eself, ecat, p5', S3, S2, S1, -List.map_append]
      simp only [List.map_append, List.map_cons, List.map_nil, and_self]
theorem wZ_ok {lv : List (Nat × Nat × Nat)} {a b f q : Nat} {m : Int} {S0 S : Store} (T : Tab rows w) (hn : rows.length < 60) (hk : lv.length < w) (hl0 : l < S0.length) (hv0 : v < S0.length) (h : Lp rows w l v lv a b b f q m S0 S) (hpl : ∀ S2 m2, Lk S2 l v rows lv m2 → FPlace [.loc l] S2 = .ok (rowD (tk rows lv.length a)) S2) :
    ∃ rho S', wZ [some (.loc l), some (.tup (rows.map rowD)), some (.int w), some (.loc f), some (rowD (tk rows lv.length a)), some (.lst ((trieI rows (tk rows lv.length a)).map D.int)), some (.loc q)] S = .ok (.ret (.loc f)) rho S' ∧ Lk S' l v rows lv (m + cnt rows w lv.length a b) ∧ Nx S0 S' l v ∧ S'[f]? = some (.lst ((seg rows a b).map rowD)) := by
  obtain ⟨lk, st, nx, f0, q0, fq, fo, sv, hs1, hs2, hs3, hs4⟩ := h
  have hble := st.blk.le
  have hblt := st.blk.lt
  simp only at hble hblt
  have htl : (tk rows lv.length a).length = lv.length := by rw [tk, List.length_take, T.len (by omega)]; omega
  have esv : sv = trieI rows (tk rows lv.length a) := by
    refine ssI_ext hs2 fun z => ?_
    rw [hs3 z, List.mem_map, htl]
    constructor
    · rintro ⟨i, i1, i2, rfl⟩
      refine ⟨rows.getD i [], List.mem_filter.mpr ⟨by rw [getD_lt (by omega)]; exact List.getElem_mem _, decide_eq_true (st.blk.tk i1 i2)⟩, rfl⟩
    · rintro ⟨r, hr, rfl⟩
      obtain ⟨hr1, hr2⟩ := List.mem_filter.mp hr
      obtain ⟨i, hi, rfl⟩ := List.mem_iff_getElem.mp hr1
      have e : tk rows lv.length i = tk rows lv.length a := by
        rw [tk, getD_lt hi]
        exact of_decide_eq_true hr2
      obtain ⟨i1, i2⟩ := (st.blk.iff i hi).mp e
      exact ⟨i, i1, i2, by rw [cl, getD_lt hi]⟩
  have ep := place_end T lk st
  have hz : sv.length ≤ 100 := by omega
  have en1 : neD (.loc q) (.lst ((trieI rows (tk rows lv.length a)).map D.int)) S = some (.bl false) := by
    have e1 : now (.loc q) S = .lst (sv.map D.int) := by simp [now, hs1]
    have hp : ∀ ns : List Int, pl 1 (.lst (ns.map D.int)) = true := fun ns => by
      show (ns.map D.int).all (pl 0) = true
      rw [List.all_map, List.all_eq_true]
      intro _ _
      rfl
    rw [neD_pl (k := 1) (by rw [e1]; exact hp sv) (by exact hp _) (by decide), e1, esv]
    show some (D.bl (!decide (D.lst (List.map D.int (trieI rows (tk rows lv.length a))) = D.lst (List.map D.int (trieI rows (tk rows lv.length a)))))) = _
    rw [decide_eq_true rfl]
    rfl
  have en2 : ∀ S, neD (rowD (tk rows lv.length a)) (rowD (tk rows lv.length a)) S = some (.bl false) := fun S => by
    rw [neD_row, decide_eq_true rfl]
    rfl
  have ee : ∀ S, eqD (rowD (tk rows lv.length a)) (rowD (tk rows lv.length a)) S = some (.bl true) := fun S => by
    rw [eqD_row, decide_eq_true rfl]
  have eu := up_ok (rs := sNever) lk
  have lk2 := lk.set lv (by have := lk.small.2; simp at this; omega)
  have ep2 := hpl _ _ lk2
  have eb : ∃ rho, wZ [some (.loc l), some (.tup (rows.map rowD)), some (.int w), some (.loc f), some (rowD (tk rows lv.length a)), some (.lst ((trieI rows (tk rows lv.length a)).map D.int)), some (.loc q)] S = .ok (.ret (.loc f)) rho (List.set S v (.lst (lv.map lvD))) := by
    unfold wZ
    simp [lk.o, lk2.o, mth_place, mth_up, ep, en1, en2, eu, ep2, ee]
  obtain ⟨rho, eb⟩ := eb
  refine ⟨rho, List.set S v (.lst (lv.map lvD)), eb, lk2, nx.trans (Nx.set S l v _), ?_⟩
  rw [List.getElem?_set_ne (by omega)]
  exact fo
theorem walked_ok (T : Tab rows w) (hw : w < 100) (hn : rows.length < 60) (hfu : rows.length < fu) (hne : rows ≠ []) : ∀ (n k : Nat), k < w → w - k ≤ n → SelfOk rows w l v k (F__law_walked fu n)
  | 0, k, h1, h2 => by omega
  | n + 1, k, h1, h2 => by
    intro S lv m a b hlv lk g bl htop hsub
    subst hlv
    have hend : ∀ lv' lo far at_, lv = lv' ++ [(lo, far, at_)] → at_ < far := fun lv' lo far at_ e => (hsub lv' lo far at_ e).1
    have hl0 : l < S.length := (List.getElem?_eq_some_iff.mp lk.o).1
    have hv0 : v < S.length := (List.getElem?_eq_some_iff.mp lk.v).1
    have hble := bl.le
    have hblt := bl.lt
    have hvl := lk.ne
    -- the place
    have hpl : ∀ S2 m2, Lk S2 l v rows lv m2 → FPlace [.loc l] S2 = .ok (rowD (tk rows lv.length a)) S2 := fun S2 m2 lk2 => by
      rcases List.eq_nil_or_concat lv with rfl | ⟨lv', x, rfl⟩
      · have e : tk rows 0 a = [] := rfl
        show _ = R.ok (rowD (tk rows 0 a)) S2
        rw [e]
        exact place0_ok lk2
      · rw [List.concat_eq_append] at lk2 g hsub ⊢
        obtain ⟨lo, far, at_⟩ := x
        obtain ⟨q1, rfl⟩ := hsub lv' lo far at_ rfl
        have := place_at T lk2 g.last q1
        rw [List.length_append, List.length_singleton]
        exact this
    let S1 := S ++ [O.lst []]
    have lk1 : Lk S1 l v rows lv m := lk.app _
    have ep := hpl S1 m lk1
    obtain ⟨lo, far, b1, b2, b3, eo⟩ := opn_ok (rk := sNever) (rs := sNever) (fu := fu) T lk1 g hne h1 hend hfu
    have elo : lo = a := by
      rcases List.eq_nil_or_concat lv with rfl | ⟨lv', x, rfl⟩
      · rw [b2 rfl, htop rfl]
      · rw [List.concat_eq_append] at b3 hsub
        obtain ⟨lo', far', at_⟩ := x
        rw [b3 lv' lo' far' at_ rfl, (hsub lv' lo' far' at_ rfl).2]
    subst elo
    have efar := b1.uniq bl
    subst efar
    let S2 := List.set S1 v (.lst ((lv ++ [(lo, far, lo)]).map lvD))
    have lk2 : Lk S2 l v rows (lv ++ [(lo, far, lo)]) m := lk1.set _ (by rw [List.length_append, List.length_singleton]; omega)
    let S3 := S2 ++ [O.lst []]
    have lk3 : Lk S3 l v rows (lv ++ [(lo, far, lo)]) m := lk2.app _
    have hs1 : S1.length = S.length + 1 := by simp [S1]
    have hs2 : S2.length = S.length + 1 := by simp [S2, hs1]
    have etr := trie_ok (S := S2) (pl := tk rows lv.length lo) T.wd (by rw [tk, List.length_take]; omega) (by omega)
    have lp : Lp rows w l v lv lo far lo S.length (S.length + 1) m S S3 := by
      refine ⟨by rw [cnt_self _ _ _ (Nat.le_refl _)]; simpa using lk3, St.start b1, ((Nx.app S _ l v).trans (Nx.set _ l v _)).trans (Nx.app _ _ l v), Nat.le_refl _, by omega, by omega, ?_, [], ?_, List.Pairwise.nil, fun z => ⟨(fun h => nomatch h), (fun ⟨i, i1, i2, _⟩ => by omega)⟩, by simp⟩
      · rw [seg_self]
        show (S2 ++ [O.lst []])[S.length]? = _
        rw [List.getElem?_append_left (by omega)]
        show (List.set S1 v _)[S.length]? = _
        rw [List.getElem?_set_ne (by omega)]
        show (S ++ [O.lst []])[S.length]? = _
        rw [List.getElem?_append_right (Nat.le_refl _), Nat.sub_self]
        rfl
      · show (S2 ++ [O.lst []])[S.length + 1]? = _
        rw [List.getElem?_append_right (by omega), hs2, Nat.sub_self]
        rfl
    obtain ⟨r4, S4, ew, f4, rfl, lp4⟩ := while_inv (c := wC) (b := wB fu (F__law_walked fu n))
      (fun k r S' => ∃ at_ f, k = far - at_ ∧ r = [some (.loc l), some (.tup (rows.map rowD)), some (.int w), some (.loc f), some (rowD (tk rows lv.length lo)), some (.lst ((trieI rows (tk rows lv.length lo)).map D.int)), some (.loc (S.length + 1))] ∧ Lp rows w l v lv lo far at_ f (S.length + 1) m S S')
      (fun r S' => ∃ f, r = [some (.loc l), some (.tup (rows.map rowD)), some (.int w), some (.loc f), some (rowD (tk rows lv.length lo)), some (.lst ((trieI rows (tk rows lv.length lo)).map D.int)), some (.loc (S.length + 1))] ∧ Lp rows w l v lv lo far far f (S.length + 1) m S S')
      (fun k r S' => by
        rintro ⟨at_, f, rfl, rfl, lp⟩
        have hE := end_ok lp.lk
        have hhi := lp.st.hi
        simp only at hhi
        by_cases hlt : at_ < far
        · refine .inr ⟨?_, ?_⟩
          · have hb : endB (lv ++ [(lo, far, at_)]) = false := by
              simp [endB]
              omega
            unfold wC
            simp [lp.lk.o, mth_at_end, hE, hb]
          · obtain ⟨p, f', S'', p1, p2, lp', e⟩ := wB_ok (self := F__law_walked fu n) (dv := .lst ((trieI rows (tk rows lv.length lo)).map D.int)) T hw hn hfu hl0 hv0 h1 g (fun h => walked_ok T hw hn hfu hne n (lv.length + 1) h (by omega)) lp hlt
            exact ⟨_, S'', far - p, e, by omega, p, f', rfl, rfl, lp'⟩
        · have : at_ = far := by omega
          subst this
          refine .inl ⟨?_, f, rfl, lp⟩
          have hb : endB (lv ++ [(lo, at_, at_)]) = true := by simp [endB]
          unfold wC
          simp [lp.lk.o, mth_at_end, hE, hb]) fu (far - lo) [some (.loc l), some (.tup (rows.map rowD)), some (.int w), some (.loc S.length), some (rowD (tk rows lv.length lo)), some (.lst ((trieI rows (tk rows lv.length lo)).map D.int)), some (.loc (S.length + 1))] S3 (by omega) ⟨lo, S.length, rfl, rfl, lp⟩
    obtain ⟨rho, S5, ez, lk5, nx5, fo5⟩ := wZ_ok T hn h1 hl0 hv0 lp4 hpl
    have eb : ∃ rho, m__law_walked fu (F__law_walked fu n) (frame 7 [.loc l, .tup (rows.map rowD), .int w]) S = .ok (.ret (.loc f4)) rho S5 := by
      rw [walked_eq, show frame 7 [.loc l, .tup (rows.map rowD), .int w] = [some (.loc l), some (.tup (rows.map rowD)), some (.int w), none, none, none, none] from rfl]
      have o1 := lk1.o
      have o2 := lk2.o
      simp only [S1] at o1 ep eo
      simp only [S3] at ew
      simp [o1, mth_place, mth_opened, ep, eo, -List.map_append]
      simp only [S2, S1, List.length_append, List.length_set, List.length_singleton] at etr ew
      simp [etr, ew, ez, -List.map_append]
    obtain ⟨rho2, eb⟩ := eb
    show finT S (m__law_walked fu (F__law_walked fu n) (frame 7 _) S) = _
    rw [eb]
    refine nx_fin lk nx5 lk5 ?_
    have hf4 := lp4.f0
    unfold fzD
    simp only
    rw [if_neg (by omega), fo5]
    simp only
    rw [if_pos (cloL_rows _ _)]
end
end Law
namespace Law
open PySem L2 Dv
noncomputable def rC : BM := (mAndT (mNotT (mTru (mMeth "Looker" "at_end" 1 FEnd (mVar 6) mNil))) (mT (mBin ltD (mMeth "Looker" "key" 1 (FKey sNever) (mVar 6) mNil) (mVar 8))))
noncomputable def rW (fu : Nat) : SM := (sDrop (mMeth "Looker" "further" 1 (FFurther sNever fu) (mVar 6) mNil))
noncomputable def rZ : SM := (sSeq (sIf (mT (mBin neD (mTup (mCons (mMeth "Looker" "at_end" 1 FEnd (mVar 5) mNil) (mCons (mMeth "Looker" "place" 1 FPlace (mVar 5) mNil) (mCons (mMeth "Looker" "depth" 1 FDepth (mVar 5) mNil) mNil)))) (mTup (mCons (mMeth "Looker" "at_end" 1 FEnd (mVar 6) mNil) (mCons (mMeth "Looker" "place" 1 FPlace (mVar 6) mNil) (mCons (mMeth "Looker" "depth" 1 FDepth (mVar 6) mNil) mNil)))))) (sRet (mC (.bl false))) sNil)
    (sSeq (sIf (mOrT (mT (mBin neD (mMeth "Looker" "looks" 1 FLooks (mVar 5) mNil) (mVar 7))) (mT (mBin ltD (mMeth "Looker" "looks" 1 FLooks (mVar 6) mNil) (mVar 9)))) (sRet (mC (.bl false))) sNil)
    (sSeq (sIf (mTru (mMeth "Looker" "at_end" 1 FEnd (mVar 5) mNil)) (sRet (mC (.bl true))) sNil)
    (sSeq (sIf (mT (mBin ltD (mMeth "Looker" "key" 1 (FKey sNever) (mVar 5) mNil) (mVar 8))) (sRet (mC (.bl false))) sNil)
    (sIf (mTru (mLc (mIter (mApp 2 FTrie (mCons (mVar 2) (mCons (mSl (mMeth "Looker" "place" 1 FPlace (mVar 5) mNil) mNoP (mP (mUn negD (mC (.int 1))))) mNil)))) [10] (tgN 10) (mT (mChain leD ltD (mVar 8) (mVar 10) (mMeth "Looker" "key" 1 (FKey sNever) (mVar 5) mNil))) (mVar 10))) (sRet (mC (.bl false))) sNil)))))
noncomputable def rB (fu : Nat) : SM := (sSeq (sDrop (mMeth "Looker" "opened" 1 (FOpened sNever sNever fu) (mVar 5) mNil))
    (sSeq (sDrop (mMeth "Looker" "opened" 1 (FOpened sNever sNever fu) (mVar 6) mNil))
    (sSeq (sAsg (mTup (mCons (mApp 3 FDraw (mCons (mVar 0) (mCons (mVar 1) (mCons (mC (.int 5)) mNil)))) (mCons (mMeth "Looker" "looks" 1 FLooks (mVar 6) mNil) mNil))) (tgT 2 (tgsCons (tgN 8) (tgsCons (tgN 9) tgsNil))))
    (sSeq (sDrop (mMeth "Looker" "reach" 2 (FReach sNever fu) (mVar 5) (mCons (mVar 8) mNil)))
    (sSeq (sSet 7 (mBin addD (mVar 7) (mC (.int 1))))
    (sSeq (sWhile rC (rW fu) fu) rZ))))))
theorem reach_eq (fu : Nat) : m__law_reach_holds fu =
    (sSeq (sAsg (mTup (mCons (mMake "Looker" 2 FInitL (mCons (mVar 2) mNil)) (mCons (mMake "Looker" 2 FInitL (mCons (mVar 2) mNil)) (mCons (mC (.int 0)) mNil)))) (tgT 3 (tgsCons (tgN 5) (tgsCons (tgN 6) (tgsCons (tgN 7) tgsNil)))))
    (sSeq (sFor (mRng1 (mCons (mVar 3) mNil)) (tgN 4) (rB fu))
    (sRet (mBin inD (mMeth "Looker" "place" 1 FPlace (mVar 5) mNil) (mCall lstD (mCons (mVar 2) mNil)))))) := rfl
section
variable {rows : List (List Int)} {w fu : Nat} {ns : List Int} {S : Store}
theorem Lk.away {S S' : Store} {l v : Nat} {lv : List (Nat × Nat × Nat)} {m : Int} (h : Lk S l v rows lv m) (h1 : S'[l]? = S[l]?) (h2 : S'[v]? = S[v]?) : Lk S' l v rows lv m := ⟨h1.trans h.o, h2.trans h.v, h.small⟩
theorem Twn.away {S S' : Store} {n : Nat} (h : Twn 0 n S) (h1 : S'[0]? = S[0]?) : Twn 0 n S' := by
  obtain ⟨ts, a, b⟩ := h
  exact ⟨ts, a, h1.trans b⟩
/-- both stand alike -/
structure Two (rows : List (List Int)) (L n : Nat) (lv : List (Nat × Nat × Nat)) (m m2 : Int) (S0 S : Store) : Prop where
  a : Lk S L (L + 1) rows lv m
  b : Lk S (L + 2) (L + 3) rows lv m2
  tw : Twn 0 n S
  tq : Tq S0 S
abbrev rE (ns : List Int) (rows : List (List Int)) (w L : Nat) (far : Int) (y4 y8 y9 y10 : Option D) : Dv.Env := [some (.scr ns), some (.loc 0), some (.tup (rows.map rowD)), some (.int w), y4, some (.loc L), some (.loc (L + 2)), some (.int far), y8, y9, y10]
theorem rZ_ok {lv : List (Nat × Nat × Nat)} {lo far p L : Nat} {m m2 b4 : Int} {val : Int} {y4 y10 : Option D} (T : Tab rows w) (hw : w < 100) (hn : rows.length < 60) (hk : lv.length < w) (st : St rows lv.length (lo, far, p)) (ha : Lk S L (L + 1) rows (lv ++ [(lo, far, p)]) m) (hb : Lk S (L + 2) (L + 3) rows (lv ++ [(lo, far, p)]) m2) (hm : b4 ≤ m2)
    (h1 : ∀ i, lo ≤ i → i < p → cl rows lv.length i < val) (h2 : p < far → val ≤ cl rows lv.length p) :
    (p < far → rZ (rE ns rows w L m y4 (some (.int val)) (some (.int b4)) y10) S = .ok .next (rE ns rows w L m y4 (some (.int val)) (some (.int b4)) y10) S) ∧
    (p = far → ∃ rho, rZ (rE ns rows w L m y4 (some (.int val)) (some (.int b4)) y10) S = .ok (.ret (.bl true)) rho S) := by
  have hble := st.blk.le
  have hblt := st.blk.lt
  have hlo := st.lo
  have hhi := st.hi
  simp only at hble hblt hlo hhi
  have e1 := end_ok ha
  have e2 := end_ok hb
  have d1 := depth_ok ha
  have d2 := depth_ok hb
  have k1 := looks_ok ha
  have k2 := looks_ok hb
  have tupE : ∀ (e : Bool) (x : List Int) (i : Int) (S : Store), neD (.tup [.bl e, rowD x, .int i]) (.tup [.bl e, rowD x, .int i]) S = some (.bl false) := fun e x i S => by
    have ok : okD (.tup [.bl e, rowD x, .int i]) = true := by
      obtain ⟨a, b, c⟩ := pl_dat 1 (rowD x) (pl_rowD 0 x)
      unfold okD SeqAt.shaped
      have dp : PyData.depth (pyD (.tup [.bl e, rowD x, .int i])) ≤ 64 := by
        show max 0 (max (PyData.depth (pyD (rowD x))) (max 0 0)) + 1 ≤ 64
        omega
      rw [decide_eq_true dp]
      show (((true && (dat (rowD x) && (true && true))) && ((true && ((pyD (rowD x)).canLay0 && (true && true))) && true))) = true
      rw [a, b]
      rfl
    show (eqO _ _).map _ = _
    have : eqO (.tup [.bl e, rowD x, .int i]) (.tup [.bl e, rowD x, .int i]) = some true := by
      show (if okD _ = true ∧ okD _ = true then some (eqvD _ _) else none) = _
      rw [if_pos ⟨ok, ok⟩, eqv_self ok]
    show (eqO (.tup [.bl e, rowD x, .int i]) (.tup [.bl e, rowD x, .int i])).map _ = _
    rw [this]
    rfl
  have hm' : ¬ m2 < b4 := by omega
  constructor
  · intro hlt
    have hE : endB (lv ++ [(lo, far, p)]) = false := by
      simp [endB]
      omega
    have p1 := place_at T ha st hlt
    have p2 := place_at T hb st hlt
    have q1 := key_at (rk := sNever) T ha st hlt hk
    have hv : ¬ cl rows lv.length p < val := by
      have := h2 hlt
      omega
    have htl : (tk rows (lv.length + 1) p).length = lv.length + 1 := by rw [tk, List.length_take, T.len (by omega)]; omega
    have esl : slD (rowD (tk rows (lv.length + 1) p)) none (some (-1)) S = some (rowD (tk rows lv.length p)) := by
      show some (D.tup (cutL ((tk rows (lv.length + 1) p).map D.int) none (some (-1)))) = _
      have e : (tk rows (lv.length + 1) p).take lv.length = tk rows lv.length p := by
        rw [tk, List.take_take, Nat.min_eq_left (by omega)]
        rfl
      unfold cutL
      rw [HT.sIx_none, List.length_map, htl, List.drop_zero, Nat.sub_zero, ← List.map_take]
      show some (D.tup (List.map D.int (List.take ((-1 + ((lv.length + 1 : Nat) : Int)).toNat) _))) = _
      rw [show (-1 + ((lv.length + 1 : Nat) : Int)).toNat = lv.length by omega, e]
      rfl
    have hpl : (tk rows lv.length p).length = lv.length := by rw [tk, List.length_take, T.len (by omega)]; omega
    have etr := trie_ok (S := S) (pl := tk rows lv.length p) T.wd (by omega) (by omega)
    have hlc := lc_pure (gm := tgN 10) (tt := (mT (mChain leD ltD (mVar 8) (mVar 10) (mMeth "Looker" "key" 1 (FKey sNever) (mVar 5) mNil)))) (te := mVar 10) (r0 := rE ns rows w L m y4 (some (.int val)) (some (.int b4)) none) (S := S)
      (fun d => match d with | .int i => decide (val ≤ i) && decide (i < cl rows lv.length p) | _ => false) (fun d => d) ((trieI rows (tk rows lv.length p)).map D.int) (fun d hd => by
        obtain ⟨i, _, rfl⟩ := List.mem_map.mp hd
        refine ⟨_, rfl, ?_, fun _ => ?_⟩
        · by_cases hi : val ≤ i
          · simp [hi, ha.o, mth_key, q1]
          · simp [hi]
        · simp)
    have hem : ((trieI rows (tk rows lv.length p)).map D.int).filter (fun d => match d with | .int i => decide (val ≤ i) && decide (i < cl rows lv.length p) | _ => false) = [] := by
      rw [List.filter_eq_nil_iff]
      intro d hd
      obtain ⟨z, hz, rfl⟩ := List.mem_map.mp hd
      have hz := mem_ssI.mp hz
      obtain ⟨r, hr, rfl⟩ := List.mem_map.mp hz
      obtain ⟨hr1, hr2⟩ := List.mem_filter.mp hr
      obtain ⟨i, hi, rfl⟩ := List.mem_iff_getElem.mp hr1
      rw [hpl] at hr2 ⊢
      have e : tk rows lv.length i = tk rows lv.length lo := by
        rw [← st.blk.tk hlo hlt, tk, getD_lt hi]
        exact of_decide_eq_true hr2
      obtain ⟨i1, i2⟩ := (st.blk.iff i hi).mp e
      have ec : rows[i].getD lv.length 0 = cl rows lv.length i := by rw [cl, getD_lt hi]
      rw [ec]
      simp only [Bool.and_eq_true, decide_eq_true_eq, not_and]
      intro hv'
      rcases Nat.lt_or_ge i p with q | q
      · have := h1 i i1 q
        omega
      · have := st.blk.mono T hk (i := p) (j := i) hlo q i2
        omega
    rw [hem] at hlc
    unfold rZ
    simp only [List.map_nil] at hlc
    simp [ha.o, hb.o, mth_at_end, mth_place, mth_depth, mth_looks, mth_key, e1, e2, d1, d2, k1, k2, p1, p2, q1, tupE, hm', hE, hv, esl, etr, hlc, -List.length_append, -mChain_ap]
  · intro heq
    subst heq
    have hE : endB (lv ++ [(lo, p, p)]) = true := by simp [endB]
    have p1 := place_end T ha st
    have p2 := place_end T hb st
    unfold rZ
    simp [ha.o, hb.o, mth_at_end, mth_place, mth_depth, mth_looks, mth_key, e1, e2, d1, d2, k1, k2, p1, p2, tupE, hm', hE, -List.length_append]
end
end Law
namespace Law
open PySem L2 Dv
section
variable {rows : List (List Int)} {w fu : Nat} {ns : List Int} {S : Store}
theorem rW_ok {lv : List (Nat × Nat × Nat)} {lo far L : Nat} {m m2 : Int} {val : Int} {y4 y9 y10 : Option D} (T : Tab rows w) (hk : lv.length < w) (hfu : rows.length < fu) {S0 : Store} (hL : 0 < L) (hS : S0.length ≤ L) :
    ∀ (k at_ : Nat) (S : Store) (c : Int), St rows lv.length (lo, far, at_) → far - at_ ≤ k → Lk S (L + 2) (L + 3) rows (lv ++ [(lo, far, at_)]) (m2 + c) → 0 ≤ c → (∀ i, lo ≤ i → i < at_ → cl rows lv.length i < val) → Tq S0 S → ∀ f, k < f →
    ∃ (p : Nat) (S' : Store) (c' : Int), sWhile rC (rW fu) f (rE ns rows w L m y4 (some (.int val)) y9 y10) S = .ok .next (rE ns rows w L m y4 (some (.int val)) y9 y10) S' ∧ St rows lv.length (lo, far, p) ∧ Lk S' (L + 2) (L + 3) rows (lv ++ [(lo, far, p)]) (m2 + c') ∧ 0 ≤ c' ∧ at_ ≤ p ∧ (∀ i, lo ≤ i → i < p → cl rows lv.length i < val) ∧ (p < far → val ≤ cl rows lv.length p) ∧ Tq S0 S' ∧ (∀ i, i ≠ L + 2 → i ≠ L + 3 → S'[i]? = S[i]?)
  | k, at_, S, c, st, hka, hb, hc, h1, tq, 0, hf => absurd hf (Nat.not_lt_zero _)
  | k, at_, S, c, st, hka, hb, hc, h1, tq, f + 1, hf => by
    have hble := st.blk.le
    have hlo := st.lo
    have hhi := st.hi
    simp only at hble hlo hhi
    have hE := end_ok hb
    by_cases hlt : at_ < far
    · have hEb : endB (lv ++ [(lo, far, at_)]) = false := by
        simp [endB]
        omega
      have hky := key_at (rk := sNever) T hb st hlt hk
      by_cases hv : cl rows lv.length at_ < val
      · obtain ⟨p, p1, p2, p3, p4, p5⟩ := fur_ok (rk := sNever) (fu := fu) T hb st hlt hk hfu
        have hb' := hb.mv (lv ++ [(lo, far, p)]) (m2 + c + 1) (by have := hb.small.2; simp at this ⊢; omega)
        have inb : ∀ i, at_ ≤ i → i < p → cl rows lv.length i = cl rows lv.length at_ := fun i i1 i2 =>
          ((tk_succ_iff T hk (by omega) (by omega)).mp (p4.tk i1 i2)).2
        have tq' : Tq S0 (mvS S (L + 2) (L + 3) rows (lv ++ [(lo, far, p)]) (m2 + c + 1)) := ⟨by rw [mvS_len]; exact tq.len, fun i i1 i2 => by
          rw [mvS_other (by omega) (by omega)]
          exact tq.oth i i1 i2⟩
        cases k with
        | zero => omega
        | succ k =>
          obtain ⟨q, S', c', e, a1, a2, a3, a4, a5, a6, a7, a8⟩ := rW_ok T hk hfu hL hS k p _ (c + 1) p3 (by omega) (by rw [← Int.add_assoc]; exact hb') (by omega) (fun i i1 i2 => by
            rcases Nat.lt_or_ge i at_ with z | z
            · exact h1 i i1 z
            · rw [inb i z i2]
              exact hv) tq' f (by omega)
          refine ⟨q, S', c', ?_, a1, a2, a3, by omega, a5, a6, a7, fun i i1 i2 => (a8 i i1 i2).trans (mvS_other i1 i2)⟩
          rw [← e]
          conv => lhs; unfold sWhile
          unfold rC rW
          simp [hb.o, mth_at_end, mth_key, mth_further, hE, hEb, hky, hv, p5]
      · refine ⟨at_, S, c, ?_, st, hb, hc, Nat.le_refl _, h1, fun _ => by omega, tq, fun _ _ _ => rfl⟩
        unfold sWhile rC
        simp [hb.o, mth_at_end, mth_key, hE, hEb, hky, hv]
    · have : at_ = far := by omega
      subst this
      have hEb : endB (lv ++ [(lo, at_, at_)]) = true := by simp [endB]
      refine ⟨at_, S, c, ?_, st, hb, hc, Nat.le_refl _, h1, fun h => by omega, tq, fun _ _ _ => rfl⟩
      unfold sWhile rC
      simp [hb.o, mth_at_end, hE, hEb]
theorem rB_ok {lv : List (Nat × Nat × Nat)} {L n i : Nat} {m2 : Int} {S0 S : Store} {y4 y8 y9 y10 : Option D} (h63 : ns.length ≤ 63) (T : Tab rows w) (hne : rows ≠ []) (hw : w < 100) (hn : rows.length < 60) (hfu : rows.length + 1 < fu) (hL : 0 < L) (hS : S0.length = L) (hi : i < w) (hl : lv.length = i) (g : Good rows lv)
    (hend : ∀ lv' lo far at_, lv = lv' ++ [(lo, far, at_)] → at_ < far) (h : Two rows L n lv i m2 S0 S) (hnn : n < 99000) :
    ∃ S' lv' y8' y9' m2', Two rows L (n + 2) lv' (i + 1 : Nat) m2' S0 S' ∧ lv'.length = i + 1 ∧ Good rows lv' ∧
      ((rB fu (rE ns rows w L i y4 y8 y9 y10) S = .ok .next (rE ns rows w L (i + 1 : Nat) y4 y8' y9' y10) S' ∧ ∀ lv'' lo far at_, lv' = lv'' ++ [(lo, far, at_)] → at_ < far) ∨ ∃ rho, rB fu (rE ns rows w L i y4 y8 y9 y10) S = .ok (.ret (.bl true)) rho S') := by
  obtain ⟨ha, hb, tw, tq⟩ := h
  subst hl
  have hsm := ha.small.2
  -- both opened
  obtain ⟨lo, far, b1, b2, b3, eo⟩ := opn_ok (rk := sNever) (rs := sNever) (fu := fu) T ha g hne hi hend (by omega)
  have hal : L < S.length := (List.getElem?_eq_some_iff.mp ha.o).1
  let S1 := List.set S (L + 1) (.lst ((lv ++ [(lo, far, lo)]).map lvD))
  have ha1 : Lk S1 L (L + 1) rows (lv ++ [(lo, far, lo)]) (lv.length : Nat) := ha.set _ (by rw [List.length_append, List.length_singleton]; omega)
  have hb1 : Lk S1 (L + 2) (L + 3) rows lv m2 := hb.keep (by omega) (by omega)
  obtain ⟨lo', far', b1', b2', b3', eo'⟩ := opn_ok (rk := sNever) (rs := sNever) (fu := fu) T hb1 g hne hi hend (by omega)
  have elo : lo' = lo := by
    rcases List.eq_nil_or_concat lv with rfl | ⟨lv', x, rfl⟩
    · rw [b2 rfl, b2' rfl]
    · rw [List.concat_eq_append] at b3 b3'
      obtain ⟨l', f', a'⟩ := x
      rw [b3 lv' l' f' a' rfl, b3' lv' l' f' a' rfl]
  subst elo
  have efar := b1'.uniq b1
  subst efar
  let S2 := List.set S1 (L + 3) (.lst ((lv ++ [(lo', far', lo')]).map lvD))
  have ha2 : Lk S2 L (L + 1) rows (lv ++ [(lo', far', lo')]) (lv.length : Nat) := ha1.keep (by omega) (by omega)
  have hb2 : Lk S2 (L + 2) (L + 3) rows (lv ++ [(lo', far', lo')]) m2 := hb1.set _ (by rw [List.length_append, List.length_singleton]; omega)
  have tw2 : Twn 0 n S2 := Twn.away tw (by
    show (List.set (List.set S (L + 1) _) (L + 3) _)[0]? = _
    rw [List.getElem?_set_ne (by omega), List.getElem?_set_ne (by omega)])
  obtain ⟨x, S3, hx, tw3, d3, e3⟩ := draw_tw (many := 5) h63 tw2 (by omega) (by decide)
  have ha3 : Lk S3 L (L + 1) rows (lv ++ [(lo', far', lo')]) (lv.length : Nat) := Lk.away ha2 (d3.other (by omega)) (d3.other (by omega))
  have hb3 : Lk S3 (L + 2) (L + 3) rows (lv ++ [(lo', far', lo')]) m2 := Lk.away hb2 (d3.other (by omega)) (d3.other (by omega))
  have k3 := looks_ok hb3
  have st := St.start b1'
  obtain ⟨p, p1, p2, p3, p4, p5, p6⟩ := reach_ok (rk := sNever) (fu := fu) (y := (x : Int)) T ha3 st b1'.lt hi (by omega)
  let S4 := mvS S3 L (L + 1) rows (lv ++ [(lo', far', p)]) ((lv.length : Nat) + 1)
  have ha4 : Lk S4 L (L + 1) rows (lv ++ [(lo', far', p)]) ((lv.length : Nat) + 1) := ha3.mv _ _ (by rw [List.length_append, List.length_singleton]; omega)
  have hb4 : Lk S4 (L + 2) (L + 3) rows (lv ++ [(lo', far', lo')]) m2 := Lk.away hb3 (mvS_other (by omega) (by omega)) (mvS_other (by omega) (by omega))
  have tw4 : Twn 0 (n + 2) S4 := Twn.away tw3 (mvS_other (by omega) (by omega))
  have tq4 : Tq S0 S4 := ⟨by rw [mvS_len, d3.len]; show _ ≤ (List.set (List.set S (L + 1) _) (L + 3) _).length; rw [List.length_set, List.length_set]; exact tq.len, fun i i1 i2 => by
    rw [mvS_other (by omega) (by omega), d3.other i2]
    show (List.set (List.set S (L + 1) _) (L + 3) _)[i]? = _
    rw [List.getElem?_set_ne (by omega), List.getElem?_set_ne (by omega)]
    exact tq.oth i i1 i2⟩
  obtain ⟨q, S5, c5, e5, a1, a2, a3, a4, a5, a6, a7, a8⟩ := rW_ok (ns := ns) (lv := lv) (lo := lo') (far := far') (L := L) (m := ((lv.length : Nat) : Int) + 1) (m2 := m2) (val := (x : Int)) (y4 := y4) (y9 := some (.int m2)) (y10 := y10) T hi (fu := fu) (by omega) (S0 := S0) hL (by omega) (far' - lo') lo' S4 0 st (Nat.le_refl _) (by rw [Int.add_zero]; exact hb4) (Int.le_refl _) (fun i i1 i2 => by omega) tq4 fu (by have := b1'.le; omega)
  have hq : q = p := by
    rcases Nat.lt_trichotomy q p with z | z | z
    · have h1 := p3 q a4 z
      have h2 := a6 (by omega)
      omega
    · exact z
    · have h1 := a5 p p1 z
      have hh := a1.hi
      simp only at hh
      have h2 := p4 (by omega)
      omega
  subst hq
  have ha5 : Lk S5 L (L + 1) rows (lv ++ [(lo', far', q)]) ((lv.length : Nat) + 1) := Lk.away ha4 (a8 _ (by omega) (by omega)) (a8 _ (by omega) (by omega))
  have tw5 : Twn 0 (n + 2) S5 := Twn.away tw4 (a8 _ (by omega) (by omega))
  obtain ⟨z1, z2⟩ := rZ_ok (ns := ns) (val := (x : Int)) (y4 := y4) (y10 := y10) (b4 := m2) T hw hn hi a1 ha5 a2 (by omega) a5 a6
  have hhi := a1.hi
  simp only at hhi
  have pre : rB fu (rE ns rows w L lv.length y4 y8 y9 y10) S = rZ (rE ns rows w L ((lv.length : Nat) + 1) y4 (some (.int x)) (some (.int m2)) y10) S5 := by
    unfold rB
    have o1 := hb1.o
    have o3 := hb3.o
    have o3a := ha3.o
    simp only [S4] at e5
    simp only [S1, S2] at o1 eo' e3
    simp [ha.o, o1, o3, o3a, mth_opened, mth_looks, mth_reach, eo, eo', e3, k3, p6, e5, -List.map_append]
  have etwo : Two rows L (n + 2) (lv ++ [(lo', far', q)]) ((lv.length + 1 : Nat) : Int) (m2 + c5) S0 S5 := ⟨by rw [Int.natCast_add]; exact ha5, a2, tw5, a7⟩
  refine ⟨S5, lv ++ [(lo', far', q)], some (.int x), some (.int m2), m2 + c5, etwo, by rw [List.length_append, List.length_singleton], g.snoc a1, ?_⟩
  rw [pre]
  by_cases hqf : q < far'
  · refine .inl ⟨by rw [z1 hqf, Int.natCast_add]; rfl, fun lv'' l f a e => ?_⟩
    have := List.append_inj' e rfl
    simp at this
    obtain ⟨_, _, rfl, rfl⟩ := this
    exact hqf
  · exact .inr (z2 (by omega))
theorem reach_holds_ok {n : Nat} (h63 : ns.length ≤ 63) (T : Tab rows w) (hne : rows ≠ []) (hw0 : 0 < w) (hw : w < 100) (hn : rows.length < 60) (hfu : rows.length + 1 < fu) (tw : Twn 0 n S) (hnn : n < 98000) :
    ∃ S', F__law_reach_holds fu [.scr ns, .loc 0, .tup (rows.map rowD), .int w] S = .ok (.bl true) S' ∧ Twn 0 (n + 2 * w) S' ∧ Dif 0 S S' := by
  have h0 : 0 < S.length := by
    obtain ⟨ts, _, b⟩ := tw
    exact (List.getElem?_eq_some_iff.mp b).1
  obtain ⟨m1, k1⟩ := makeL_ok S rows (by omega)
  let S1 := S ++ [.ins "Looker" (lkF rows (S.length + 1) 0), .lst []]
  have hs1 : S1.length = S.length + 2 := by simp [S1]
  obtain ⟨m2, k2⟩ := makeL_ok S1 rows (by omega)
  rw [hs1] at m2 k2
  let S2 := S1 ++ [.ins "Looker" (lkF rows (S.length + 2 + 1) 0), .lst []]
  have two : Two rows S.length n [] (0 : Nat) 0 S S2 := ⟨k1.app _, k2, Twn.away tw (by
      show ((S ++ _) ++ _)[0]? = _
      rw [List.getElem?_append_left (by simp <;> omega), List.getElem?_append_left h0]), ⟨by
      show _ ≤ ((S ++ _) ++ _).length
      simp <;> omega, fun i i1 i2 => by
      show ((S ++ _) ++ _)[i]? = _
      rw [List.getElem?_append_left (by simp <;> omega), List.getElem?_append_left i1]⟩⟩
  have hw' : -100000 ≤ (w : Int) ∧ (w : Int) ≤ 100000 := by omega
  have lp := loop_ret (gm := tgN 4) (b := rB fu)
    (fun i r S' => ∃ lv m2 y4 y8 y9 y10, i ≤ w ∧ r = rE ns rows w S.length (i : Nat) y4 y8 y9 y10 ∧ lv.length = i ∧ Good rows lv ∧ (∀ lv' lo far at_, lv = lv' ++ [(lo, far, at_)] → at_ < far) ∧ Two rows S.length (n + 2 * i) lv (i : Nat) m2 S S')
    (fun x r S' => x = .bl true ∧ Twn 0 (n + 2 * w) S' ∧ Tq S S') (rng 0 w) 0 (rE ns rows w S.length (0 : Nat) none none none none) S2 (fun i d r S' hd hi => by
      obtain ⟨hi2, rfl⟩ := rng0_get hd
      rw [Nat.zero_add] at hi ⊢
      obtain ⟨lv, m2, y4, y8, y9, y10, _, rfl, hl, g, he, tw⟩ := hi
      obtain ⟨S'', lv', y8', y9', m2', tw', hl', g', e⟩ := rB_ok (y4 := some (.int i)) (y8 := y8) (y9 := y9) (y10 := y10) h63 T hne hw hn hfu h0 rfl hi2 hl g he tw (by omega)
      refine ⟨_, rfl, ?_⟩
      rcases e with ⟨e, he'⟩ | ⟨rho, e⟩
      · exact .inl ⟨_, S'', e, lv', m2', _, _, _, _, by omega, rfl, hl', g', he', tw'⟩
      · exact .inr ⟨_, rho, S'', e, rfl, tw'.tw.mono (by omega), tw'.tq⟩) ⟨[], 0, none, none, none, none, Nat.zero_le _, rfl, rfl, fun k x e => by simp at e, fun lv' lo far at_ e => by simp at e, two⟩
  rw [rng_len, Nat.zero_add] at lp
  have pre : m__law_reach_holds fu (frame 11 [.scr ns, .loc 0, .tup (rows.map rowD), .int w]) S = (sSeq (sFor (mRng1 (mCons (mVar 3) mNil)) (tgN 4) (rB fu))
    (sRet (mBin inD (mMeth "Looker" "place" 1 FPlace (mVar 5) mNil) (mCall lstD (mCons (mVar 2) mNil))))) (rE ns rows w S.length (0 : Nat) none none none none) S2 := by
    rw [reach_eq, show frame 11 [.scr ns, .loc 0, .tup (rows.map rowD), .int w] = [some (.scr ns), some (.loc 0), some (.tup (rows.map rowD)), some (.int w), none, none, none, none, none, none, none] from rfl]
    have m2' : FInitL [.loc (S.length + 2), .tup (rows.map rowD)] ((S ++ [.ins "Looker" (lkF rows (S.length + 1) 0), .lst []]) ++ [.ins "Looker" []]) = .ok .non S2 := m2
    simp only [List.append_assoc, List.cons_append, List.nil_append] at m2'
    simp [m1, m2', -sFor_ap]
  have eb : ∃ S3, (∃ rho, m__law_reach_holds fu (frame 11 [.scr ns, .loc 0, .tup (rows.map rowD), .int w]) S = .ok (.ret (.bl true)) rho S3) ∧ Twn 0 (n + 2 * w) S3 ∧ Tq S S3 := by
    rw [pre]
    rcases lp with ⟨r', S', e, lv, m2', y4, y8, y9, y10, _, rfl, hl, g, he, tw'⟩ | ⟨x, r', S', e, rfl, t1, t2⟩
    · rcases List.eq_nil_or_concat lv with rfl | ⟨lv', x, rfl⟩
      · simp at hl
        omega
      · rw [List.concat_eq_append] at hl g he tw'
        obtain ⟨lo, far, at_⟩ := x
        have hlt := he lv' lo far at_ rfl
        have st := g.last
        have hble := st.blk.le
        simp only at hble
        have ep := place_at T tw'.a st hlt
        rw [List.length_append, List.length_singleton] at hl
        rw [hl, tk_full T (by omega)] at ep
        have ein : inD (rowD (rows.getD at_ [])) (.lst (rows.map rowD)) S' = some (.bl true) := by
          show (inO _ _).map _ = _
          show (inO (rowD (rows.getD at_ [])) (.lst (rows.map rowD))).map _ = _
          rw [inO_pl (k := 1) (pl_rowD 0 _) (pl_rows 0 rows) (by decide), decide_eq_true (mem_rowD.mpr (by rw [getD_lt (by omega)]; exact List.getElem_mem _))]
          rfl
        have el : lstD [.tup (rows.map rowD)] S' = some (.lst (rows.map rowD)) := rfl
        refine ⟨S', ?_, tw'.tw, tw'.tq⟩
        have e' : sLoop (tgN 4) (rB fu) (rng 0 w) (rE ns rows w S.length 0 none none none none) S2 = _ := e
        simp [hw', e', tw'.a.o, mth_place, ep, ein, el, -List.getD_eq_getElem?_getD]
    · have e' : sLoop (tgN 4) (rB fu) (rng 0 w) (rE ns rows w S.length 0 none none none none) S2 = _ := e
      refine ⟨S', ⟨r', ?_⟩, t1, t2⟩
      simp [hw', e']
  obtain ⟨S3, ⟨rho, eb⟩, t1, t2⟩ := eb
  obtain ⟨S', f1, f2, f3⟩ := t2.fin (rho := rho) (d := .bl true) h0 t1 rfl
  refine ⟨S', ?_, f2, f3⟩
  show finT S (m__law_reach_holds fu (frame 11 _) S) = _
  rw [eb]
  exact f1
end
end Law
namespace Law
open PySem L2 Dv
section
variable {rows : List (List Int)} {w fu : Nat} {ns : List Int} {S : Store}
open Classical in
theorem sts_len {i : Nat} {b : Bool} : ∀ n k, sts rows n k b i = ((List.range n).filter fun j => decide (b = true ∨ tk rows (k + j + 1) (i - 1) ≠ tk rows (k + j + 1) i)).length
  | 0, _ => rfl
  | n + 1, k => by
    rw [List.range_succ_eq_map, List.filter_cons, List.filter_map, sts, sts_len n (k + 1)]
    have e : ((fun j => decide (b = true ∨ tk rows (k + j + 1) (i - 1) ≠ tk rows (k + j + 1) i)) ∘ Nat.succ) = fun j => decide (b = true ∨ tk rows (k + 1 + j + 1) (i - 1) ≠ tk rows (k + 1 + j + 1) i) := by
      funext j
      show decide (b = true ∨ tk rows (k + (j + 1) + 1) (i - 1) ≠ tk rows (k + (j + 1) + 1) i) = _
      rw [show k + (j + 1) + 1 = k + 1 + j + 1 by omega]
    rw [e]
    by_cases h : b = true ∨ tk rows (k + 0 + 1) (i - 1) ≠ tk rows (k + 0 + 1) i
    · have h' : b = true ∨ tk rows (k + 1) (i - 1) ≠ tk rows (k + 1) i := h
      rw [if_pos h', if_pos (decide_eq_true h), List.length_cons, List.length_map]
      omega
    · have h' : ¬ (b = true ∨ tk rows (k + 1) (i - 1) ≠ tk rows (k + 1) i) := h
      rw [if_neg h', if_neg (by rw [decide_eq_true_eq]; exact h), List.length_map]
      omega
theorem sts_le (i : Nat) (b : Bool) : ∀ n k, sts rows n k b i ≤ n
  | 0, _ => Nat.le_refl _
  | n + 1, k => by
    rw [sts]
    have := sts_le i b n (k + 1)
    split <;> omega
theorem cnt_le (k a : Nat) : ∀ c, cnt rows w k a c ≤ w * c
  | 0 => Nat.zero_le _
  | c + 1 => by
    rw [cnt, Nat.mul_succ]
    have := cnt_le k a c
    split
    · have := sts_le (rows := rows) c (decide (c = a)) (w - k) k
      omega
    · omega
noncomputable def plB : SM := (sSet 6 (mBin addD (mVar 6) (mLc (mRng2 (mCons (mC (.int 1)) (mCons (mBin addD (mVar 3) (mC (.int 1))) mNil))) [8] (tgN 8) (mT (mBin ninD (mSl (mVar 7) mNoP (mP (mVar 8))) (mVar 6))) (mSl (mVar 7) mNoP (mP (mVar 8))))))
/-- all beginnings of the rows ahead -/
def Beg (rows : List (List Int)) (w i : Nat) (ps : List (List Int)) : Prop := ∀ x, x ∈ ps ↔ ∃ j d, j < i ∧ 1 ≤ d ∧ d ≤ w ∧ x = tk rows d j
theorem beg_iff (T : Tab rows w) {ps : List (List Int)} {i d : Nat} (h : Beg rows w i ps) (hi : i < rows.length) (h1 : 1 ≤ d) (h2 : d ≤ w) : tk rows d i ∈ ps ↔ (0 < i ∧ tk rows d (i - 1) = tk rows d i) := by
  rw [h]
  constructor
  · rintro ⟨j, d', hj, hd1, hd2, e⟩
    have el : d = d' := by
      have := congrArg List.length e
      rw [tk, tk, List.length_take, List.length_take, T.len hi, T.len (by omega)] at this
      omega
    subst el
    exact ⟨by omega, (tk_between T (i := j) (j := i - 1) (l := i) (by omega) (by omega) hi e.symm).trans e.symm⟩
  · rintro ⟨h0, e⟩
    exact ⟨i - 1, d, by omega, h1, h2, e.symm⟩
theorem plB_ok {e0 e1 e2 e5 y8 : Option D} {ps : List (List Int)} {i : Nat} (T : Tab rows w) (hw : w < 100) (hi : i < rows.length) (hn : rows.length < 60) (h : Beg rows w i ps) (hl : ps.length = cnt rows w 0 0 i) :
    ∃ ps', plB [e0, e1, e2, some (.int w), some (.tup (rows.map rowD)), e5, some (.lst (ps.map rowD)), some (rowD (rows.getD i [])), y8] S = .ok .next [e0, e1, e2, some (.int w), some (.tup (rows.map rowD)), e5, some (.lst (ps'.map rowD)), some (rowD (rows.getD i [])), y8] S ∧ Beg rows w (i + 1) ps' ∧ ps'.length = cnt rows w 0 0 (i + 1) := by
  have ecut : ∀ d : Nat, ∀ S, slD (rowD (rows.getD i [])) none (some (d : Int)) S = some (rowD (tk rows d i)) := fun d S => by
    show some (D.tup (cutL ((rows.getD i []).map D.int) none (some (d : Int)))) = _
    rw [cutL_take, ← List.map_take]
    rfl
  have enin : ∀ x S, ninD (rowD x) (.lst (ps.map rowD)) S = some (.bl (!decide (x ∈ ps))) := fun x S => by
    show (inO (rowD x) (.lst (ps.map rowD))).map (fun k => D.bl (!k)) = _
    rw [inO_pl (k := 1) (pl_rowD 0 x) (pl_rows 0 ps) (by decide)]
    show some (D.bl (!decide (rowD x ∈ ps.map rowD))) = _
    congr 3
    exact decide_eq_decide.mpr mem_rowD
  have hlc := lc_pure (gm := tgN 8) (tt := (mT (mBin ninD (mSl (mVar 7) mNoP (mP (mVar 8))) (mVar 6)))) (te := (mSl (mVar 7) mNoP (mP (mVar 8)))) (r0 := [e0, e1, e2, some (.int w), some (.tup (rows.map rowD)), e5, some (.lst (ps.map rowD)), some (rowD (rows.getD i [])), none]) (S := S)
    (fun d => match d with | .int z => !decide (tk rows z.toNat i ∈ ps) | _ => false) (fun d => match d with | .int z => rowD (tk rows z.toNat i) | _ => .non) (rng 1 w) (fun d hd => by
      obtain ⟨j, hj, rfl⟩ := List.mem_map.mp hd
      have ez : (1 : Int) + (j : Int) = ((1 + j : Nat) : Int) := by omega
      rw [ez]
      refine ⟨_, rfl, ?_, fun _ => ?_⟩
      · have := ecut (1 + j) S
        simp only [mT_ap, mBin_ap, mSl_ap, mVar_ap, mNoP_ap, mP_ap, tgN_ap, List.set_cons_succ, List.set_cons_zero, List.getElem?_cons_succ, List.getElem?_cons_zero, rb_ok, this, ofO_some, enin, asB_bl, Int.toNat_natCast]
      · have := ecut (1 + j) S
        simp only [mSl_ap, mVar_ap, mNoP_ap, mP_ap, tgN_ap, List.set_cons_succ, List.set_cons_zero, List.getElem?_cons_succ, List.getElem?_cons_zero, rb_ok, this, ofO_some, Int.toNat_natCast])
  have ev : ((rng 1 w).filter fun d => match d with | .int z => !decide (tk rows z.toNat i ∈ ps) | _ => false).map (fun d => match d with | .int z => rowD (tk rows z.toNat i) | _ => D.non) = (((List.range w).filter fun j => !decide (tk rows (j + 1) i ∈ ps)).map fun j => tk rows (j + 1) i).map rowD := by
    unfold rng
    rw [List.filter_map, List.map_map, List.map_map]
    have e1 : ∀ j : Nat, ((1 : Int) + (j : Int)).toNat = j + 1 := fun j => by omega
    have ef : (List.range w).filter ((fun d => match d with | .int z => !decide (tk rows z.toNat i ∈ ps) | _ => false) ∘ fun j : Nat => D.int (1 + (j : Int))) = (List.range w).filter fun j => !decide (tk rows (j + 1) i ∈ ps) := by
      refine List.filter_congr fun j hj => ?_
      show (!decide (tk rows ((1 : Int) + (j : Int)).toNat i ∈ ps)) = _
      rw [e1]
    rw [ef]
    refine List.map_congr_left fun j hj => ?_
    show rowD (tk rows ((1 : Int) + (j : Int)).toNat i) = _
    rw [e1]
    rfl
  rw [ev] at hlc
  refine ⟨ps ++ ((List.range w).filter fun j => !decide (tk rows (j + 1) i ∈ ps)).map fun j => tk rows (j + 1) i, ?_, fun x => ?_, ?_⟩
  · have hsz : ps.length + ((List.range w).filter fun j => !decide (tk rows (j + 1) i ∈ ps)).length ≤ 100000 := by
      have h1 := cnt_le (rows := rows) (w := w) 0 0 i
      have h2 := List.length_filter_le (fun j => !decide (tk rows (j + 1) i ∈ ps)) (List.range w)
      rw [List.length_range] at h2
      have h3 : w * i ≤ 100 * 60 := Nat.mul_le_mul (by omega) (by omega)
      omega
    have hr : (((-100000 : Int) ≤ 1 ∧ (1 : Int) ≤ 100000) ∧ ((-100000 : Int) ≤ (w : Int) + 1 ∧ (w : Int) + 1 ≤ 100000)) := by omega
    have hr2 : ((w : Int) + 1 - 1).toNat = w := by omega
    unfold plB
    simp only [sSet_ap, mBin_ap, mVar_ap, mLc_ap, mRng2_ap, mCons_ap, mC_ap, mNil_ap, List.getElem?_cons_succ, List.getElem?_cons_zero, rb_ok, addD_int, ofO_some, rng2_int, if_pos hr, hr2, wipeE_cons, wipeE_nil, List.set_cons_succ, List.set_cons_zero, hlc, addD_lst, List.length_map, if_pos hsz, bs_ok, List.map_append]
  · rw [List.mem_append, h x, List.mem_map]
    constructor
    · rintro (⟨j, d, hj, h1, h2, rfl⟩ | ⟨j, hj, rfl⟩)
      · exact ⟨j, d, by omega, h1, h2, rfl⟩
      · have := List.mem_range.mp (List.mem_filter.mp hj).1
        exact ⟨i, j + 1, by omega, by omega, by omega, rfl⟩
    · rintro ⟨j, d, hj, h1, h2, rfl⟩
      by_cases e : j < i
      · exact .inl ⟨j, d, e, h1, h2, rfl⟩
      · have : j = i := by omega
        subst this
        by_cases m : tk rows d j ∈ ps
        · obtain ⟨j', d', q1, q2, q3, q4⟩ := (h _).mp m
          exact .inl ⟨j', d', q1, q2, q3, q4⟩
        · refine .inr ⟨d - 1, List.mem_filter.mpr ⟨List.mem_range.mpr (by omega), ?_⟩, by rw [show d - 1 + 1 = d by omega]⟩
          rw [show d - 1 + 1 = d by omega]
          simp [m]
  · rw [List.length_append, List.length_map, hl, cnt, if_pos (Nat.zero_le _), Nat.sub_zero, sts_len]
    congr 2
    refine List.filter_congr fun j hj => ?_
    have hj := List.mem_range.mp hj
    have := beg_iff T h hi (d := j + 1) (by omega) (by omega)
    rw [Nat.zero_add]
    by_cases h0 : i = 0
    · have n1 : tk rows (j + 1) i ∉ ps := fun m => by
        have := this.mp m
        omega
      simp [n1, h0]
      subst h0
      simpa using n1
    · by_cases he : tk rows (j + 1) (i - 1) = tk rows (j + 1) i
      · have m := this.mpr ⟨by omega, he⟩
        simp [m, h0, he]
      · have n1 : tk rows (j + 1) i ∉ ps := fun m => he (this.mp m).2
        simp [n1, he]
/-! ### the law -/
noncomputable def lawI (fu : Nat) : SM := (sSeq (sSet 5 (mMake "Looker" 2 FInitL (mCons (mVar 4) mNil)))
    (sSeq (sIf (mNotT (mTru (mApp 2 (FSame 4) (mCons (mCall tupD (mCons (mApp 3 (F__law_walked fu 5) (mCons (mVar 5) (mCons (mVar 4) (mCons (mVar 3) mNil)))) mNil)) (mCons (mVar 4) mNil))))) (sRet (mC (.bl false))) sNil)
    (sSeq (sIf (mOrT (mT (mBin neD (mMeth "Looker" "depth" 1 FDepth (mVar 5) mNil) (mC (.int 0)))) (mT (mBin neD (mMeth "Looker" "place" 1 FPlace (mVar 5) mNil) (mTup mNil)))) (sRet (mC (.bl false))) sNil)
    (sSeq (sIf (mNotT (mTru (mApp 4 (F__law_reach_holds fu) (mCons (mVar 0) (mCons (mVar 1) (mCons (mVar 4) (mCons (mVar 3) mNil))))))) (sRet (mC (.bl false))) sNil)
    (sSeq (sSet 6 (mLst mNil))
    (sSeq (sFor (mIter (mVar 4)) (tgN 7) plB)
    (sIf (mT (mBin neD (mMeth "Looker" "looks" 1 FLooks (mVar 5) mNil) (mCall lenD (mCons (mVar 6) mNil)))) (sRet (mC (.bl false))) sNil)))))))
noncomputable def lawB (fu : Nat) : SM := (sSeq (sSet 3 (mBin addD (mC (.int 1)) (mApp 3 FDraw (mCons (mVar 0) (mCons (mVar 1) (mCons (mC (.int 3)) mNil))))))
    (sSeq (sSet 4 (mApp 5 FRows (mCons (mVar 0) (mCons (mVar 1) (mCons (mVar 3) (mCons (mC (.int 14)) (mCons (mApp 3 FPick (mCons (mVar 0) (mCons (mVar 1) (mCons (mLst (mCons (mC (.int 2)) (mCons (mC (.int 4)) mNil))) mNil)))) mNil)))))))
    (sIf (mTru (mVar 4)) (lawI fu) sNil)))
theorem fsame_eq (fu : Nat) : ∀ n, F__law_same fu n = FSame n
  | 0 => rfl
  | n + 1 => by
    show runT 4 (m__law_same fu (F__law_same fu n)) = runT 4 (mSame (FSame n))
    rw [fsame_eq fu n]
    rfl
theorem law_eq (fu : Nat) : m_law fu = (sSeq (sSet 1 (mNewL mNil)) (sSeq (sFor (mRng1 (mCons (mC (.int 5)) mNil)) (tgN 2) (lawB fu)) (sRet (mC (.bl true))))) := by
  unfold m_law
  rw [fsame_eq]
  rfl
theorem lawI_ok {n : Nat} {y2 y5 y6 y7 y8 : Option D} (h63 : ns.length ≤ 63) (T : Tab rows w) (hne : rows ≠ []) (hw0 : 0 < w) (hw : w ≤ 5) (hn : rows.length < 60) (hfu : rows.length + 1 < fu) (tw : Twn 0 n S) (hnn : n < 9000) :
    ∃ S' y5' y6' y7' y8', lawI fu [some (.scr ns), some (.loc 0), y2, some (.int w), some (.tup (rows.map rowD)), y5, y6, y7, y8] S = .ok .next [some (.scr ns), some (.loc 0), y2, some (.int w), some (.tup (rows.map rowD)), y5', y6', y7', y8'] S' ∧ Twn 0 (n + 2 * w) S' := by
  have h0 : 0 < S.length := by
    obtain ⟨ts, _, b⟩ := tw
    exact (List.getElem?_eq_some_iff.mp b).1
  obtain ⟨em, k1⟩ := makeL_ok S rows (by omega)
  let S1 := S ++ [.ins "Looker" (lkF rows (S.length + 1) 0), .lst []]
  have bl := Blk.top T hne
  have ew := walked_ok (l := S.length) (v := S.length + 1) T (by omega) hn (fu := fu) (by omega) hne 5 0 hw0 (by omega) S1 [] 0 0 rows.length rfl k1 (fun k x e => by simp at e) bl (fun _ => rfl) (fun lv' lo far at_ e => by simp at e)
  rw [seg_all] at ew
  let S2 := mvS S1 S.length (S.length + 1) rows [] (0 + cnt rows w 0 0 rows.length)
  have k2 : Lk S2 S.length (S.length + 1) rows [] (0 + cnt rows w 0 0 rows.length) := k1.mv _ _ (by simp)
  have es := same_ok (S := S2) 4 2 (by decide) (.tup (rows.map rowD)) (.tup (rows.map rowD)) (pt_rows 0 rows) (pt_rows 0 rows)
  rw [decide_eq_true rfl] at es
  have ed := depth_ok k2
  have ep := place0_ok k2
  have tw2 : Twn 0 n S2 := Twn.away tw (by
    show (mvS S1 _ _ _ _ _)[0]? = _
    rw [mvS_other (by omega) (by omega)]
    show (S ++ _)[0]? = _
    rw [List.getElem?_append_left h0])
  obtain ⟨S3, e3, tw3, d3⟩ := reach_holds_ok (fu := fu) h63 T hne hw0 (by omega) hn hfu tw2 (by omega)
  have k3 : Lk S3 S.length (S.length + 1) rows [] (0 + cnt rows w 0 0 rows.length) := Lk.away k2 (d3.other (by omega)) (d3.other (by omega))
  have el := looks_ok k3
  obtain ⟨r4, S4, e4, ps, y7', rfl, rfl, hB, hl⟩ := loop_inv (gm := tgN 7) (b := plB)
    (fun i r S' => ∃ (ps : List (List Int)) (y7 : Option D), r = [some (.scr ns), some (.loc 0), y2, some (.int w), some (.tup (rows.map rowD)), some (.loc S.length), some (.lst (ps.map rowD)), y7, y8] ∧ S' = S3 ∧ Beg rows w i ps ∧ ps.length = cnt rows w 0 0 i) (rows.map rowD) 0 [some (.scr ns), some (.loc 0), y2, some (.int w), some (.tup (rows.map rowD)), some (.loc S.length), some (.lst (([] : List (List Int)).map rowD)), y7, y8] S3 (fun i d r S' hd hi => by
      rw [List.getElem?_map] at hd
      have hi2 : i < rows.length := by
        rcases Nat.lt_or_ge i rows.length with q | q
        · exact q
        · rw [List.getElem?_eq_none q] at hd
          cases hd
      have hd2 : d = rowD (rows.getD i []) := by
        rw [List.getElem?_eq_getElem hi2] at hd
        cases hd
        rw [getD_lt hi2]
      subst hd2
      obtain ⟨ps, y7, rfl, rfl, hB, hl⟩ := hi
      rw [Nat.zero_add] at hB hl ⊢
      obtain ⟨ps', e, hB', hl'⟩ := plB_ok (e0 := some (.scr ns)) (e1 := some (.loc 0)) (e2 := y2) (e5 := some (.loc S.length)) (y8 := y8) (S := S') T (by omega) hi2 hn hB hl
      exact ⟨_, _, S', rfl, .inl e, ps', _, rfl, rfl, hB', hl'⟩) ⟨[], y7, rfl, rfl, fun x => ⟨fun h => (nomatch h), fun ⟨j, d, hj, _⟩ => absurd hj (Nat.not_lt_zero _)⟩, rfl⟩
  rw [List.length_map, Nat.zero_add] at hl
  refine ⟨S4, some (.loc S.length), some (.lst (ps.map rowD)), y7', y8, ?_, tw3⟩
  have np : ∀ S, neD (.tup []) (.tup []) S = some (.bl false) := fun S => by
    have := neD_row (S := S) [] []
    rw [decide_eq_true rfl] at this
    exact this
  have hz : (0 : Int) + (cnt rows w 0 0 rows.length : Int) = cnt rows w 0 0 rows.length := by omega
  unfold lawI
  simp only [S1] at ew em
  have em' := em
  have ew' : F__law_walked fu 5 [.loc S.length, .tup (rows.map rowD), .int w] (S ++ [.ins "Looker" (lkF rows (S.length + 1) 0), .lst []]) = .ok (.lst (rows.map rowD)) S2 := ew
  have ed' : FDepth [.loc S.length] S2 = .ok (.int 0) S2 := ed
  have el' : FLooks [.loc S.length] S4 = .ok (.int (ps.length : Int)) S4 := by
    rw [el, hl, hz]
  have e4' : sLoop (tgN 7) plB (rows.map rowD) [some (.scr ns), some (.loc 0), y2, some (.int w), some (.tup (rows.map rowD)), some (.loc S.length), some (.lst []), y7, y8] S4 = _ := e4
  simp [em', ew', es, k2.o, mth_depth, mth_place, mth_looks, ed', ep, np, e3, e4', k3.o, el']
theorem lawB_ok {n : Nat} {y2 y3 y4 y5 y6 y7 y8 : Option D} (h63 : ns.length ≤ 63) (tw : Twn 0 n S) (hnn : n < 8000) (hfu : 30 < fu) :
    ∃ S' y3' y4' y5' y6' y7' y8', lawB fu [some (.scr ns), some (.loc 0), y2, y3, y4, y5, y6, y7, y8] S = .ok .next [some (.scr ns), some (.loc 0), y2, y3', y4', y5', y6', y7', y8'] S' ∧ Twn 0 (n + 100) S' := by
  obtain ⟨x, S1, hx, tw1, d1, e1⟩ := draw_tw (many := 3) h63 tw (by omega) (by decide)
  obtain ⟨w, hw⟩ : ∃ w : Nat, 1 + (x : Int) = w := ⟨1 + x, by omega⟩
  obtain ⟨i, d, S2, hd, tw2, d2, e2⟩ := pick_tw (seq := .lst [.int 2, .int 4]) (xs := [.int 2, .int 4]) h63 tw1 (by omega) (.inl rfl) (by simp) (fun _ => rfl)
  obtain ⟨far, rfl, hf⟩ : ∃ far : Int, d = .int far ∧ 0 < far := by
    match i, hd with
    | 0, hd => exact ⟨2, by cases hd; rfl, by decide⟩
    | 1, hd => exact ⟨4, by cases hd; rfl, by decide⟩
    | i + 2, hd => simp at hd
  have hle : 2 * w * 14 ≤ 84 := by omega
  obtain ⟨rows, S3, hl, hr, hs, tw3, d3, e3⟩ := rows_ok (width := w) (most := 14) (far := far) h63 (by omega) (by omega) hf tw2 (by omega) (by decide)
  have T : Tab rows w := ⟨fun r h => (hr r h).1, hs⟩
  have e3' : FRows [.scr ns, .loc 0, .int w, .int 14, .int far] S2 = .ok (.tup (rows.map rowD)) S3 := e3
  have pre : lawB fu [some (.scr ns), some (.loc 0), y2, y3, y4, y5, y6, y7, y8] S = (sIf (mTru (mVar 4)) (lawI fu) sNil) [some (.scr ns), some (.loc 0), y2, some (.int w), some (.tup (rows.map rowD)), y5, y6, y7, y8] S3 := by
    unfold lawB
    simp [e1, hw, e2, e3', -sIf_ap]
  rw [pre]
  cases rows with
  | nil => exact ⟨S3, _, _, _, _, _, _, rfl, tw3.mono (by omega)⟩
  | cons row rs =>
    obtain ⟨S4, y5', y6', y7', y8', e4, tw4⟩ := lawI_ok (fu := fu) (y2 := y2) (y5 := y5) (y6 := y6) (y7 := y7) (y8 := y8) h63 T (by simp) (by omega) (by omega) (by omega) (by omega) tw3 (by omega)
    have e5 : (sIf (mTru (mVar 4)) (lawI fu) sNil) [some (.scr ns), some (.loc 0), y2, some (.int w), some (.tup ((row :: rs).map rowD)), y5, y6, y7, y8] S3 = lawI fu [some (.scr ns), some (.loc 0), y2, some (.int w), some (.tup ((row :: rs).map rowD)), y5, y6, y7, y8] S3 := by
      simp
    exact ⟨S4, _, _, _, _, _, _, e5.trans e4, tw4.mono (by omega)⟩
end
theorem law_true (ns : List Int) (h : ns.length ≤ 63) : ∃ fu S, F_law fu [.scr ns] [] = .ok (.bl true) S := by
  refine ⟨50, ?_⟩
  obtain ⟨r', S', e, y2, y3, y4, y5, y6, y7, y8, rfl, tw⟩ := loop_inv (gm := tgN 2) (b := lawB 50)
    (fun i r S' => ∃ y2 y3 y4 y5 y6 y7 y8, r = [some (.scr ns), some (.loc 0), y2, y3, y4, y5, y6, y7, y8] ∧ Twn 0 (100 * i) S') (rng 0 5) 0 [some (.scr ns), some (.loc 0), none, none, none, none, none, none, none] [.lst []] (fun i d r S1 hd hi => by
      obtain ⟨hi2, rfl⟩ := rng0_get hd
      obtain ⟨y2, y3, y4, y5, y6, y7, y8, rfl, tw⟩ := hi
      obtain ⟨S', y3', y4', y5', y6', y7', y8', e, tw'⟩ := lawB_ok (y2 := some (.int i)) (y3 := y3) (y4 := y4) (y5 := y5) (y6 := y6) (y7 := y7) (y8 := y8) h tw (by omega) (show 30 < 50 by decide)
      exact ⟨_, _, S', rfl, .inl e, _, _, _, _, _, _, _, rfl, tw'.mono (by omega)⟩) ⟨_, _, _, _, _, _, _, rfl, [], by simp, rfl⟩
  refine ⟨[], ?_⟩
  show finT [] (m_law 50 (frame 9 _) []) = _
  rw [show frame 9 [.scr ns] = [some (.scr ns), none, none, none, none, none, none, none, none] from rfl, law_eq]
  have eb : ∃ rho, (sSeq (sSet 1 (mNewL mNil)) (sSeq (sFor (mRng1 (mCons (mC (.int 5)) mNil)) (tgN 2) (lawB 50)) (sRet (mC (.bl true))))) [some (.scr ns), none, none, none, none, none, none, none, none] [] = .ok (.ret (.bl true)) rho ([] ++ S') := by
    simp [e]
  obtain ⟨rho, eb⟩ := eb
  rw [eb]
  exact fin_ret_app S' rfl
end Law
namespace Law
open PySem L2 Dv
/-! ### what the top has left -/
structure Tx (K : PySem.W.Frag) (mg : Str → Option Value) (a__law_draw a__law_drawn_rows a__law_pick a_Looker___init__ a__law_same a_Looker_at_end a_first_at a_Looker_behind a_Looker_key a_Looker_opened a_Looker_go_to a_Looker_reach a_Looker_place a_Looker_looks a_Looker_further a_Looker_depth a__law_trie a__law_reach_holds a_Looker_up a__law_walked a_law C_Looker : Addr) (d__law_draw d__law_drawn_rows d__law_pick d_Looker___init__ d__law_same d_Looker_at_end d_first_at d_Looker_behind d_Looker_key d_Looker_opened d_Looker_go_to d_Looker_reach d_Looker_place d_Looker_looks d_Looker_further d_Looker_depth d__law_trie d__law_reach_holds d_Looker_up d__law_walked d_law : FuncData) : Prop where
  z_abs : mg "abs" = none
  z_all : mg "all" = none
  z_bool : mg "bool" = none
  z_int : mg "int" = none
  z_isinstance : mg "isinstance" = none
  z_len : mg "len" = none
  z_list : mg "list" = none
  z_max : mg "max" = none
  z_range : mg "range" = none
  z_set : mg "set" = none
  z_sorted : mg "sorted" = none
  z_str : mg "str" = none
  z_tuple : mg "tuple" = none
  z_zip : mg "zip" = none
  k_Looker : ClsOk K mg "Looker" C_Looker
  m_Looker : Mk K C_Looker a_Looker___init__
  n_Looker_levels : NoAttr K C_Looker "levels"
  n_Looker_many : NoAttr K C_Looker "many"
  n_Looker_rows : NoAttr K C_Looker "rows"
  F__law_draw : Fun K "_law_draw" "_law_draw" s__law_draw a__law_draw d__law_draw
  b__law_draw : Binds K d__law_draw P__law_draw []
  g__law_draw : mg "_law_draw" = some (.ref a__law_draw)
  F__law_drawn_rows : Fun K "_law_drawn_rows" "_law_drawn_rows" s__law_drawn_rows a__law_drawn_rows d__law_drawn_rows
  b__law_drawn_rows : Binds K d__law_drawn_rows P__law_drawn_rows []
  g__law_drawn_rows : mg "_law_drawn_rows" = some (.ref a__law_drawn_rows)
  F__law_pick : Fun K "_law_pick" "_law_pick" s__law_pick a__law_pick d__law_pick
  b__law_pick : Binds K d__law_pick P__law_pick []
  g__law_pick : mg "_law_pick" = some (.ref a__law_pick)
  F_Looker___init__ : Fun K "__init__" "Looker.__init__" s_Looker___init__ a_Looker___init__ d_Looker___init__
  b_Looker___init__ : Binds K d_Looker___init__ P_Looker___init__ []
  F__law_same : Fun K "_law_same" "_law_same" s__law_same a__law_same d__law_same
  b__law_same : Binds K d__law_same P__law_same []
  g__law_same : mg "_law_same" = some (.ref a__law_same)
  F_Looker_at_end : Fun K "at_end" "Looker.at_end" s_Looker_at_end a_Looker_at_end d_Looker_at_end
  b_Looker_at_end : Binds K d_Looker_at_end P_Looker_at_end []
  h_Looker_at_end : Meth K C_Looker "at_end" a_Looker_at_end
  F_first_at : Fun K "first_at" "first_at" s_first_at a_first_at d_first_at
  b_first_at : Binds K d_first_at P_first_at []
  g_first_at : mg "first_at" = some (.ref a_first_at)
  F_Looker_behind : Fun K "behind" "Looker.behind" s_Looker_behind a_Looker_behind d_Looker_behind
  b_Looker_behind : Binds K d_Looker_behind P_Looker_behind []
  h_Looker_behind : Meth K C_Looker "behind" a_Looker_behind
  F_Looker_key : Fun K "key" "Looker.key" s_Looker_key a_Looker_key d_Looker_key
  b_Looker_key : Binds K d_Looker_key P_Looker_key []
  h_Looker_key : Meth K C_Looker "key" a_Looker_key
  F_Looker_opened : Fun K "opened" "Looker.opened" s_Looker_opened a_Looker_opened d_Looker_opened
  b_Looker_opened : Binds K d_Looker_opened P_Looker_opened []
  h_Looker_opened : Meth K C_Looker "opened" a_Looker_opened
  F_Looker_go_to : Fun K "go_to" "Looker.go_to" s_Looker_go_to a_Looker_go_to d_Looker_go_to
  b_Looker_go_to : Binds K d_Looker_go_to P_Looker_go_to []
  h_Looker_go_to : Meth K C_Looker "go_to" a_Looker_go_to
  F_Looker_reach : Fun K "reach" "Looker.reach" s_Looker_reach a_Looker_reach d_Looker_reach
  b_Looker_reach : Binds K d_Looker_reach P_Looker_reach []
  h_Looker_reach : Meth K C_Looker "reach" a_Looker_reach
  F_Looker_place : Fun K "place" "Looker.place" s_Looker_place a_Looker_place d_Looker_place
  b_Looker_place : Binds K d_Looker_place P_Looker_place []
  h_Looker_place : Meth K C_Looker "place" a_Looker_place
  F_Looker_looks : Fun K "looks" "Looker.looks" s_Looker_looks a_Looker_looks d_Looker_looks
  b_Looker_looks : Binds K d_Looker_looks P_Looker_looks []
  h_Looker_looks : Meth K C_Looker "looks" a_Looker_looks
  F_Looker_further : Fun K "further" "Looker.further" s_Looker_further a_Looker_further d_Looker_further
  b_Looker_further : Binds K d_Looker_further P_Looker_further []
  h_Looker_further : Meth K C_Looker "further" a_Looker_further
  F_Looker_depth : Fun K "depth" "Looker.depth" s_Looker_depth a_Looker_depth d_Looker_depth
  b_Looker_depth : Binds K d_Looker_depth P_Looker_depth []
  h_Looker_depth : Meth K C_Looker "depth" a_Looker_depth
  F__law_trie : Fun K "_law_trie" "_law_trie" s__law_trie a__law_trie d__law_trie
  b__law_trie : Binds K d__law_trie P__law_trie []
  g__law_trie : mg "_law_trie" = some (.ref a__law_trie)
  F__law_reach_holds : Fun K "_law_reach_holds" "_law_reach_holds" s__law_reach_holds a__law_reach_holds d__law_reach_holds
  b__law_reach_holds : Binds K d__law_reach_holds P__law_reach_holds []
  g__law_reach_holds : mg "_law_reach_holds" = some (.ref a__law_reach_holds)
  F_Looker_up : Fun K "up" "Looker.up" s_Looker_up a_Looker_up d_Looker_up
  b_Looker_up : Binds K d_Looker_up P_Looker_up []
  h_Looker_up : Meth K C_Looker "up" a_Looker_up
  F__law_walked : Fun K "_law_walked" "_law_walked" s__law_walked a__law_walked d__law_walked
  b__law_walked : Binds K d__law_walked P__law_walked []
  g__law_walked : mg "_law_walked" = some (.ref a__law_walked)
  F_law : Fun K "law" "law" s_law a_law d_law
  b_law : Binds K d_law P_law []
  g_law : mg "law" = some (.ref a_law)
section
variable {P : Program} {w : World} {K : PySem.W.Frag} {mg : Str → Option Value} {base : Heap} {a__law_draw a__law_drawn_rows a__law_pick a_Looker___init__ a__law_same a_Looker_at_end a_first_at a_Looker_behind a_Looker_key a_Looker_opened a_Looker_go_to a_Looker_reach a_Looker_place a_Looker_looks a_Looker_further a_Looker_depth a__law_trie a__law_reach_holds a_Looker_up a__law_walked a_law C_Looker : Addr} {d__law_draw d__law_drawn_rows d__law_pick d_Looker___init__ d__law_same d_Looker_at_end d_first_at d_Looker_behind d_Looker_key d_Looker_opened d_Looker_go_to d_Looker_reach d_Looker_place d_Looker_looks d_Looker_further d_Looker_depth d__law_trie d__law_reach_holds d_Looker_up d__law_walked d_law : FuncData}
theorem ok__law_draw (T : Tx K mg a__law_draw a__law_drawn_rows a__law_pick a_Looker___init__ a__law_same a_Looker_at_end a_first_at a_Looker_behind a_Looker_key a_Looker_opened a_Looker_go_to a_Looker_reach a_Looker_place a_Looker_looks a_Looker_further a_Looker_depth a__law_trie a__law_reach_holds a_Looker_up a__law_walked a_law C_Looker d__law_draw d__law_drawn_rows d__law_pick d_Looker___init__ d__law_same d_Looker_at_end d_first_at d_Looker_behind d_Looker_key d_Looker_opened d_Looker_go_to d_Looker_reach d_Looker_place d_Looker_looks d_Looker_further d_Looker_depth d__law_trie d__law_reach_holds d_Looker_up d__law_walked d_law) (fu : Nat) : FnOk P w K mg base (L2.CX P w) 1 a__law_draw d__law_draw P__law_draw (spD K mg 3 (F__law_draw fu)) := by
  refine fnT (N := N__law_draw) (b := m__law_draw fu) T.F__law_draw sc__law_draw fun cdv A outer s H E hr => ?_
  have tk : Takes (cxOf (L2.CX P w) P w K mg base N__law_draw "_law_draw" (defScope s__law_draw) a__law_draw cdv A outer s H E) (fun c d _ H => E c d H) := takes_of rfl rfl rfl rfl
  exact (js_cons (js_if (jt_not (jt_tru (jv 1))) (js_one (js_drop (j_append (jv 1) (j_callB (cr_max rfl) pok_max (by rfl) T.z_max (by decide +kernel) (ja_cons (j_bin op_addA pok_add (j_lc (own := [("cell", 4)]) (sl := [4]) (by decide) rfl sc__law_draw.nd (ji_seq (jv 0)) (blkOk_by (own := [("cell", 4)]) (N := N__law_draw) (sc := defScope s__law_draw) (by decide +kernel)) (fun _ _ _ _ _ => (jg_name (i := 4) sc__law_draw.nd rfl (by first | exact Or.inl rfl | exact Or.inr rfl))) (fun _ _ _ _ _ => jts_nil) (fun _ _ _ _ _ => (j_callB call_abs pok_abs (by rfl) T.z_abs (by decide +kernel) (ja_cons (jv 4) ja_nil)))) (j_lst (ja_cons j_int ja_nil))) ja_nil))))) js_nil)
    (js_cons (js_drop (j_append (jv 1) j_int))
    (js_cons (js_set (i := 3) sc__law_draw.nd rfl (by first | exact Or.inl rfl | exact Or.inr rfl) (j_callB call_len pok_len (by rfl) T.z_len (by decide +kernel) (ja_cons (jv 1) ja_nil)))
    (js_cons (js_set (i := 4) sc__law_draw.nd rfl (by first | exact Or.inl rfl | exact Or.inr rfl) (j_if (jt_tru (jv 0)) (j_ix ix_seq pok_ix (fun _ _ => rfl) (jv 0) (j_bin op_mod pok_mod (jv 3) (j_callB call_len pok_len (by rfl) T.z_len (by decide +kernel) (ja_cons (jv 0) ja_nil)))) j_int))
    (js_cons (js_set (i := 5) sc__law_draw.nd rfl (by first | exact Or.inl rfl | exact Or.inr rfl) (j_bin op_mod pok_mod (j_ix ix_seq pok_ix (fun _ _ => rfl) (jv 1) j_int) j_int))
    (js_cons (js_setIx (j_bin op_fdiv pok_fdiv (j_ix ix_seq pok_ix (fun _ _ => rfl) (jv 1) j_int) j_int) (jv 1) j_int)
    (js_cons (js_set (i := 6) sc__law_draw.nd rfl (by first | exact Or.inl rfl | exact Or.inr rfl) (j_bin op_mod pok_mod (j_bin op_addA pok_add (j_bin op_addA pok_add (jv 4) (j_bin op_mulA pok_mul j_int (jv 5))) (j_bin op_mulA pok_mul j_int (jv 3))) j_int))
    (js_cons (js_set (i := 6) sc__law_draw.nd rfl (by first | exact Or.inl rfl | exact Or.inr rfl) (j_bin op_mod pok_mod (j_bin op_mulA pok_mul (j_bin op_mod pok_mod (j_bin op_mulA pok_mul (jv 6) (jv 6)) j_int) j_int) j_int))
    (js_cons (js_set (i := 7) sc__law_draw.nd rfl (by first | exact Or.inl rfl | exact Or.inr rfl) (j_bin op_mod pok_mod (j_bin op_mulA pok_mul (j_bin op_mod pok_mod (j_bin op_mulA pok_mul (jv 6) (jv 6)) j_int) j_int) j_int))
    (js_one (js_ret (j_bin op_mod pok_mod (j_bin op_addA pok_add (j_bin op_mulA pok_mul (j_bin op_fdiv pok_fdiv (jv 6) j_int) j_int) (j_bin op_fdiv pok_fdiv (jv 7) j_int)) (jv 2)))))))))))))
theorem ok__law_drawn_rows (T : Tx K mg a__law_draw a__law_drawn_rows a__law_pick a_Looker___init__ a__law_same a_Looker_at_end a_first_at a_Looker_behind a_Looker_key a_Looker_opened a_Looker_go_to a_Looker_reach a_Looker_place a_Looker_looks a_Looker_further a_Looker_depth a__law_trie a__law_reach_holds a_Looker_up a__law_walked a_law C_Looker d__law_draw d__law_drawn_rows d__law_pick d_Looker___init__ d__law_same d_Looker_at_end d_first_at d_Looker_behind d_Looker_key d_Looker_opened d_Looker_go_to d_Looker_reach d_Looker_place d_Looker_looks d_Looker_further d_Looker_depth d__law_trie d__law_reach_holds d_Looker_up d__law_walked d_law) (fu : Nat) : FnOk P w K mg base (L2.CX P w) 2 a__law_drawn_rows d__law_drawn_rows P__law_drawn_rows (spD K mg 5 (F__law_drawn_rows fu)) := by
  refine fnT (N := N__law_drawn_rows) (b := m__law_drawn_rows fu) T.F__law_drawn_rows sc__law_drawn_rows fun cdv A outer s H E hr => ?_
  have tk : Takes (cxOf (L2.CX P w) P w K mg base N__law_drawn_rows "_law_drawn_rows" (defScope s__law_drawn_rows) a__law_drawn_rows cdv A outer s H E) (fun c d _ H => E c d H) := takes_of rfl rfl rfl rfl
  exact (js_cons (js_set (i := 5) sc__law_drawn_rows.nd rfl (by first | exact Or.inl rfl | exact Or.inr rfl) (j_lst ja_nil))
    (js_cons (js_for (passes_of rfl) rfl (ji_rng1 (by rfl) T.z_range (ja_cons (j_call (ok__law_draw T fu) (hr.mono (by decide)) (by rfl) T.g__law_draw T.F__law_draw.kp T.b__law_draw tk (ja_cons (jv 0) (ja_cons (jv 1) (ja_cons (j_bin op_addA pok_add (jv 3) j_int) ja_nil)))) ja_nil)) (jg_name (i := 6) sc__law_drawn_rows.nd rfl (by first | exact Or.inl rfl | exact Or.inr rfl)) (js_cons (js_set (i := 7) sc__law_drawn_rows.nd rfl (by first | exact Or.inl rfl | exact Or.inr rfl) (j_callT call_tuple_of pok_tup (by rfl) T.z_tuple (by decide +kernel) (ja_cons (j_lc (own := [("j", 8)]) (sl := [8]) (by decide) rfl sc__law_drawn_rows.nd (ji_rng1 (by rfl) T.z_range (ja_cons (jv 2) ja_nil)) (blkOk_by (own := [("j", 8)]) (N := N__law_drawn_rows) (sc := defScope s__law_drawn_rows) (by decide +kernel)) (fun _ _ _ _ _ => (jg_name (i := 8) sc__law_drawn_rows.nd rfl (by first | exact Or.inl rfl | exact Or.inr rfl))) (fun _ _ _ _ _ => jts_nil) (fun _ _ _ _ _ => (j_call (ok__law_draw T fu) (hr.mono (by decide)) (by rfl) T.g__law_draw T.F__law_draw.kp T.b__law_draw takes0 (ja_cons (jv 0) (ja_cons (jv 1) (ja_cons (jv 4) ja_nil)))))) ja_nil)))
    (js_one (js_set (i := 5) sc__law_drawn_rows.nd rfl (by first | exact Or.inl rfl | exact Or.inr rfl) (j_bin op_addA pok_add (jv 5) (j_bin op_mulA pok_mul (j_lst (ja_cons (jv 7) ja_nil)) (j_callT call_int1 pok_int (by rfl) T.z_int (by decide +kernel) (ja_cons (j_cmp (op_notInD (room65 hr)) pok_nin (by rfl) (jv 7) (jv 5)) ja_nil))))))))
    (js_one (js_ret (j_callT call_tuple_of pok_tup (by rfl) T.z_tuple (by decide +kernel) (ja_cons (j_callB cr_sortA pok_sort (by rfl) T.z_sorted (by decide +kernel) (ja_cons (jv 5) ja_nil)) ja_nil))))))
theorem ok__law_pick (T : Tx K mg a__law_draw a__law_drawn_rows a__law_pick a_Looker___init__ a__law_same a_Looker_at_end a_first_at a_Looker_behind a_Looker_key a_Looker_opened a_Looker_go_to a_Looker_reach a_Looker_place a_Looker_looks a_Looker_further a_Looker_depth a__law_trie a__law_reach_holds a_Looker_up a__law_walked a_law C_Looker d__law_draw d__law_drawn_rows d__law_pick d_Looker___init__ d__law_same d_Looker_at_end d_first_at d_Looker_behind d_Looker_key d_Looker_opened d_Looker_go_to d_Looker_reach d_Looker_place d_Looker_looks d_Looker_further d_Looker_depth d__law_trie d__law_reach_holds d_Looker_up d__law_walked d_law) (fu : Nat) : FnOk P w K mg base (L2.CX P w) 2 a__law_pick d__law_pick P__law_pick (spD K mg 3 (F__law_pick fu)) := by
  refine fnT (N := N__law_pick) (b := m__law_pick fu) T.F__law_pick sc__law_pick fun cdv A outer s H E hr => ?_
  have tk : Takes (cxOf (L2.CX P w) P w K mg base N__law_pick "_law_pick" (defScope s__law_pick) a__law_pick cdv A outer s H E) (fun c d _ H => E c d H) := takes_of rfl rfl rfl rfl
  exact (js_one (js_ret (j_ix ix_seq pok_ix (fun _ _ => rfl) (jv 2) (j_call (ok__law_draw T fu) (hr.mono (by decide)) (by rfl) T.g__law_draw T.F__law_draw.kp T.b__law_draw tk (ja_cons (jv 0) (ja_cons (jv 1) (ja_cons (j_callB call_len pok_len (by rfl) T.z_len (by decide +kernel) (ja_cons (jv 2) ja_nil)) ja_nil)))))))
theorem ok_Looker___init__ (T : Tx K mg a__law_draw a__law_drawn_rows a__law_pick a_Looker___init__ a__law_same a_Looker_at_end a_first_at a_Looker_behind a_Looker_key a_Looker_opened a_Looker_go_to a_Looker_reach a_Looker_place a_Looker_looks a_Looker_further a_Looker_depth a__law_trie a__law_reach_holds a_Looker_up a__law_walked a_law C_Looker d__law_draw d__law_drawn_rows d__law_pick d_Looker___init__ d__law_same d_Looker_at_end d_first_at d_Looker_behind d_Looker_key d_Looker_opened d_Looker_go_to d_Looker_reach d_Looker_place d_Looker_looks d_Looker_further d_Looker_depth d__law_trie d__law_reach_holds d_Looker_up d__law_walked d_law) (fu : Nat) : FnOk P w K mg base (L2.CX P w) 1 a_Looker___init__ d_Looker___init__ P_Looker___init__ (spD K mg 2 (F_Looker___init__ fu)) := by
  refine fnK (N := N_Looker___init__) (b := m_Looker___init__ fu) T.F_Looker___init__ sc_Looker___init__ fun cdv A outer s H E hr => ?_
  have tk : Takes (cxOf (L2.CX P w) P w K mg base N_Looker___init__ "Looker.__init__" (defScope s_Looker___init__) a_Looker___init__ cdv A outer s H E) (fun c d _ H => E c d H) := takes_of rfl rfl rfl rfl
  exact (js_cons (js_fld T.k_Looker T.n_Looker_rows (jv 0) (jv 1))
    (js_cons (js_fld T.k_Looker T.n_Looker_levels (jv 0) (j_newL ja_nil))
    (js_one (js_fld T.k_Looker T.n_Looker_many (jv 0) j_int))))
theorem ok__law_same (T : Tx K mg a__law_draw a__law_drawn_rows a__law_pick a_Looker___init__ a__law_same a_Looker_at_end a_first_at a_Looker_behind a_Looker_key a_Looker_opened a_Looker_go_to a_Looker_reach a_Looker_place a_Looker_looks a_Looker_further a_Looker_depth a__law_trie a__law_reach_holds a_Looker_up a__law_walked a_law C_Looker d__law_draw d__law_drawn_rows d__law_pick d_Looker___init__ d__law_same d_Looker_at_end d_first_at d_Looker_behind d_Looker_key d_Looker_opened d_Looker_go_to d_Looker_reach d_Looker_place d_Looker_looks d_Looker_further d_Looker_depth d__law_trie d__law_reach_holds d_Looker_up d__law_walked d_law) (fu : Nat) : ∀ n : Nat, FnOk P w K mg base (L2.CX P w) (1 + n) a__law_same d__law_same P__law_same (spD K mg 2 (F__law_same fu n))
  | 0 => fn_bad
  | n + 1 => by
    have ih := ok__law_same T fu n
    refine fnT (k := 1 + n) (N := N__law_same) (b := m__law_same fu (F__law_same fu n)) T.F__law_same sc__law_same fun cdv A outer s H E hr => ?_
    have tk : Takes (cxOf (L2.CX P w) P w K mg base N__law_same "_law_same" (defScope s__law_same) a__law_same cdv A outer s H E) (fun c d _ H => E c d H) := takes_of rfl rfl rfl rfl
    exact (js_cons (js_if (jt_cmp op_isN pok_isN (nomark _) (jv 1) j_non) (js_one (js_ret (j_cmp op_isN pok_isN (nomark _) (jv 0) j_non))) js_nil)
    (js_cons (js_if (jt_tru (j_callB call_isi pok_isi (by rfl) T.z_isinstance (by decide +kernel) (ja_cons (jv 1) (ja_cons (j_ty (by rfl) T.z_bool (by decide +kernel)) ja_nil)))) (js_one (js_ret (j_and (j_callB call_isi pok_isi (by rfl) T.z_isinstance (by decide +kernel) (ja_cons (jv 0) (ja_cons (j_ty (by rfl) T.z_bool (by decide +kernel)) ja_nil))) (j_one (j_cmp (op_eqA hr.units) pok_eq (nomark _) (jv 0) (jv 1)))))) js_nil)
    (js_cons (js_if (jt_tru (j_callB call_isi pok_isi (by rfl) T.z_isinstance (by decide +kernel) (ja_cons (jv 1) (ja_cons (j_ty (by rfl) T.z_tuple (by decide +kernel)) ja_nil)))) (js_cons (js_if (jw_pt (jw_or (jt_not (jt_tru (j_callB call_isi pok_isi (by rfl) T.z_isinstance (by decide +kernel) (ja_cons (jv 0) (ja_cons (j_ty (by rfl) T.z_tuple (by decide +kernel)) ja_nil))))) (jw_or1 (jt_cmp (op_neA hr.units) pok_ne (nomark _) (j_callB call_len pok_len (by rfl) T.z_len (by decide +kernel) (ja_cons (jv 0) ja_nil)) (j_callB call_len pok_len (by rfl) T.z_len (by decide +kernel) (ja_cons (jv 1) ja_nil)))))) (js_one (js_ret j_bl)) js_nil)
    (js_one (js_ret (j_callB (cr_all rfl) pok_all (by rfl) T.z_all (by decide +kernel) (ja_cons (j_lc (own := [("one", 2), ("other", 3)]) (sl := [2, 3]) (by decide) rfl sc__law_same.nd (ji_zip (by rfl) T.z_zip (ja_cons (jv 0) (ja_cons (jv 1) ja_nil))) (blkOk_by (own := [("one", 2), ("other", 3)]) (N := N__law_same) (sc := defScope s__law_same) (by decide +kernel)) (fun _ _ _ _ _ => (jg_tup rfl (jgs_cons (jg_name (i := 2) sc__law_same.nd rfl (by first | exact Or.inl rfl | exact Or.inr rfl)) (jgs_cons (jg_name (i := 3) sc__law_same.nd rfl (by first | exact Or.inl rfl | exact Or.inr rfl)) jgs_nil)))) (fun _ _ _ _ _ => jts_nil) (fun _ _ _ _ _ => (j_call ih (hr.mono (by omega)) (by rfl) T.g__law_same T.F__law_same.kp T.b__law_same takes0 (ja_cons (jv 2) (ja_cons (jv 3) ja_nil))))) ja_nil))))) js_nil)
    (js_cons (js_if (jt_tru (j_callB call_isi pok_isi (by rfl) T.z_isinstance (by decide +kernel) (ja_cons (jv 1) (ja_cons (j_ty (by rfl) T.z_str (by decide +kernel)) ja_nil)))) (js_one (js_ret (j_and (j_callB call_isi pok_isi (by rfl) T.z_isinstance (by decide +kernel) (ja_cons (jv 0) (ja_cons (j_ty (by rfl) T.z_str (by decide +kernel)) ja_nil))) (j_one (j_cmp (op_eqA hr.units) pok_eq (nomark _) (jv 0) (jv 1)))))) js_nil)
    (js_one (js_ret (j_and (j_callB call_isi pok_isi (by rfl) T.z_isinstance (by decide +kernel) (ja_cons (jv 0) (ja_cons (j_ty (by rfl) T.z_int (by decide +kernel)) ja_nil))) (j_and (j_not (j_callB call_isi pok_isi (by rfl) T.z_isinstance (by decide +kernel) (ja_cons (jv 0) (ja_cons (j_ty (by rfl) T.z_bool (by decide +kernel)) ja_nil)))) (j_one (j_cmp (op_eqA hr.units) pok_eq (nomark _) (jv 0) (jv 1)))))))))))
theorem ok_Looker_at_end (T : Tx K mg a__law_draw a__law_drawn_rows a__law_pick a_Looker___init__ a__law_same a_Looker_at_end a_first_at a_Looker_behind a_Looker_key a_Looker_opened a_Looker_go_to a_Looker_reach a_Looker_place a_Looker_looks a_Looker_further a_Looker_depth a__law_trie a__law_reach_holds a_Looker_up a__law_walked a_law C_Looker d__law_draw d__law_drawn_rows d__law_pick d_Looker___init__ d__law_same d_Looker_at_end d_first_at d_Looker_behind d_Looker_key d_Looker_opened d_Looker_go_to d_Looker_reach d_Looker_place d_Looker_looks d_Looker_further d_Looker_depth d__law_trie d__law_reach_holds d_Looker_up d__law_walked d_law) (fu : Nat) : FnOk P w K mg base (L2.CX P w) 1 a_Looker_at_end d_Looker_at_end P_Looker_at_end (spD K mg 1 (F_Looker_at_end fu)) := by
  refine fnT (N := N_Looker_at_end) (b := m_Looker_at_end fu) T.F_Looker_at_end sc_Looker_at_end fun cdv A outer s H E hr => ?_
  have tk : Takes (cxOf (L2.CX P w) P w K mg base N_Looker_at_end "Looker.at_end" (defScope s_Looker_at_end) a_Looker_at_end cdv A outer s H E) (fun c d _ H => E c d H) := takes_of rfl rfl rfl rfl
  exact (js_one (js_ret (j_and (j_cmp (op_neA hr.units) pok_ne (nomark _) (j_fld T.k_Looker T.n_Looker_levels (jv 0)) (j_lst ja_nil)) (j_one (j_cmp (op_eqA hr.units) pok_eq (nomark _) (j_ix ix_seq pok_ix (fun _ _ => rfl) (j_ix ix_seq pok_ix (fun _ _ => rfl) (j_fld T.k_Looker T.n_Looker_levels (jv 0)) (j_un un_neg pok_neg j_int)) j_int) (j_ix ix_seq pok_ix (fun _ _ => rfl) (j_ix ix_seq pok_ix (fun _ _ => rfl) (j_fld T.k_Looker T.n_Looker_levels (jv 0)) (j_un un_neg pok_neg j_int)) j_int))))))
theorem ok_first_at (T : Tx K mg a__law_draw a__law_drawn_rows a__law_pick a_Looker___init__ a__law_same a_Looker_at_end a_first_at a_Looker_behind a_Looker_key a_Looker_opened a_Looker_go_to a_Looker_reach a_Looker_place a_Looker_looks a_Looker_further a_Looker_depth a__law_trie a__law_reach_holds a_Looker_up a__law_walked a_law C_Looker d__law_draw d__law_drawn_rows d__law_pick d_Looker___init__ d__law_same d_Looker_at_end d_first_at d_Looker_behind d_Looker_key d_Looker_opened d_Looker_go_to d_Looker_reach d_Looker_place d_Looker_looks d_Looker_further d_Looker_depth d__law_trie d__law_reach_holds d_Looker_up d__law_walked d_law) (fu : Nat) : FnOk P w K mg base (L2.CX P w) 1 a_first_at d_first_at P_first_at (spD K mg 3 (F_first_at fu)) := by
  refine fnT (N := N_first_at) (b := m_first_at fu) T.F_first_at sc_first_at fun cdv A outer s H E hr => ?_
  have tk : Takes (cxOf (L2.CX P w) P w K mg base N_first_at "first_at" (defScope s_first_at) a_first_at cdv A outer s H E) (fun c d _ H => E c d H) := takes_of rfl rfl rfl rfl
  exact (js_cons (js_par (i := 3) (j := 4) rfl sc_first_at.nd rfl rfl (by decide) rfl rfl (ja_cons (jv 1) (ja_cons (j_callB call_len pok_len (by rfl) T.z_len (by decide +kernel) (ja_cons (jv 0) ja_nil)) ja_nil)) (by rfl))
    (js_cons (js_while fu (passes_of rfl) (jt_cmp op_ltA pok_lt (nomark _) (jv 3) (jv 4)) (js_cons (js_set (i := 5) sc_first_at.nd rfl (by first | exact Or.inl rfl | exact Or.inr rfl) (j_bin op_fdiv pok_fdiv (j_bin op_addA pok_add (jv 3) (jv 4)) j_int))
    (js_one (js_if (jt_cmp op_ltA pok_lt (nomark _) (j_ix ix_seq pok_ix (fun _ _ => rfl) (jv 0) (jv 5)) (jv 2)) (js_one (js_set (i := 3) sc_first_at.nd rfl (by first | exact Or.inl rfl | exact Or.inr rfl) (j_bin op_addA pok_add (jv 5) j_int))) (js_one (js_set (i := 4) sc_first_at.nd rfl (by first | exact Or.inl rfl | exact Or.inr rfl) (jv 5)))))))
    (js_one (js_ret (jv 3)))))
theorem ok_Looker_behind (T : Tx K mg a__law_draw a__law_drawn_rows a__law_pick a_Looker___init__ a__law_same a_Looker_at_end a_first_at a_Looker_behind a_Looker_key a_Looker_opened a_Looker_go_to a_Looker_reach a_Looker_place a_Looker_looks a_Looker_further a_Looker_depth a__law_trie a__law_reach_holds a_Looker_up a__law_walked a_law C_Looker d__law_draw d__law_drawn_rows d__law_pick d_Looker___init__ d__law_same d_Looker_at_end d_first_at d_Looker_behind d_Looker_key d_Looker_opened d_Looker_go_to d_Looker_reach d_Looker_place d_Looker_looks d_Looker_further d_Looker_depth d__law_trie d__law_reach_holds d_Looker_up d__law_walked d_law) (fu : Nat) : FnOk P w K mg base (L2.CX P w) 2 a_Looker_behind d_Looker_behind P_Looker_behind (spD K mg 2 (F_Looker_behind fu)) := by
  refine fnT (N := N_Looker_behind) (b := m_Looker_behind fu) T.F_Looker_behind sc_Looker_behind fun cdv A outer s H E hr => ?_
  have tk : Takes (cxOf (L2.CX P w) P w K mg base N_Looker_behind "Looker.behind" (defScope s_Looker_behind) a_Looker_behind cdv A outer s H E) (fun c d _ H => E c d H) := takes_of rfl rfl rfl rfl
  exact (js_cons (js_asg (j_ix ix_seq pok_ix (fun _ _ => rfl) (j_fld T.k_Looker T.n_Looker_levels (jv 0)) (j_un un_neg pok_neg j_int)) (jg_tup rfl (jgs_cons (jg_name (i := 3) sc_Looker_behind.nd rfl (by first | exact Or.inl rfl | exact Or.inr rfl)) (jgs_cons (jg_name (i := 4) sc_Looker_behind.nd rfl (by first | exact Or.inl rfl | exact Or.inr rfl)) (jgs_cons (jg_name (i := 5) sc_Looker_behind.nd rfl (by first | exact Or.inl rfl | exact Or.inr rfl)) jgs_nil)))))
    (js_cons (js_setLc (i := 2) (own := [("row", 6)]) (sl := [6]) (by decide) rfl sc_Looker_behind.nd rfl rfl (sw_true rfl rfl rfl (by decide +kernel)) (ji_seq (j_slice (j_fld T.k_Looker T.n_Looker_rows (jv 0)) jo_none (jo_some (jv 4)))) (blkOk_by (own := [("row", 6)]) (N := N_Looker_behind) (sc := defScope s_Looker_behind) (by decide +kernel)) (fun _ _ _ _ _ => (jg_name (i := 6) sc_Looker_behind.nd rfl (by first | exact Or.inl rfl | exact Or.inr rfl))) (fun _ _ _ _ _ => jts_nil) (fun _ _ _ _ _ => (j_ix ix_seq pok_ix (fun _ _ => rfl) (jv 6) (j_bin op_sub pok_sub (j_callB call_len pok_len (by rfl) T.z_len (by decide +kernel) (ja_cons (j_fld T.k_Looker T.n_Looker_levels (jv 0)) ja_nil)) j_int))))
    (js_one (js_ret (j_call (ok_first_at T fu) (hr.mono (by decide)) (by rfl) T.g_first_at T.F_first_at.kp T.b_first_at tk (ja_cons (jv 2) (ja_cons (jv 5) (ja_cons (j_bin op_addA pok_add (jv 1) j_int) ja_nil))))))))
theorem ok_Looker_key (T : Tx K mg a__law_draw a__law_drawn_rows a__law_pick a_Looker___init__ a__law_same a_Looker_at_end a_first_at a_Looker_behind a_Looker_key a_Looker_opened a_Looker_go_to a_Looker_reach a_Looker_place a_Looker_looks a_Looker_further a_Looker_depth a__law_trie a__law_reach_holds a_Looker_up a__law_walked a_law C_Looker d__law_draw d__law_drawn_rows d__law_pick d_Looker___init__ d__law_same d_Looker_at_end d_first_at d_Looker_behind d_Looker_key d_Looker_opened d_Looker_go_to d_Looker_reach d_Looker_place d_Looker_looks d_Looker_further d_Looker_depth d__law_trie d__law_reach_holds d_Looker_up d__law_walked d_law) (fu : Nat) : FnOk P w K mg base (L2.CX P w) 2 a_Looker_key d_Looker_key P_Looker_key (spD K mg 1 (F_Looker_key fu)) := by
  refine fnT (N := N_Looker_key) (b := m_Looker_key fu) T.F_Looker_key sc_Looker_key fun cdv A outer s H E hr => ?_
  have tk : Takes (cxOf (L2.CX P w) P w K mg base N_Looker_key "Looker.key" (defScope s_Looker_key) a_Looker_key cdv A outer s H E) (fun c d _ H => E c d H) := takes_of rfl rfl rfl rfl
  exact (js_cons (js_if (jw_pt (jw_or (jt_not (jt_tru (j_fld T.k_Looker T.n_Looker_levels (jv 0)))) (jw_or1 (jt_tru (j_meth0 T.k_Looker T.h_Looker_at_end (ok_Looker_at_end T fu) (hr.mono (by decide)) T.b_Looker_at_end tk (jv 0)))))) (js_one js_never) js_nil)
    (js_one (js_ret (j_ix ix_seq pok_ix (fun _ _ => rfl) (j_ix ix_seq pok_ix (fun _ _ => rfl) (j_fld T.k_Looker T.n_Looker_rows (jv 0)) (j_ix ix_seq pok_ix (fun _ _ => rfl) (j_ix ix_seq pok_ix (fun _ _ => rfl) (j_fld T.k_Looker T.n_Looker_levels (jv 0)) (j_un un_neg pok_neg j_int)) j_int)) (j_bin op_sub pok_sub (j_callB call_len pok_len (by rfl) T.z_len (by decide +kernel) (ja_cons (j_fld T.k_Looker T.n_Looker_levels (jv 0)) ja_nil)) j_int)))))
theorem ok_Looker_opened (T : Tx K mg a__law_draw a__law_drawn_rows a__law_pick a_Looker___init__ a__law_same a_Looker_at_end a_first_at a_Looker_behind a_Looker_key a_Looker_opened a_Looker_go_to a_Looker_reach a_Looker_place a_Looker_looks a_Looker_further a_Looker_depth a__law_trie a__law_reach_holds a_Looker_up a__law_walked a_law C_Looker d__law_draw d__law_drawn_rows d__law_pick d_Looker___init__ d__law_same d_Looker_at_end d_first_at d_Looker_behind d_Looker_key d_Looker_opened d_Looker_go_to d_Looker_reach d_Looker_place d_Looker_looks d_Looker_further d_Looker_depth d__law_trie d__law_reach_holds d_Looker_up d__law_walked d_law) (fu : Nat) : FnOk P w K mg base (L2.CX P w) 3 a_Looker_opened d_Looker_opened P_Looker_opened (spD K mg 1 (F_Looker_opened fu)) := by
  refine fnT (N := N_Looker_opened) (b := m_Looker_opened fu) T.F_Looker_opened sc_Looker_opened fun cdv A outer s H E hr => ?_
  have tk : Takes (cxOf (L2.CX P w) P w K mg base N_Looker_opened "Looker.opened" (defScope s_Looker_opened) a_Looker_opened cdv A outer s H E) (fun c d _ H => E c d H) := takes_of rfl rfl rfl rfl
  exact (js_cons (js_if (jw_pt (jw_or (jt_cmp (op_eqA hr.units) pok_eq (nomark _) (j_fld T.k_Looker T.n_Looker_rows (jv 0)) (j_tup ja_nil)) (jw_or (jt_tru (j_meth0 T.k_Looker T.h_Looker_at_end (ok_Looker_at_end T fu) (hr.mono (by decide)) T.b_Looker_at_end tk (jv 0))) (jw_or1 (jt_cmp (op_eqA hr.units) pok_eq (nomark _) (j_callB call_len pok_len (by rfl) T.z_len (by decide +kernel) (ja_cons (j_fld T.k_Looker T.n_Looker_levels (jv 0)) ja_nil)) (j_callB call_len pok_len (by rfl) T.z_len (by decide +kernel) (ja_cons (j_ix ix_seq pok_ix (fun _ _ => rfl) (j_fld T.k_Looker T.n_Looker_rows (jv 0)) j_int) ja_nil))))))) (js_one js_never) js_nil)
    (js_one (js_if (jt_tru (j_fld T.k_Looker T.n_Looker_levels (jv 0))) (js_cons (js_asg (j_ix ix_seq pok_ix (fun _ _ => rfl) (j_fld T.k_Looker T.n_Looker_levels (jv 0)) (j_un un_neg pok_neg j_int)) (jg_tup rfl (jgs_cons (jg_name (i := 1) sc_Looker_opened.nd rfl (by first | exact Or.inl rfl | exact Or.inr rfl)) (jgs_cons (jg_name (i := 2) sc_Looker_opened.nd rfl (by first | exact Or.inl rfl | exact Or.inr rfl)) (jgs_cons (jg_name (i := 3) sc_Looker_opened.nd rfl (by first | exact Or.inl rfl | exact Or.inr rfl)) jgs_nil)))))
    (js_one (js_drop (j_append (j_fld T.k_Looker T.n_Looker_levels (jv 0)) (j_tup (ja_cons (jv 3) (ja_cons (j_meth T.k_Looker T.h_Looker_behind (ok_Looker_behind T fu) (hr.mono (by decide)) T.b_Looker_behind tk (jv 0) (ja_cons (j_meth0 T.k_Looker T.h_Looker_key (ok_Looker_key T fu) (hr.mono (by decide)) T.b_Looker_key tk (jv 0)) ja_nil)) (ja_cons (jv 3) ja_nil)))))))) (js_one (js_drop (j_append (j_fld T.k_Looker T.n_Looker_levels (jv 0)) (j_tup (ja_cons j_int (ja_cons (j_callB call_len pok_len (by rfl) T.z_len (by decide +kernel) (ja_cons (j_fld T.k_Looker T.n_Looker_rows (jv 0)) ja_nil)) (ja_cons j_int ja_nil))))))))))
theorem ok_Looker_go_to (T : Tx K mg a__law_draw a__law_drawn_rows a__law_pick a_Looker___init__ a__law_same a_Looker_at_end a_first_at a_Looker_behind a_Looker_key a_Looker_opened a_Looker_go_to a_Looker_reach a_Looker_place a_Looker_looks a_Looker_further a_Looker_depth a__law_trie a__law_reach_holds a_Looker_up a__law_walked a_law C_Looker d__law_draw d__law_drawn_rows d__law_pick d_Looker___init__ d__law_same d_Looker_at_end d_first_at d_Looker_behind d_Looker_key d_Looker_opened d_Looker_go_to d_Looker_reach d_Looker_place d_Looker_looks d_Looker_further d_Looker_depth d__law_trie d__law_reach_holds d_Looker_up d__law_walked d_law) (fu : Nat) : FnOk P w K mg base (L2.CX P w) 1 a_Looker_go_to d_Looker_go_to P_Looker_go_to (spD K mg 2 (F_Looker_go_to fu)) := by
  refine fnT (N := N_Looker_go_to) (b := m_Looker_go_to fu) T.F_Looker_go_to sc_Looker_go_to fun cdv A outer s H E hr => ?_
  have tk : Takes (cxOf (L2.CX P w) P w K mg base N_Looker_go_to "Looker.go_to" (defScope s_Looker_go_to) a_Looker_go_to cdv A outer s H E) (fun c d _ H => E c d H) := takes_of rfl rfl rfl rfl
  exact (js_cons (js_asg (j_ix ix_seq pok_ix (fun _ _ => rfl) (j_fld T.k_Looker T.n_Looker_levels (jv 0)) (j_un un_neg pok_neg j_int)) (jg_tup rfl (jgs_cons (jg_name (i := 2) sc_Looker_go_to.nd rfl (by first | exact Or.inl rfl | exact Or.inr rfl)) (jgs_cons (jg_name (i := 3) sc_Looker_go_to.nd rfl (by first | exact Or.inl rfl | exact Or.inr rfl)) (jgs_cons (jg_name (i := 4) sc_Looker_go_to.nd rfl (by first | exact Or.inl rfl | exact Or.inr rfl)) jgs_nil)))))
    (js_cons (js_setIx (j_tup (ja_cons (jv 2) (ja_cons (jv 3) (ja_cons (jv 1) ja_nil)))) (j_fld T.k_Looker T.n_Looker_levels (jv 0)) (j_un un_neg pok_neg j_int))
    (js_one (js_fldAug T.k_Looker T.n_Looker_many in_add (jv 0) j_int))))
theorem ok_Looker_reach (T : Tx K mg a__law_draw a__law_drawn_rows a__law_pick a_Looker___init__ a__law_same a_Looker_at_end a_first_at a_Looker_behind a_Looker_key a_Looker_opened a_Looker_go_to a_Looker_reach a_Looker_place a_Looker_looks a_Looker_further a_Looker_depth a__law_trie a__law_reach_holds a_Looker_up a__law_walked a_law C_Looker d__law_draw d__law_drawn_rows d__law_pick d_Looker___init__ d__law_same d_Looker_at_end d_first_at d_Looker_behind d_Looker_key d_Looker_opened d_Looker_go_to d_Looker_reach d_Looker_place d_Looker_looks d_Looker_further d_Looker_depth d__law_trie d__law_reach_holds d_Looker_up d__law_walked d_law) (fu : Nat) : FnOk P w K mg base (L2.CX P w) 3 a_Looker_reach d_Looker_reach P_Looker_reach (spD K mg 2 (F_Looker_reach fu)) := by
  refine fnT (N := N_Looker_reach) (b := m_Looker_reach fu) T.F_Looker_reach sc_Looker_reach fun cdv A outer s H E hr => ?_
  have tk : Takes (cxOf (L2.CX P w) P w K mg base N_Looker_reach "Looker.reach" (defScope s_Looker_reach) a_Looker_reach cdv A outer s H E) (fun c d _ H => E c d H) := takes_of rfl rfl rfl rfl
  exact (js_one (js_if (jt_cmp op_ltA pok_lt (nomark _) (j_meth0 T.k_Looker T.h_Looker_key (ok_Looker_key T fu) (hr.mono (by decide)) T.b_Looker_key tk (jv 0)) (jv 1)) (js_one (js_drop (j_meth T.k_Looker T.h_Looker_go_to (ok_Looker_go_to T fu) (hr.mono (by decide)) T.b_Looker_go_to tk (jv 0) (ja_cons (j_meth T.k_Looker T.h_Looker_behind (ok_Looker_behind T fu) (hr.mono (by decide)) T.b_Looker_behind tk (jv 0) (ja_cons (j_bin op_sub pok_sub (jv 1) j_int) ja_nil)) ja_nil)))) (js_one (js_drop (j_meth T.k_Looker T.h_Looker_go_to (ok_Looker_go_to T fu) (hr.mono (by decide)) T.b_Looker_go_to tk (jv 0) (ja_cons (j_ix ix_seq pok_ix (fun _ _ => rfl) (j_ix ix_seq pok_ix (fun _ _ => rfl) (j_fld T.k_Looker T.n_Looker_levels (jv 0)) (j_un un_neg pok_neg j_int)) j_int) ja_nil))))))
theorem ok_Looker_place (T : Tx K mg a__law_draw a__law_drawn_rows a__law_pick a_Looker___init__ a__law_same a_Looker_at_end a_first_at a_Looker_behind a_Looker_key a_Looker_opened a_Looker_go_to a_Looker_reach a_Looker_place a_Looker_looks a_Looker_further a_Looker_depth a__law_trie a__law_reach_holds a_Looker_up a__law_walked a_law C_Looker d__law_draw d__law_drawn_rows d__law_pick d_Looker___init__ d__law_same d_Looker_at_end d_first_at d_Looker_behind d_Looker_key d_Looker_opened d_Looker_go_to d_Looker_reach d_Looker_place d_Looker_looks d_Looker_further d_Looker_depth d__law_trie d__law_reach_holds d_Looker_up d__law_walked d_law) (fu : Nat) : FnOk P w K mg base (L2.CX P w) 2 a_Looker_place d_Looker_place P_Looker_place (spD K mg 1 (F_Looker_place fu)) := by
  refine fnT (N := N_Looker_place) (b := m_Looker_place fu) T.F_Looker_place sc_Looker_place fun cdv A outer s H E hr => ?_
  have tk : Takes (cxOf (L2.CX P w) P w K mg base N_Looker_place "Looker.place" (defScope s_Looker_place) a_Looker_place cdv A outer s H E) (fun c d _ H => E c d H) := takes_of rfl rfl rfl rfl
  exact (js_cons (js_if (jt_not (jt_tru (j_fld T.k_Looker T.n_Looker_levels (jv 0)))) (js_one (js_ret (j_tup ja_nil))) js_nil)
    (js_cons (js_if (jt_tru (j_meth0 T.k_Looker T.h_Looker_at_end (ok_Looker_at_end T fu) (hr.mono (by decide)) T.b_Looker_at_end tk (jv 0))) (js_one (js_ret (j_slice (j_ix ix_seq pok_ix (fun _ _ => rfl) (j_fld T.k_Looker T.n_Looker_rows (jv 0)) (j_ix ix_seq pok_ix (fun _ _ => rfl) (j_ix ix_seq pok_ix (fun _ _ => rfl) (j_fld T.k_Looker T.n_Looker_levels (jv 0)) (j_un un_neg pok_neg j_int)) j_int)) jo_none (jo_some (j_bin op_sub pok_sub (j_callB call_len pok_len (by rfl) T.z_len (by decide +kernel) (ja_cons (j_fld T.k_Looker T.n_Looker_levels (jv 0)) ja_nil)) j_int))))) js_nil)
    (js_one (js_ret (j_slice (j_ix ix_seq pok_ix (fun _ _ => rfl) (j_fld T.k_Looker T.n_Looker_rows (jv 0)) (j_ix ix_seq pok_ix (fun _ _ => rfl) (j_ix ix_seq pok_ix (fun _ _ => rfl) (j_fld T.k_Looker T.n_Looker_levels (jv 0)) (j_un un_neg pok_neg j_int)) j_int)) jo_none (jo_some (j_callB call_len pok_len (by rfl) T.z_len (by decide +kernel) (ja_cons (j_fld T.k_Looker T.n_Looker_levels (jv 0)) ja_nil))))))))
theorem ok_Looker_looks (T : Tx K mg a__law_draw a__law_drawn_rows a__law_pick a_Looker___init__ a__law_same a_Looker_at_end a_first_at a_Looker_behind a_Looker_key a_Looker_opened a_Looker_go_to a_Looker_reach a_Looker_place a_Looker_looks a_Looker_further a_Looker_depth a__law_trie a__law_reach_holds a_Looker_up a__law_walked a_law C_Looker d__law_draw d__law_drawn_rows d__law_pick d_Looker___init__ d__law_same d_Looker_at_end d_first_at d_Looker_behind d_Looker_key d_Looker_opened d_Looker_go_to d_Looker_reach d_Looker_place d_Looker_looks d_Looker_further d_Looker_depth d__law_trie d__law_reach_holds d_Looker_up d__law_walked d_law) (fu : Nat) : FnOk P w K mg base (L2.CX P w) 1 a_Looker_looks d_Looker_looks P_Looker_looks (spD K mg 1 (F_Looker_looks fu)) := by
  refine fnT (N := N_Looker_looks) (b := m_Looker_looks fu) T.F_Looker_looks sc_Looker_looks fun cdv A outer s H E hr => ?_
  have tk : Takes (cxOf (L2.CX P w) P w K mg base N_Looker_looks "Looker.looks" (defScope s_Looker_looks) a_Looker_looks cdv A outer s H E) (fun c d _ H => E c d H) := takes_of rfl rfl rfl rfl
  exact (js_one (js_ret (j_fld T.k_Looker T.n_Looker_many (jv 0))))
theorem ok_Looker_further (T : Tx K mg a__law_draw a__law_drawn_rows a__law_pick a_Looker___init__ a__law_same a_Looker_at_end a_first_at a_Looker_behind a_Looker_key a_Looker_opened a_Looker_go_to a_Looker_reach a_Looker_place a_Looker_looks a_Looker_further a_Looker_depth a__law_trie a__law_reach_holds a_Looker_up a__law_walked a_law C_Looker d__law_draw d__law_drawn_rows d__law_pick d_Looker___init__ d__law_same d_Looker_at_end d_first_at d_Looker_behind d_Looker_key d_Looker_opened d_Looker_go_to d_Looker_reach d_Looker_place d_Looker_looks d_Looker_further d_Looker_depth d__law_trie d__law_reach_holds d_Looker_up d__law_walked d_law) (fu : Nat) : FnOk P w K mg base (L2.CX P w) 3 a_Looker_further d_Looker_further P_Looker_further (spD K mg 1 (F_Looker_further fu)) := by
  refine fnT (N := N_Looker_further) (b := m_Looker_further fu) T.F_Looker_further sc_Looker_further fun cdv A outer s H E hr => ?_
  have tk : Takes (cxOf (L2.CX P w) P w K mg base N_Looker_further "Looker.further" (defScope s_Looker_further) a_Looker_further cdv A outer s H E) (fun c d _ H => E c d H) := takes_of rfl rfl rfl rfl
  exact (js_one (js_drop (j_meth T.k_Looker T.h_Looker_go_to (ok_Looker_go_to T fu) (hr.mono (by decide)) T.b_Looker_go_to tk (jv 0) (ja_cons (j_meth T.k_Looker T.h_Looker_behind (ok_Looker_behind T fu) (hr.mono (by decide)) T.b_Looker_behind tk (jv 0) (ja_cons (j_meth0 T.k_Looker T.h_Looker_key (ok_Looker_key T fu) (hr.mono (by decide)) T.b_Looker_key tk (jv 0)) ja_nil)) ja_nil))))
theorem ok_Looker_depth (T : Tx K mg a__law_draw a__law_drawn_rows a__law_pick a_Looker___init__ a__law_same a_Looker_at_end a_first_at a_Looker_behind a_Looker_key a_Looker_opened a_Looker_go_to a_Looker_reach a_Looker_place a_Looker_looks a_Looker_further a_Looker_depth a__law_trie a__law_reach_holds a_Looker_up a__law_walked a_law C_Looker d__law_draw d__law_drawn_rows d__law_pick d_Looker___init__ d__law_same d_Looker_at_end d_first_at d_Looker_behind d_Looker_key d_Looker_opened d_Looker_go_to d_Looker_reach d_Looker_place d_Looker_looks d_Looker_further d_Looker_depth d__law_trie d__law_reach_holds d_Looker_up d__law_walked d_law) (fu : Nat) : FnOk P w K mg base (L2.CX P w) 1 a_Looker_depth d_Looker_depth P_Looker_depth (spD K mg 1 (F_Looker_depth fu)) := by
  refine fnT (N := N_Looker_depth) (b := m_Looker_depth fu) T.F_Looker_depth sc_Looker_depth fun cdv A outer s H E hr => ?_
  have tk : Takes (cxOf (L2.CX P w) P w K mg base N_Looker_depth "Looker.depth" (defScope s_Looker_depth) a_Looker_depth cdv A outer s H E) (fun c d _ H => E c d H) := takes_of rfl rfl rfl rfl
  exact (js_one (js_ret (j_callB call_len pok_len (by rfl) T.z_len (by decide +kernel) (ja_cons (j_fld T.k_Looker T.n_Looker_levels (jv 0)) ja_nil))))
theorem ok__law_trie (T : Tx K mg a__law_draw a__law_drawn_rows a__law_pick a_Looker___init__ a__law_same a_Looker_at_end a_first_at a_Looker_behind a_Looker_key a_Looker_opened a_Looker_go_to a_Looker_reach a_Looker_place a_Looker_looks a_Looker_further a_Looker_depth a__law_trie a__law_reach_holds a_Looker_up a__law_walked a_law C_Looker d__law_draw d__law_drawn_rows d__law_pick d_Looker___init__ d__law_same d_Looker_at_end d_first_at d_Looker_behind d_Looker_key d_Looker_opened d_Looker_go_to d_Looker_reach d_Looker_place d_Looker_looks d_Looker_further d_Looker_depth d__law_trie d__law_reach_holds d_Looker_up d__law_walked d_law) (fu : Nat) : FnOk P w K mg base (L2.CX P w) 1 a__law_trie d__law_trie P__law_trie (spD K mg 2 (F__law_trie fu)) := by
  refine fnT (N := N__law_trie) (b := m__law_trie fu) T.F__law_trie sc__law_trie fun cdv A outer s H E hr => ?_
  have tk : Takes (cxOf (L2.CX P w) P w K mg base N__law_trie "_law_trie" (defScope s__law_trie) a__law_trie cdv A outer s H E) (fun c d _ H => E c d H) := takes_of rfl rfl rfl rfl
  exact (js_one (js_ret (j_callBT (cr_sortedSet rfl) (cr_setI rfl) pok_sortSet (by rfl) T.z_sorted (by decide +kernel) (by rfl) T.z_set (by decide +kernel) (ja_cons (j_lc (own := [("row", 2)]) (sl := [2]) (by decide) rfl sc__law_trie.nd (ji_seq (jv 0)) (blkOk_by (own := [("row", 2)]) (N := N__law_trie) (sc := defScope s__law_trie) (by decide +kernel)) (fun _ _ _ _ _ => (jg_name (i := 2) sc__law_trie.nd rfl (by first | exact Or.inl rfl | exact Or.inr rfl))) (fun _ _ _ _ _ => (jts_one (jt_cmp (op_eqA hr.units) pok_eq (nomark _) (j_slice (jv 2) jo_none (jo_some (j_callB call_len pok_len (by rfl) T.z_len (by decide +kernel) (ja_cons (jv 1) ja_nil)))) (jv 1)))) (fun _ _ _ _ _ => (j_ix ix_seq pok_ix (fun _ _ => rfl) (jv 2) (j_callB call_len pok_len (by rfl) T.z_len (by decide +kernel) (ja_cons (jv 1) ja_nil))))) ja_nil))))
theorem ok__law_reach_holds (T : Tx K mg a__law_draw a__law_drawn_rows a__law_pick a_Looker___init__ a__law_same a_Looker_at_end a_first_at a_Looker_behind a_Looker_key a_Looker_opened a_Looker_go_to a_Looker_reach a_Looker_place a_Looker_looks a_Looker_further a_Looker_depth a__law_trie a__law_reach_holds a_Looker_up a__law_walked a_law C_Looker d__law_draw d__law_drawn_rows d__law_pick d_Looker___init__ d__law_same d_Looker_at_end d_first_at d_Looker_behind d_Looker_key d_Looker_opened d_Looker_go_to d_Looker_reach d_Looker_place d_Looker_looks d_Looker_further d_Looker_depth d__law_trie d__law_reach_holds d_Looker_up d__law_walked d_law) (fu : Nat) : FnOk P w K mg base (L2.CX P w) 4 a__law_reach_holds d__law_reach_holds P__law_reach_holds (spD K mg 4 (F__law_reach_holds fu)) := by
  refine fnT (N := N__law_reach_holds) (b := m__law_reach_holds fu) T.F__law_reach_holds sc__law_reach_holds fun cdv A outer s H E hr => ?_
  have tk : Takes (cxOf (L2.CX P w) P w K mg base N__law_reach_holds "_law_reach_holds" (defScope s__law_reach_holds) a__law_reach_holds cdv A outer s H E) (fun c d _ H => E c d H) := takes_of rfl rfl rfl rfl
  exact (js_cons (js_asg (j_tup (ja_cons (j_make T.k_Looker T.m_Looker (ok_Looker___init__ T fu) (hr.mono (by decide)) (by rfl) T.b_Looker___init__ (ja_cons (jv 2) ja_nil)) (ja_cons (j_make T.k_Looker T.m_Looker (ok_Looker___init__ T fu) (hr.mono (by decide)) (by rfl) T.b_Looker___init__ (ja_cons (jv 2) ja_nil)) (ja_cons j_int ja_nil)))) (jg_tup rfl (jgs_cons (jg_name (i := 5) sc__law_reach_holds.nd rfl (by first | exact Or.inl rfl | exact Or.inr rfl)) (jgs_cons (jg_name (i := 6) sc__law_reach_holds.nd rfl (by first | exact Or.inl rfl | exact Or.inr rfl)) (jgs_cons (jg_name (i := 7) sc__law_reach_holds.nd rfl (by first | exact Or.inl rfl | exact Or.inr rfl)) jgs_nil)))))
    (js_cons (js_for (passes_of rfl) rfl (ji_rng1 (by rfl) T.z_range (ja_cons (jv 3) ja_nil)) (jg_name (i := 4) sc__law_reach_holds.nd rfl (by first | exact Or.inl rfl | exact Or.inr rfl)) (js_cons (js_drop (j_meth0 T.k_Looker T.h_Looker_opened (ok_Looker_opened T fu) (hr.mono (by decide)) T.b_Looker_opened tk (jv 5)))
    (js_cons (js_drop (j_meth0 T.k_Looker T.h_Looker_opened (ok_Looker_opened T fu) (hr.mono (by decide)) T.b_Looker_opened tk (jv 6)))
    (js_cons (js_asg (j_tup (ja_cons (j_call (ok__law_draw T fu) (hr.mono (by decide)) (by rfl) T.g__law_draw T.F__law_draw.kp T.b__law_draw tk (ja_cons (jv 0) (ja_cons (jv 1) (ja_cons j_int ja_nil)))) (ja_cons (j_meth0 T.k_Looker T.h_Looker_looks (ok_Looker_looks T fu) (hr.mono (by decide)) T.b_Looker_looks tk (jv 6)) ja_nil))) (jg_tup rfl (jgs_cons (jg_name (i := 8) sc__law_reach_holds.nd rfl (by first | exact Or.inl rfl | exact Or.inr rfl)) (jgs_cons (jg_name (i := 9) sc__law_reach_holds.nd rfl (by first | exact Or.inl rfl | exact Or.inr rfl)) jgs_nil))))
    (js_cons (js_drop (j_meth T.k_Looker T.h_Looker_reach (ok_Looker_reach T fu) (hr.mono (by decide)) T.b_Looker_reach tk (jv 5) (ja_cons (jv 8) ja_nil)))
    (js_cons (js_set (i := 7) sc__law_reach_holds.nd rfl (by first | exact Or.inl rfl | exact Or.inr rfl) (j_bin op_addA pok_add (jv 7) j_int))
    (js_cons (js_while fu (passes_of rfl) (jw_pt (jw_and (jt_not (jt_tru (j_meth0 T.k_Looker T.h_Looker_at_end (ok_Looker_at_end T fu) (hr.mono (by decide)) T.b_Looker_at_end tk (jv 6)))) (jw_and1 (jt_cmp op_ltA pok_lt (nomark _) (j_meth0 T.k_Looker T.h_Looker_key (ok_Looker_key T fu) (hr.mono (by decide)) T.b_Looker_key tk (jv 6)) (jv 8))))) (js_one (js_drop (j_meth0 T.k_Looker T.h_Looker_further (ok_Looker_further T fu) (hr.mono (by decide)) T.b_Looker_further tk (jv 6)))))
    (js_cons (js_if (jt_cmp (op_neA hr.units) pok_ne (nomark _) (j_tup (ja_cons (j_meth0 T.k_Looker T.h_Looker_at_end (ok_Looker_at_end T fu) (hr.mono (by decide)) T.b_Looker_at_end tk (jv 5)) (ja_cons (j_meth0 T.k_Looker T.h_Looker_place (ok_Looker_place T fu) (hr.mono (by decide)) T.b_Looker_place tk (jv 5)) (ja_cons (j_meth0 T.k_Looker T.h_Looker_depth (ok_Looker_depth T fu) (hr.mono (by decide)) T.b_Looker_depth tk (jv 5)) ja_nil)))) (j_tup (ja_cons (j_meth0 T.k_Looker T.h_Looker_at_end (ok_Looker_at_end T fu) (hr.mono (by decide)) T.b_Looker_at_end tk (jv 6)) (ja_cons (j_meth0 T.k_Looker T.h_Looker_place (ok_Looker_place T fu) (hr.mono (by decide)) T.b_Looker_place tk (jv 6)) (ja_cons (j_meth0 T.k_Looker T.h_Looker_depth (ok_Looker_depth T fu) (hr.mono (by decide)) T.b_Looker_depth tk (jv 6)) ja_nil))))) (js_one (js_ret j_bl)) js_nil)
    (js_cons (js_if (jw_pt (jw_or (jt_cmp (op_neA hr.units) pok_ne (nomark _) (j_meth0 T.k_Looker T.h_Looker_looks (ok_Looker_looks T fu) (hr.mono (by decide)) T.b_Looker_looks tk (jv 5)) (jv 7)) (jw_or1 (jt_cmp op_ltA pok_lt (nomark _) (j_meth0 T.k_Looker T.h_Looker_looks (ok_Looker_looks T fu) (hr.mono (by decide)) T.b_Looker_looks tk (jv 6)) (jv 9))))) (js_one (js_ret j_bl)) js_nil)
    (js_cons (js_if (jt_tru (j_meth0 T.k_Looker T.h_Looker_at_end (ok_Looker_at_end T fu) (hr.mono (by decide)) T.b_Looker_at_end tk (jv 5))) (js_one (js_ret j_bl)) js_nil)
    (js_cons (js_if (jt_cmp op_ltA pok_lt (nomark _) (j_meth0 T.k_Looker T.h_Looker_key (ok_Looker_key T fu) (hr.mono (by decide)) T.b_Looker_key tk (jv 5)) (jv 8)) (js_one (js_ret j_bl)) js_nil)
    (js_one (js_if (jt_tru (j_lc (own := [("one", 10)]) (sl := [10]) (by decide) rfl sc__law_reach_holds.nd (ji_seq (j_call (ok__law_trie T fu) (hr.mono (by decide)) (by rfl) T.g__law_trie T.F__law_trie.kp T.b__law_trie tk (ja_cons (jv 2) (ja_cons (j_slice (j_meth0 T.k_Looker T.h_Looker_place (ok_Looker_place T fu) (hr.mono (by decide)) T.b_Looker_place tk (jv 5)) jo_none (jo_some (j_un un_neg pok_neg j_int))) ja_nil)))) (blkOk_by (own := [("one", 10)]) (N := N__law_reach_holds) (sc := defScope s__law_reach_holds) (by decide +kernel)) (fun _ _ _ _ _ => (jg_name (i := 10) sc__law_reach_holds.nd rfl (by first | exact Or.inl rfl | exact Or.inr rfl))) (fun _ _ _ _ _ => (jts_one (jt_chain op_leA pok_le op_ltA pok_lt (jv 8) (jv 10) (j_meth0 T.k_Looker T.h_Looker_key (ok_Looker_key T fu) (hr.mono (by decide)) T.b_Looker_key takes0 (jv 5))))) (fun _ _ _ _ _ => (jv 10)))) (js_one (js_ret j_bl)) js_nil)))))))))))))
    (js_one (js_ret (j_cmp (op_inD (room65 hr)) pok_in (by rfl) (j_meth0 T.k_Looker T.h_Looker_place (ok_Looker_place T fu) (hr.mono (by decide)) T.b_Looker_place tk (jv 5)) (j_callT call_list_of pok_lst (by rfl) T.z_list (by decide +kernel) (ja_cons (jv 2) ja_nil)))))))
theorem ok_Looker_up (T : Tx K mg a__law_draw a__law_drawn_rows a__law_pick a_Looker___init__ a__law_same a_Looker_at_end a_first_at a_Looker_behind a_Looker_key a_Looker_opened a_Looker_go_to a_Looker_reach a_Looker_place a_Looker_looks a_Looker_further a_Looker_depth a__law_trie a__law_reach_holds a_Looker_up a__law_walked a_law C_Looker d__law_draw d__law_drawn_rows d__law_pick d_Looker___init__ d__law_same d_Looker_at_end d_first_at d_Looker_behind d_Looker_key d_Looker_opened d_Looker_go_to d_Looker_reach d_Looker_place d_Looker_looks d_Looker_further d_Looker_depth d__law_trie d__law_reach_holds d_Looker_up d__law_walked d_law) (fu : Nat) : FnOk P w K mg base (L2.CX P w) 1 a_Looker_up d_Looker_up P_Looker_up (spD K mg 1 (F_Looker_up fu)) := by
  refine fnT (N := N_Looker_up) (b := m_Looker_up fu) T.F_Looker_up sc_Looker_up fun cdv A outer s H E hr => ?_
  have tk : Takes (cxOf (L2.CX P w) P w K mg base N_Looker_up "Looker.up" (defScope s_Looker_up) a_Looker_up cdv A outer s H E) (fun c d _ H => E c d H) := takes_of rfl rfl rfl rfl
  exact (js_cons (js_if (jt_not (jt_tru (j_fld T.k_Looker T.n_Looker_levels (jv 0)))) (js_one js_never) js_nil)
    (js_one (js_drop (j_pop (j_fld T.k_Looker T.n_Looker_levels (jv 0))))))
theorem ok__law_walked (T : Tx K mg a__law_draw a__law_drawn_rows a__law_pick a_Looker___init__ a__law_same a_Looker_at_end a_first_at a_Looker_behind a_Looker_key a_Looker_opened a_Looker_go_to a_Looker_reach a_Looker_place a_Looker_looks a_Looker_further a_Looker_depth a__law_trie a__law_reach_holds a_Looker_up a__law_walked a_law C_Looker d__law_draw d__law_drawn_rows d__law_pick d_Looker___init__ d__law_same d_Looker_at_end d_first_at d_Looker_behind d_Looker_key d_Looker_opened d_Looker_go_to d_Looker_reach d_Looker_place d_Looker_looks d_Looker_further d_Looker_depth d__law_trie d__law_reach_holds d_Looker_up d__law_walked d_law) (fu : Nat) : ∀ n : Nat, FnOk P w K mg base (L2.CX P w) (3 + n) a__law_walked d__law_walked P__law_walked (spD K mg 3 (F__law_walked fu n))
  | 0 => fn_bad
  | n + 1 => by
    have ih := ok__law_walked T fu n
    refine fnT (k := 3 + n) (N := N__law_walked) (b := m__law_walked fu (F__law_walked fu n)) T.F__law_walked sc__law_walked fun cdv A outer s H E hr => ?_
    have tk : Takes (cxOf (L2.CX P w) P w K mg base N__law_walked "_law_walked" (defScope s__law_walked) a__law_walked cdv A outer s H E) (fun c d _ H => E c d H) := takes_of rfl rfl rfl rfl
    exact (js_cons (js_par (i := 3) (j := 4) rfl sc__law_walked.nd rfl rfl (by decide) rfl rfl (ja_cons (j_newL ja_nil) (ja_cons (j_meth0 T.k_Looker T.h_Looker_place (ok_Looker_place T fu) (hr.mono (by omega)) T.b_Looker_place tk (jv 0)) ja_nil)) (by rfl))
    (js_cons (js_drop (j_meth0 T.k_Looker T.h_Looker_opened (ok_Looker_opened T fu) (hr.mono (by omega)) T.b_Looker_opened tk (jv 0)))
    (js_cons (js_par (i := 5) (j := 6) rfl sc__law_walked.nd rfl rfl (by decide) rfl rfl (ja_cons (j_call (ok__law_trie T fu) (hr.mono (by omega)) (by rfl) T.g__law_trie T.F__law_trie.kp T.b__law_trie tk (ja_cons (jv 1) (ja_cons (jv 4) ja_nil))) (ja_cons (j_newL ja_nil) ja_nil)) (by rfl))
    (js_cons (js_while fu (passes_of rfl) (jt_not (jt_tru (j_meth0 T.k_Looker T.h_Looker_at_end (ok_Looker_at_end T fu) (hr.mono (by omega)) T.b_Looker_at_end tk (jv 0)))) (js_cons (js_drop (j_append (jv 6) (j_meth0 T.k_Looker T.h_Looker_key (ok_Looker_key T fu) (hr.mono (by omega)) T.b_Looker_key tk (jv 0))))
    (js_cons (js_if (jt_cmp (op_neA hr.units) pok_ne (nomark _) (j_meth0 T.k_Looker T.h_Looker_place (ok_Looker_place T fu) (hr.mono (by omega)) T.b_Looker_place tk (jv 0)) (j_bin op_addA pok_add (jv 4) (j_tup (ja_cons (j_meth0 T.k_Looker T.h_Looker_key (ok_Looker_key T fu) (hr.mono (by omega)) T.b_Looker_key tk (jv 0)) ja_nil)))) (js_one (js_ret (j_lst ja_nil))) js_nil)
    (js_cons (js_if (jt_cmp (op_eqA hr.units) pok_eq (nomark _) (j_meth0 T.k_Looker T.h_Looker_depth (ok_Looker_depth T fu) (hr.mono (by omega)) T.b_Looker_depth tk (jv 0)) (jv 2)) (js_one (js_drop (j_append (jv 3) (j_meth0 T.k_Looker T.h_Looker_place (ok_Looker_place T fu) (hr.mono (by omega)) T.b_Looker_place tk (jv 0))))) (js_one (js_set (i := 3) sc__law_walked.nd rfl (by first | exact Or.inl rfl | exact Or.inr rfl) (j_binN op_addA pok_catN (jv 3) (j_call ih (hr.mono (by omega)) (by rfl) T.g__law_walked T.F__law_walked.kp T.b__law_walked tk (ja_cons (jv 0) (ja_cons (jv 1) (ja_cons (jv 2) ja_nil))))))))
    (js_one (js_drop (j_meth0 T.k_Looker T.h_Looker_further (ok_Looker_further T fu) (hr.mono (by omega)) T.b_Looker_further tk (jv 0))))))))
    (js_cons (js_if (jw_pt (jw_or (jt_cmp (op_neA hr.units) pok_ne (nomark _) (jv 6) (jv 5)) (jw_or1 (jt_cmp (op_neA hr.units) pok_ne (nomark _) (j_meth0 T.k_Looker T.h_Looker_place (ok_Looker_place T fu) (hr.mono (by omega)) T.b_Looker_place tk (jv 0)) (jv 4))))) (js_one (js_ret (j_lst ja_nil))) js_nil)
    (js_cons (js_drop (j_meth0 T.k_Looker T.h_Looker_up (ok_Looker_up T fu) (hr.mono (by omega)) T.b_Looker_up tk (jv 0)))
    (js_one (js_ret (j_if (jt_cmp (op_eqA hr.units) pok_eq (nomark _) (j_meth0 T.k_Looker T.h_Looker_place (ok_Looker_place T fu) (hr.mono (by omega)) T.b_Looker_place tk (jv 0)) (jv 4)) (jv 3) (j_lst ja_nil))))))))))
theorem ok_law (T : Tx K mg a__law_draw a__law_drawn_rows a__law_pick a_Looker___init__ a__law_same a_Looker_at_end a_first_at a_Looker_behind a_Looker_key a_Looker_opened a_Looker_go_to a_Looker_reach a_Looker_place a_Looker_looks a_Looker_further a_Looker_depth a__law_trie a__law_reach_holds a_Looker_up a__law_walked a_law C_Looker d__law_draw d__law_drawn_rows d__law_pick d_Looker___init__ d__law_same d_Looker_at_end d_first_at d_Looker_behind d_Looker_key d_Looker_opened d_Looker_go_to d_Looker_reach d_Looker_place d_Looker_looks d_Looker_further d_Looker_depth d__law_trie d__law_reach_holds d_Looker_up d__law_walked d_law) (fu : Nat) : FnOk P w K mg base (L2.CX P w) 9 a_law d_law P_law (spD K mg 1 (F_law fu)) := by
  refine fnT (N := N_law) (b := m_law fu) T.F_law sc_law fun cdv A outer s H E hr => ?_
  have tk : Takes (cxOf (L2.CX P w) P w K mg base N_law "law" (defScope s_law) a_law cdv A outer s H E) (fun c d _ H => E c d H) := takes_of rfl rfl rfl rfl
  exact (js_cons (js_set (i := 1) sc_law.nd rfl (by first | exact Or.inl rfl | exact Or.inr rfl) (j_newL ja_nil))
    (js_cons (js_for (passes_of rfl) rfl (ji_rng1 (by rfl) T.z_range (ja_cons j_int ja_nil)) (jg_name (i := 2) sc_law.nd rfl (by first | exact Or.inl rfl | exact Or.inr rfl)) (js_cons (js_set (i := 3) sc_law.nd rfl (by first | exact Or.inl rfl | exact Or.inr rfl) (j_bin op_addA pok_add j_int (j_call (ok__law_draw T fu) (hr.mono (by decide)) (by rfl) T.g__law_draw T.F__law_draw.kp T.b__law_draw tk (ja_cons (jv 0) (ja_cons (jv 1) (ja_cons j_int ja_nil))))))
    (js_cons (js_set (i := 4) sc_law.nd rfl (by first | exact Or.inl rfl | exact Or.inr rfl) (j_call (ok__law_drawn_rows T fu) (hr.mono (by decide)) (by rfl) T.g__law_drawn_rows T.F__law_drawn_rows.kp T.b__law_drawn_rows tk (ja_cons (jv 0) (ja_cons (jv 1) (ja_cons (jv 3) (ja_cons j_int (ja_cons (j_call (ok__law_pick T fu) (hr.mono (by decide)) (by rfl) T.g__law_pick T.F__law_pick.kp T.b__law_pick tk (ja_cons (jv 0) (ja_cons (jv 1) (ja_cons (j_lst (ja_cons j_int (ja_cons j_int ja_nil))) ja_nil)))) ja_nil)))))))
    (js_one (js_if (jt_tru (jv 4)) (js_cons (js_set (i := 5) sc_law.nd rfl (by first | exact Or.inl rfl | exact Or.inr rfl) (j_make T.k_Looker T.m_Looker (ok_Looker___init__ T fu) (hr.mono (by decide)) (by rfl) T.b_Looker___init__ (ja_cons (jv 4) ja_nil)))
    (js_cons (js_if (jt_not (jt_tru (j_call (ok__law_same T fu 4) (hr.mono (by decide)) (by rfl) T.g__law_same T.F__law_same.kp T.b__law_same tk (ja_cons (j_callT call_tuple_of pok_tup (by rfl) T.z_tuple (by decide +kernel) (ja_cons (j_call (ok__law_walked T fu 5) (hr.mono (by decide)) (by rfl) T.g__law_walked T.F__law_walked.kp T.b__law_walked tk (ja_cons (jv 5) (ja_cons (jv 4) (ja_cons (jv 3) ja_nil)))) ja_nil)) (ja_cons (jv 4) ja_nil))))) (js_one (js_ret j_bl)) js_nil)
    (js_cons (js_if (jw_pt (jw_or (jt_cmp (op_neA hr.units) pok_ne (nomark _) (j_meth0 T.k_Looker T.h_Looker_depth (ok_Looker_depth T fu) (hr.mono (by decide)) T.b_Looker_depth tk (jv 5)) j_int) (jw_or1 (jt_cmp (op_neA hr.units) pok_ne (nomark _) (j_meth0 T.k_Looker T.h_Looker_place (ok_Looker_place T fu) (hr.mono (by decide)) T.b_Looker_place tk (jv 5)) (j_tup ja_nil))))) (js_one (js_ret j_bl)) js_nil)
    (js_cons (js_if (jt_not (jt_tru (j_call (ok__law_reach_holds T fu) (hr.mono (by decide)) (by rfl) T.g__law_reach_holds T.F__law_reach_holds.kp T.b__law_reach_holds tk (ja_cons (jv 0) (ja_cons (jv 1) (ja_cons (jv 4) (ja_cons (jv 3) ja_nil))))))) (js_one (js_ret j_bl)) js_nil)
    (js_cons (js_set (i := 6) sc_law.nd rfl (by first | exact Or.inl rfl | exact Or.inr rfl) (j_lst ja_nil))
    (js_cons (js_for (passes_of rfl) rfl (ji_seq (jv 4)) (jg_name (i := 7) sc_law.nd rfl (by first | exact Or.inl rfl | exact Or.inr rfl)) (js_one (js_set (i := 6) sc_law.nd rfl (by first | exact Or.inl rfl | exact Or.inr rfl) (j_bin op_addA pok_add (jv 6) (j_lc (own := [("deep", 8)]) (sl := [8]) (by decide) rfl sc_law.nd (ji_rng2 (by rfl) T.z_range (ja_cons j_int (ja_cons (j_bin op_addA pok_add (jv 3) j_int) ja_nil))) (blkOk_by (own := [("deep", 8)]) (N := N_law) (sc := defScope s_law) (by decide +kernel)) (fun _ _ _ _ _ => (jg_name (i := 8) sc_law.nd rfl (by first | exact Or.inl rfl | exact Or.inr rfl))) (fun _ _ _ _ _ => (jts_one (jt_cmp (op_notInD (room65 hr)) pok_nin (by rfl) (j_slice (jv 7) jo_none (jo_some (jv 8))) (jv 6)))) (fun _ _ _ _ _ => (j_slice (jv 7) jo_none (jo_some (jv 8)))))))))
    (js_one (js_if (jt_cmp (op_neA hr.units) pok_ne (nomark _) (j_meth0 T.k_Looker T.h_Looker_looks (ok_Looker_looks T fu) (hr.mono (by decide)) T.b_Looker_looks tk (jv 5)) (j_callB call_len pok_len (by rfl) T.z_len (by decide +kernel) (ja_cons (jv 6) ja_nil))) (js_one (js_ret j_bl)) js_nil)))))))) js_nil)))))
    (js_one (js_ret j_bl))))
end
end Law
namespace Law
open PySem L2 Dv
/-! ### the end -/
theorem all_mk {l : PySem.W.OpenLaw} {w : World} {K : PySem.W.Frag} {h : Heap} {mg : Str → Option Value} {fa a__law_draw a__law_drawn_rows a__law_pick a_Looker___init__ a__law_same a_Looker_at_end a_first_at a_Looker_behind a_Looker_key a_Looker_opened a_Looker_go_to a_Looker_reach a_Looker_place a_Looker_looks a_Looker_further a_Looker_depth a__law_trie a__law_reach_holds a_Looker_up a__law_walked a_law C_Looker : Addr} (X : K.In h) (G : h.Ns mainGlobals mg) (hfa : mg "law" = some (.ref fa))
    {oc__law_draw kV__law_draw dc__law_draw pm__law_draw cd__law_draw ct__law_draw : Value} {od__law_draw an__law_draw : Option Addr} {sl__law_draw : Array (Option Value)}
    {oc__law_drawn_rows kV__law_drawn_rows dc__law_drawn_rows pm__law_drawn_rows cd__law_drawn_rows ct__law_drawn_rows : Value} {od__law_drawn_rows an__law_drawn_rows : Option Addr} {sl__law_drawn_rows : Array (Option Value)}
    {oc__law_pick kV__law_pick dc__law_pick pm__law_pick cd__law_pick ct__law_pick : Value} {od__law_pick an__law_pick : Option Addr} {sl__law_pick : Array (Option Value)}
    {oc_Looker___init__ kV_Looker___init__ dc_Looker___init__ pm_Looker___init__ cd_Looker___init__ ct_Looker___init__ : Value} {od_Looker___init__ an_Looker___init__ : Option Addr} {sl_Looker___init__ : Array (Option Value)}
    {oc__law_same kV__law_same dc__law_same pm__law_same cd__law_same ct__law_same : Value} {od__law_same an__law_same : Option Addr} {sl__law_same : Array (Option Value)}
    {oc_Looker_at_end kV_Looker_at_end dc_Looker_at_end pm_Looker_at_end cd_Looker_at_end ct_Looker_at_end : Value} {od_Looker_at_end an_Looker_at_end : Option Addr} {sl_Looker_at_end : Array (Option Value)}
    {oc_first_at kV_first_at dc_first_at pm_first_at cd_first_at ct_first_at : Value} {od_first_at an_first_at : Option Addr} {sl_first_at : Array (Option Value)}
    {oc_Looker_behind kV_Looker_behind dc_Looker_behind pm_Looker_behind cd_Looker_behind ct_Looker_behind : Value} {od_Looker_behind an_Looker_behind : Option Addr} {sl_Looker_behind : Array (Option Value)}
    {oc_Looker_key kV_Looker_key dc_Looker_key pm_Looker_key cd_Looker_key ct_Looker_key : Value} {od_Looker_key an_Looker_key : Option Addr} {sl_Looker_key : Array (Option Value)}
    {oc_Looker_opened kV_Looker_opened dc_Looker_opened pm_Looker_opened cd_Looker_opened ct_Looker_opened : Value} {od_Looker_opened an_Looker_opened : Option Addr} {sl_Looker_opened : Array (Option Value)}
    {oc_Looker_go_to kV_Looker_go_to dc_Looker_go_to pm_Looker_go_to cd_Looker_go_to ct_Looker_go_to : Value} {od_Looker_go_to an_Looker_go_to : Option Addr} {sl_Looker_go_to : Array (Option Value)}
    {oc_Looker_reach kV_Looker_reach dc_Looker_reach pm_Looker_reach cd_Looker_reach ct_Looker_reach : Value} {od_Looker_reach an_Looker_reach : Option Addr} {sl_Looker_reach : Array (Option Value)}
    {oc_Looker_place kV_Looker_place dc_Looker_place pm_Looker_place cd_Looker_place ct_Looker_place : Value} {od_Looker_place an_Looker_place : Option Addr} {sl_Looker_place : Array (Option Value)}
    {oc_Looker_looks kV_Looker_looks dc_Looker_looks pm_Looker_looks cd_Looker_looks ct_Looker_looks : Value} {od_Looker_looks an_Looker_looks : Option Addr} {sl_Looker_looks : Array (Option Value)}
    {oc_Looker_further kV_Looker_further dc_Looker_further pm_Looker_further cd_Looker_further ct_Looker_further : Value} {od_Looker_further an_Looker_further : Option Addr} {sl_Looker_further : Array (Option Value)}
    {oc_Looker_depth kV_Looker_depth dc_Looker_depth pm_Looker_depth cd_Looker_depth ct_Looker_depth : Value} {od_Looker_depth an_Looker_depth : Option Addr} {sl_Looker_depth : Array (Option Value)}
    {oc__law_trie kV__law_trie dc__law_trie pm__law_trie cd__law_trie ct__law_trie : Value} {od__law_trie an__law_trie : Option Addr} {sl__law_trie : Array (Option Value)}
    {oc__law_reach_holds kV__law_reach_holds dc__law_reach_holds pm__law_reach_holds cd__law_reach_holds ct__law_reach_holds : Value} {od__law_reach_holds an__law_reach_holds : Option Addr} {sl__law_reach_holds : Array (Option Value)}
    {oc_Looker_up kV_Looker_up dc_Looker_up pm_Looker_up cd_Looker_up ct_Looker_up : Value} {od_Looker_up an_Looker_up : Option Addr} {sl_Looker_up : Array (Option Value)}
    {oc__law_walked kV__law_walked dc__law_walked pm__law_walked cd__law_walked ct__law_walked : Value} {od__law_walked an__law_walked : Option Addr} {sl__law_walked : Array (Option Value)}
    {oc_law kV_law dc_law pm_law cd_law ct_law : Value} {od_law an_law : Option Addr} {sl_law : Array (Option Value)}
    (aC_Looker : PySem.W.nsIn K mainGlobals "Looker" = some (some (.ref C_Looker)))
    (pg_Looker : PySem.W.plainGet K C_Looker Str.empty = true)
    (hd_Looker : PySem.W.hasDictIn K C_Looker = true)
    (po_Looker : PySem.W.plainOver K C_Looker = true)
    (sa_Looker : PySem.W.findIn K (.ref C_Looker) "__setattr__" = some (some (.builtin "object.__setattr__")))
    (mk_Looker : PySem.W.makesIn K C_Looker = true)
    (kc_Looker : PySem.W.keepIn K (.ref C_Looker) = true)
    (a1__law_draw : PySem.W.nsIn K mainGlobals "_law_draw" = some (some (.ref a__law_draw)))
    (l1__law_draw : K.lookup a__law_draw = some ⟨oc__law_draw, od__law_draw, .func (PySem.W.fnOf "_law_draw" "_law_draw" (defArgs s__law_draw) (defBody s__law_draw) (defScope s__law_draw) .none kV__law_draw dc__law_draw pm__law_draw an__law_draw cd__law_draw ct__law_draw), sl__law_draw⟩)
    (c1__law_draw : PySem.W.codeIn K cd__law_draw "_law_draw" = true)
    (k1__law_draw : PySem.W.keepIn K (.ref a__law_draw) = true)
    (a1__law_drawn_rows : PySem.W.nsIn K mainGlobals "_law_drawn_rows" = some (some (.ref a__law_drawn_rows)))
    (l1__law_drawn_rows : K.lookup a__law_drawn_rows = some ⟨oc__law_drawn_rows, od__law_drawn_rows, .func (PySem.W.fnOf "_law_drawn_rows" "_law_drawn_rows" (defArgs s__law_drawn_rows) (defBody s__law_drawn_rows) (defScope s__law_drawn_rows) .none kV__law_drawn_rows dc__law_drawn_rows pm__law_drawn_rows an__law_drawn_rows cd__law_drawn_rows ct__law_drawn_rows), sl__law_drawn_rows⟩)
    (c1__law_drawn_rows : PySem.W.codeIn K cd__law_drawn_rows "_law_drawn_rows" = true)
    (k1__law_drawn_rows : PySem.W.keepIn K (.ref a__law_drawn_rows) = true)
    (a1__law_pick : PySem.W.nsIn K mainGlobals "_law_pick" = some (some (.ref a__law_pick)))
    (l1__law_pick : K.lookup a__law_pick = some ⟨oc__law_pick, od__law_pick, .func (PySem.W.fnOf "_law_pick" "_law_pick" (defArgs s__law_pick) (defBody s__law_pick) (defScope s__law_pick) .none kV__law_pick dc__law_pick pm__law_pick an__law_pick cd__law_pick ct__law_pick), sl__law_pick⟩)
    (c1__law_pick : PySem.W.codeIn K cd__law_pick "_law_pick" = true)
    (k1__law_pick : PySem.W.keepIn K (.ref a__law_pick) = true)
    (a1_Looker___init__ : PySem.W.findIn K (.ref C_Looker) "__init__" = some (some (.ref a_Looker___init__)))
    (i1_Looker___init__ : PySem.W.isFn K (.ref a_Looker___init__) = true)
    (l1_Looker___init__ : K.lookup a_Looker___init__ = some ⟨oc_Looker___init__, od_Looker___init__, .func (PySem.W.fnOf "__init__" "Looker.__init__" (defArgs s_Looker___init__) (defBody s_Looker___init__) (defScope s_Looker___init__) .none kV_Looker___init__ dc_Looker___init__ pm_Looker___init__ an_Looker___init__ cd_Looker___init__ ct_Looker___init__), sl_Looker___init__⟩)
    (c1_Looker___init__ : PySem.W.codeIn K cd_Looker___init__ "Looker.__init__" = true)
    (k1_Looker___init__ : PySem.W.keepIn K (.ref a_Looker___init__) = true)
    (a1__law_same : PySem.W.nsIn K mainGlobals "_law_same" = some (some (.ref a__law_same)))
    (l1__law_same : K.lookup a__law_same = some ⟨oc__law_same, od__law_same, .func (PySem.W.fnOf "_law_same" "_law_same" (defArgs s__law_same) (defBody s__law_same) (defScope s__law_same) .none kV__law_same dc__law_same pm__law_same an__law_same cd__law_same ct__law_same), sl__law_same⟩)
    (c1__law_same : PySem.W.codeIn K cd__law_same "_law_same" = true)
    (k1__law_same : PySem.W.keepIn K (.ref a__law_same) = true)
    (a1_Looker_at_end : PySem.W.findIn K (.ref C_Looker) "at_end" = some (some (.ref a_Looker_at_end)))
    (i1_Looker_at_end : PySem.W.isFn K (.ref a_Looker_at_end) = true)
    (l1_Looker_at_end : K.lookup a_Looker_at_end = some ⟨oc_Looker_at_end, od_Looker_at_end, .func (PySem.W.fnOf "at_end" "Looker.at_end" (defArgs s_Looker_at_end) (defBody s_Looker_at_end) (defScope s_Looker_at_end) .none kV_Looker_at_end dc_Looker_at_end pm_Looker_at_end an_Looker_at_end cd_Looker_at_end ct_Looker_at_end), sl_Looker_at_end⟩)
    (c1_Looker_at_end : PySem.W.codeIn K cd_Looker_at_end "Looker.at_end" = true)
    (k1_Looker_at_end : PySem.W.keepIn K (.ref a_Looker_at_end) = true)
    (a1_first_at : PySem.W.nsIn K mainGlobals "first_at" = some (some (.ref a_first_at)))
    (l1_first_at : K.lookup a_first_at = some ⟨oc_first_at, od_first_at, .func (PySem.W.fnOf "first_at" "first_at" (defArgs s_first_at) (defBody s_first_at) (defScope s_first_at) .none kV_first_at dc_first_at pm_first_at an_first_at cd_first_at ct_first_at), sl_first_at⟩)
    (c1_first_at : PySem.W.codeIn K cd_first_at "first_at" = true)
    (k1_first_at : PySem.W.keepIn K (.ref a_first_at) = true)
    (a1_Looker_behind : PySem.W.findIn K (.ref C_Looker) "behind" = some (some (.ref a_Looker_behind)))
    (i1_Looker_behind : PySem.W.isFn K (.ref a_Looker_behind) = true)
    (l1_Looker_behind : K.lookup a_Looker_behind = some ⟨oc_Looker_behind, od_Looker_behind, .func (PySem.W.fnOf "behind" "Looker.behind" (defArgs s_Looker_behind) (defBody s_Looker_behind) (defScope s_Looker_behind) .none kV_Looker_behind dc_Looker_behind pm_Looker_behind an_Looker_behind cd_Looker_behind ct_Looker_behind), sl_Looker_behind⟩)
    (c1_Looker_behind : PySem.W.codeIn K cd_Looker_behind "Looker.behind" = true)
    (k1_Looker_behind : PySem.W.keepIn K (.ref a_Looker_behind) = true)
    (a1_Looker_key : PySem.W.findIn K (.ref C_Looker) "key" = some (some (.ref a_Looker_key)))
    (i1_Looker_key : PySem.W.isFn K (.ref a_Looker_key) = true)
    (l1_Looker_key : K.lookup a_Looker_key = some ⟨oc_Looker_key, od_Looker_key, .func (PySem.W.fnOf "key" "Looker.key" (defArgs s_Looker_key) (defBody s_Looker_key) (defScope s_Looker_key) .none kV_Looker_key dc_Looker_key pm_Looker_key an_Looker_key cd_Looker_key ct_Looker_key), sl_Looker_key⟩)
    (c1_Looker_key : PySem.W.codeIn K cd_Looker_key "Looker.key" = true)
    (k1_Looker_key : PySem.W.keepIn K (.ref a_Looker_key) = true)
    (a1_Looker_opened : PySem.W.findIn K (.ref C_Looker) "opened" = some (some (.ref a_Looker_opened)))
    (i1_Looker_opened : PySem.W.isFn K (.ref a_Looker_opened) = true)
    (l1_Looker_opened : K.lookup a_Looker_opened = some ⟨oc_Looker_opened, od_Looker_opened, .func (PySem.W.fnOf "opened" "Looker.opened" (defArgs s_Looker_opened) (defBody s_Looker_opened) (defScope s_Looker_opened) .none kV_Looker_opened dc_Looker_opened pm_Looker_opened an_Looker_opened cd_Looker_opened ct_Looker_opened), sl_Looker_opened⟩)
    (c1_Looker_opened : PySem.W.codeIn K cd_Looker_opened "Looker.opened" = true)
    (k1_Looker_opened : PySem.W.keepIn K (.ref a_Looker_opened) = true)
    (a1_Looker_go_to : PySem.W.findIn K (.ref C_Looker) "go_to" = some (some (.ref a_Looker_go_to)))
    (i1_Looker_go_to : PySem.W.isFn K (.ref a_Looker_go_to) = true)
    (l1_Looker_go_to : K.lookup a_Looker_go_to = some ⟨oc_Looker_go_to, od_Looker_go_to, .func (PySem.W.fnOf "go_to" "Looker.go_to" (defArgs s_Looker_go_to) (defBody s_Looker_go_to) (defScope s_Looker_go_to) .none kV_Looker_go_to dc_Looker_go_to pm_Looker_go_to an_Looker_go_to cd_Looker_go_to ct_Looker_go_to), sl_Looker_go_to⟩)
    (c1_Looker_go_to : PySem.W.codeIn K cd_Looker_go_to "Looker.go_to" = true)
    (k1_Looker_go_to : PySem.W.keepIn K (.ref a_Looker_go_to) = true)
    (a1_Looker_reach : PySem.W.findIn K (.ref C_Looker) "reach" = some (some (.ref a_Looker_reach)))
    (i1_Looker_reach : PySem.W.isFn K (.ref a_Looker_reach) = true)
    (l1_Looker_reach : K.lookup a_Looker_reach = some ⟨oc_Looker_reach, od_Looker_reach, .func (PySem.W.fnOf "reach" "Looker.reach" (defArgs s_Looker_reach) (defBody s_Looker_reach) (defScope s_Looker_reach) .none kV_Looker_reach dc_Looker_reach pm_Looker_reach an_Looker_reach cd_Looker_reach ct_Looker_reach), sl_Looker_reach⟩)
    (c1_Looker_reach : PySem.W.codeIn K cd_Looker_reach "Looker.reach" = true)
    (k1_Looker_reach : PySem.W.keepIn K (.ref a_Looker_reach) = true)
    (a1_Looker_place : PySem.W.findIn K (.ref C_Looker) "place" = some (some (.ref a_Looker_place)))
    (i1_Looker_place : PySem.W.isFn K (.ref a_Looker_place) = true)
    (l1_Looker_place : K.lookup a_Looker_place = some ⟨oc_Looker_place, od_Looker_place, .func (PySem.W.fnOf "place" "Looker.place" (defArgs s_Looker_place) (defBody s_Looker_place) (defScope s_Looker_place) .none kV_Looker_place dc_Looker_place pm_Looker_place an_Looker_place cd_Looker_place ct_Looker_place), sl_Looker_place⟩)
    (c1_Looker_place : PySem.W.codeIn K cd_Looker_place "Looker.place" = true)
    (k1_Looker_place : PySem.W.keepIn K (.ref a_Looker_place) = true)
    (a1_Looker_looks : PySem.W.findIn K (.ref C_Looker) "looks" = some (some (.ref a_Looker_looks)))
    (i1_Looker_looks : PySem.W.isFn K (.ref a_Looker_looks) = true)
    (l1_Looker_looks : K.lookup a_Looker_looks = some ⟨oc_Looker_looks, od_Looker_looks, .func (PySem.W.fnOf "looks" "Looker.looks" (defArgs s_Looker_looks) (defBody s_Looker_looks) (defScope s_Looker_looks) .none kV_Looker_looks dc_Looker_looks pm_Looker_looks an_Looker_looks cd_Looker_looks ct_Looker_looks), sl_Looker_looks⟩)
    (c1_Looker_looks : PySem.W.codeIn K cd_Looker_looks "Looker.looks" = true)
    (k1_Looker_looks : PySem.W.keepIn K (.ref a_Looker_looks) = true)
    (a1_Looker_further : PySem.W.findIn K (.ref C_Looker) "further" = some (some (.ref a_Looker_further)))
    (i1_Looker_further : PySem.W.isFn K (.ref a_Looker_further) = true)
    (l1_Looker_further : K.lookup a_Looker_further = some ⟨oc_Looker_further, od_Looker_further, .func (PySem.W.fnOf "further" "Looker.further" (defArgs s_Looker_further) (defBody s_Looker_further) (defScope s_Looker_further) .none kV_Looker_further dc_Looker_further pm_Looker_further an_Looker_further cd_Looker_further ct_Looker_further), sl_Looker_further⟩)
    (c1_Looker_further : PySem.W.codeIn K cd_Looker_further "Looker.further" = true)
    (k1_Looker_further : PySem.W.keepIn K (.ref a_Looker_further) = true)
    (a1_Looker_depth : PySem.W.findIn K (.ref C_Looker) "depth" = some (some (.ref a_Looker_depth)))
    (i1_Looker_depth : PySem.W.isFn K (.ref a_Looker_depth) = true)
    (l1_Looker_depth : K.lookup a_Looker_depth = some ⟨oc_Looker_depth, od_Looker_depth, .func (PySem.W.fnOf "depth" "Looker.depth" (defArgs s_Looker_depth) (defBody s_Looker_depth) (defScope s_Looker_depth) .none kV_Looker_depth dc_Looker_depth pm_Looker_depth an_Looker_depth cd_Looker_depth ct_Looker_depth), sl_Looker_depth⟩)
    (c1_Looker_depth : PySem.W.codeIn K cd_Looker_depth "Looker.depth" = true)
    (k1_Looker_depth : PySem.W.keepIn K (.ref a_Looker_depth) = true)
    (a1__law_trie : PySem.W.nsIn K mainGlobals "_law_trie" = some (some (.ref a__law_trie)))
    (l1__law_trie : K.lookup a__law_trie = some ⟨oc__law_trie, od__law_trie, .func (PySem.W.fnOf "_law_trie" "_law_trie" (defArgs s__law_trie) (defBody s__law_trie) (defScope s__law_trie) .none kV__law_trie dc__law_trie pm__law_trie an__law_trie cd__law_trie ct__law_trie), sl__law_trie⟩)
    (c1__law_trie : PySem.W.codeIn K cd__law_trie "_law_trie" = true)
    (k1__law_trie : PySem.W.keepIn K (.ref a__law_trie) = true)
    (a1__law_reach_holds : PySem.W.nsIn K mainGlobals "_law_reach_holds" = some (some (.ref a__law_reach_holds)))
    (l1__law_reach_holds : K.lookup a__law_reach_holds = some ⟨oc__law_reach_holds, od__law_reach_holds, .func (PySem.W.fnOf "_law_reach_holds" "_law_reach_holds" (defArgs s__law_reach_holds) (defBody s__law_reach_holds) (defScope s__law_reach_holds) .none kV__law_reach_holds dc__law_reach_holds pm__law_reach_holds an__law_reach_holds cd__law_reach_holds ct__law_reach_holds), sl__law_reach_holds⟩)
    (c1__law_reach_holds : PySem.W.codeIn K cd__law_reach_holds "_law_reach_holds" = true)
    (k1__law_reach_holds : PySem.W.keepIn K (.ref a__law_reach_holds) = true)
    (a1_Looker_up : PySem.W.findIn K (.ref C_Looker) "up" = some (some (.ref a_Looker_up)))
    (i1_Looker_up : PySem.W.isFn K (.ref a_Looker_up) = true)
    (l1_Looker_up : K.lookup a_Looker_up = some ⟨oc_Looker_up, od_Looker_up, .func (PySem.W.fnOf "up" "Looker.up" (defArgs s_Looker_up) (defBody s_Looker_up) (defScope s_Looker_up) .none kV_Looker_up dc_Looker_up pm_Looker_up an_Looker_up cd_Looker_up ct_Looker_up), sl_Looker_up⟩)
    (c1_Looker_up : PySem.W.codeIn K cd_Looker_up "Looker.up" = true)
    (k1_Looker_up : PySem.W.keepIn K (.ref a_Looker_up) = true)
    (a1__law_walked : PySem.W.nsIn K mainGlobals "_law_walked" = some (some (.ref a__law_walked)))
    (l1__law_walked : K.lookup a__law_walked = some ⟨oc__law_walked, od__law_walked, .func (PySem.W.fnOf "_law_walked" "_law_walked" (defArgs s__law_walked) (defBody s__law_walked) (defScope s__law_walked) .none kV__law_walked dc__law_walked pm__law_walked an__law_walked cd__law_walked ct__law_walked), sl__law_walked⟩)
    (c1__law_walked : PySem.W.codeIn K cd__law_walked "_law_walked" = true)
    (k1__law_walked : PySem.W.keepIn K (.ref a__law_walked) = true)
    (a1_law : PySem.W.nsIn K mainGlobals "law" = some (some (.ref a_law)))
    (l1_law : K.lookup a_law = some ⟨oc_law, od_law, .func (PySem.W.fnOf "law" "law" (defArgs s_law) (defBody s_law) (defScope s_law) .none kV_law dc_law pm_law an_law cd_law ct_law), sl_law⟩)
    (c1_law : PySem.W.codeIn K cd_law "law" = true)
    (k1_law : PySem.W.keepIn K (.ref a_law) = true)
    (n1_Looker_levels : PySem.W.findIn K (.ref C_Looker) "levels" = some none)
    (n1_Looker_many : PySem.W.findIn K (.ref C_Looker) "many" = some none)
    (n1_Looker_rows : PySem.W.findIn K (.ref C_Looker) "rows" = some none)
    (z1_abs : PySem.W.nsIn K mainGlobals "abs" = some none)
    (z1_all : PySem.W.nsIn K mainGlobals "all" = some none)
    (z1_bool : PySem.W.nsIn K mainGlobals "bool" = some none)
    (z1_int : PySem.W.nsIn K mainGlobals "int" = some none)
    (z1_isinstance : PySem.W.nsIn K mainGlobals "isinstance" = some none)
    (z1_len : PySem.W.nsIn K mainGlobals "len" = some none)
    (z1_list : PySem.W.nsIn K mainGlobals "list" = some none)
    (z1_max : PySem.W.nsIn K mainGlobals "max" = some none)
    (z1_range : PySem.W.nsIn K mainGlobals "range" = some none)
    (z1_set : PySem.W.nsIn K mainGlobals "set" = some none)
    (z1_sorted : PySem.W.nsIn K mainGlobals "sorted" = some none)
    (z1_str : PySem.W.nsIn K mainGlobals "str" = some none)
    (z1_tuple : PySem.W.nsIn K mainGlobals "tuple" = some none)
    (z1_zip : PySem.W.nsIn K mainGlobals "zip" = some none)
    : ∃ fd : FuncData, (∀ (s : Shared) (v : Value), BindsTo s fd ⟨[v], []⟩ [("script", v)]) ∧ ∀ base : Heap, K.In base → base.Ns mainGlobals mg → FnOk l.prog w K mg base (L2.CX l.prog w) 9 fa fd ["script"] (spLaw K) := by
  have e := hfa.symm.trans (PySem.W.mg_of X G a1_law)
  cases e
  have F__law_draw := fun_mk (st := s__law_draw) l1__law_draw c1__law_draw k1__law_draw
  have b__law_draw : Binds K _ P__law_draw [] := F__law_draw.binds (ps := P__law_draw) fun _ _ _ _ _ _ us hl => match us, hl with | [_, _, _], _ => rfl
  have F__law_drawn_rows := fun_mk (st := s__law_drawn_rows) l1__law_drawn_rows c1__law_drawn_rows k1__law_drawn_rows
  have b__law_drawn_rows : Binds K _ P__law_drawn_rows [] := F__law_drawn_rows.binds (ps := P__law_drawn_rows) fun _ _ _ _ _ _ us hl => match us, hl with | [_, _, _, _, _], _ => rfl
  have F__law_pick := fun_mk (st := s__law_pick) l1__law_pick c1__law_pick k1__law_pick
  have b__law_pick : Binds K _ P__law_pick [] := F__law_pick.binds (ps := P__law_pick) fun _ _ _ _ _ _ us hl => match us, hl with | [_, _, _], _ => rfl
  have F_Looker___init__ := fun_mk (st := s_Looker___init__) l1_Looker___init__ c1_Looker___init__ k1_Looker___init__
  have b_Looker___init__ : Binds K _ P_Looker___init__ [] := F_Looker___init__.binds (ps := P_Looker___init__) fun _ _ _ _ _ _ us hl => match us, hl with | [_, _], _ => rfl
  have F__law_same := fun_mk (st := s__law_same) l1__law_same c1__law_same k1__law_same
  have b__law_same : Binds K _ P__law_same [] := F__law_same.binds (ps := P__law_same) fun _ _ _ _ _ _ us hl => match us, hl with | [_, _], _ => rfl
  have F_Looker_at_end := fun_mk (st := s_Looker_at_end) l1_Looker_at_end c1_Looker_at_end k1_Looker_at_end
  have b_Looker_at_end : Binds K _ P_Looker_at_end [] := F_Looker_at_end.binds (ps := P_Looker_at_end) fun _ _ _ _ _ _ us hl => match us, hl with | [_], _ => rfl
  have F_first_at := fun_mk (st := s_first_at) l1_first_at c1_first_at k1_first_at
  have b_first_at : Binds K _ P_first_at [] := F_first_at.binds (ps := P_first_at) fun _ _ _ _ _ _ us hl => match us, hl with | [_, _, _], _ => rfl
  have F_Looker_behind := fun_mk (st := s_Looker_behind) l1_Looker_behind c1_Looker_behind k1_Looker_behind
  have b_Looker_behind : Binds K _ P_Looker_behind [] := F_Looker_behind.binds (ps := P_Looker_behind) fun _ _ _ _ _ _ us hl => match us, hl with | [_, _], _ => rfl
  have F_Looker_key := fun_mk (st := s_Looker_key) l1_Looker_key c1_Looker_key k1_Looker_key
  have b_Looker_key : Binds K _ P_Looker_key [] := F_Looker_key.binds (ps := P_Looker_key) fun _ _ _ _ _ _ us hl => match us, hl with | [_], _ => rfl
  have F_Looker_opened := fun_mk (st := s_Looker_opened) l1_Looker_opened c1_Looker_opened k1_Looker_opened
  have b_Looker_opened : Binds K _ P_Looker_opened [] := F_Looker_opened.binds (ps := P_Looker_opened) fun _ _ _ _ _ _ us hl => match us, hl with | [_], _ => rfl
  have F_Looker_go_to := fun_mk (st := s_Looker_go_to) l1_Looker_go_to c1_Looker_go_to k1_Looker_go_to
  have b_Looker_go_to : Binds K _ P_Looker_go_to [] := F_Looker_go_to.binds (ps := P_Looker_go_to) fun _ _ _ _ _ _ us hl => match us, hl with | [_, _], _ => rfl
  have F_Looker_reach := fun_mk (st := s_Looker_reach) l1_Looker_reach c1_Looker_reach k1_Looker_reach
  have b_Looker_reach : Binds K _ P_Looker_reach [] := F_Looker_reach.binds (ps := P_Looker_reach) fun _ _ _ _ _ _ us hl => match us, hl with | [_, _], _ => rfl
  have F_Looker_place := fun_mk (st := s_Looker_place) l1_Looker_place c1_Looker_place k1_Looker_place
  have b_Looker_place : Binds K _ P_Looker_place [] := F_Looker_place.binds (ps := P_Looker_place) fun _ _ _ _ _ _ us hl => match us, hl with | [_], _ => rfl
  have F_Looker_looks := fun_mk (st := s_Looker_looks) l1_Looker_looks c1_Looker_looks k1_Looker_looks
  have b_Looker_looks : Binds K _ P_Looker_looks [] := F_Looker_looks.binds (ps := P_Looker_looks) fun _ _ _ _ _ _ us hl => match us, hl with | [_], _ => rfl
  have F_Looker_further := fun_mk (st := s_Looker_further) l1_Looker_further c1_Looker_further k1_Looker_further
  have b_Looker_further : Binds K _ P_Looker_further [] := F_Looker_further.binds (ps := P_Looker_further) fun _ _ _ _ _ _ us hl => match us, hl with | [_], _ => rfl
  have F_Looker_depth := fun_mk (st := s_Looker_depth) l1_Looker_depth c1_Looker_depth k1_Looker_depth
  have b_Looker_depth : Binds K _ P_Looker_depth [] := F_Looker_depth.binds (ps := P_Looker_depth) fun _ _ _ _ _ _ us hl => match us, hl with | [_], _ => rfl
  have F__law_trie := fun_mk (st := s__law_trie) l1__law_trie c1__law_trie k1__law_trie
  have b__law_trie : Binds K _ P__law_trie [] := F__law_trie.binds (ps := P__law_trie) fun _ _ _ _ _ _ us hl => match us, hl with | [_, _], _ => rfl
  have F__law_reach_holds := fun_mk (st := s__law_reach_holds) l1__law_reach_holds c1__law_reach_holds k1__law_reach_holds
  have b__law_reach_holds : Binds K _ P__law_reach_holds [] := F__law_reach_holds.binds (ps := P__law_reach_holds) fun _ _ _ _ _ _ us hl => match us, hl with | [_, _, _, _], _ => rfl
  have F_Looker_up := fun_mk (st := s_Looker_up) l1_Looker_up c1_Looker_up k1_Looker_up
  have b_Looker_up : Binds K _ P_Looker_up [] := F_Looker_up.binds (ps := P_Looker_up) fun _ _ _ _ _ _ us hl => match us, hl with | [_], _ => rfl
  have F__law_walked := fun_mk (st := s__law_walked) l1__law_walked c1__law_walked k1__law_walked
  have b__law_walked : Binds K _ P__law_walked [] := F__law_walked.binds (ps := P__law_walked) fun _ _ _ _ _ _ us hl => match us, hl with | [_, _, _], _ => rfl
  have F_law := fun_mk (st := s_law) l1_law c1_law k1_law
  have b_law : Binds K _ P_law [] := F_law.binds (ps := P_law) fun _ _ _ _ _ _ us hl => match us, hl with | [_], _ => rfl
  have T : Tx K mg a__law_draw a__law_drawn_rows a__law_pick a_Looker___init__ a__law_same a_Looker_at_end a_first_at a_Looker_behind a_Looker_key a_Looker_opened a_Looker_go_to a_Looker_reach a_Looker_place a_Looker_looks a_Looker_further a_Looker_depth a__law_trie a__law_reach_holds a_Looker_up a__law_walked fa C_Looker _ _ _ _ _ _ _ _ _ _ _ _ _ _ _ _ _ _ _ _ _ := ⟨PySem.W.mg_none_of X G z1_abs,
    PySem.W.mg_none_of X G z1_all,
    PySem.W.mg_none_of X G z1_bool,
    PySem.W.mg_none_of X G z1_int,
    PySem.W.mg_none_of X G z1_isinstance,
    PySem.W.mg_none_of X G z1_len,
    PySem.W.mg_none_of X G z1_list,
    PySem.W.mg_none_of X G z1_max,
    PySem.W.mg_none_of X G z1_range,
    PySem.W.mg_none_of X G z1_set,
    PySem.W.mg_none_of X G z1_sorted,
    PySem.W.mg_none_of X G z1_str,
    PySem.W.mg_none_of X G z1_tuple,
    PySem.W.mg_none_of X G z1_zip,
    ⟨PySem.W.mg_of X G aC_Looker, ⟨pg_Looker, hd_Looker, po_Looker, sa_Looker⟩⟩,
    ⟨mk_Looker, a1_Looker___init__, i1_Looker___init__, kc_Looker⟩,
    n1_Looker_levels,
    n1_Looker_many,
    n1_Looker_rows,
    F__law_draw,
    b__law_draw,
    PySem.W.mg_of X G a1__law_draw,
    F__law_drawn_rows,
    b__law_drawn_rows,
    PySem.W.mg_of X G a1__law_drawn_rows,
    F__law_pick,
    b__law_pick,
    PySem.W.mg_of X G a1__law_pick,
    F_Looker___init__,
    b_Looker___init__,
    F__law_same,
    b__law_same,
    PySem.W.mg_of X G a1__law_same,
    F_Looker_at_end,
    b_Looker_at_end,
    ⟨a1_Looker_at_end, i1_Looker_at_end, k1_Looker_at_end⟩,
    F_first_at,
    b_first_at,
    PySem.W.mg_of X G a1_first_at,
    F_Looker_behind,
    b_Looker_behind,
    ⟨a1_Looker_behind, i1_Looker_behind, k1_Looker_behind⟩,
    F_Looker_key,
    b_Looker_key,
    ⟨a1_Looker_key, i1_Looker_key, k1_Looker_key⟩,
    F_Looker_opened,
    b_Looker_opened,
    ⟨a1_Looker_opened, i1_Looker_opened, k1_Looker_opened⟩,
    F_Looker_go_to,
    b_Looker_go_to,
    ⟨a1_Looker_go_to, i1_Looker_go_to, k1_Looker_go_to⟩,
    F_Looker_reach,
    b_Looker_reach,
    ⟨a1_Looker_reach, i1_Looker_reach, k1_Looker_reach⟩,
    F_Looker_place,
    b_Looker_place,
    ⟨a1_Looker_place, i1_Looker_place, k1_Looker_place⟩,
    F_Looker_looks,
    b_Looker_looks,
    ⟨a1_Looker_looks, i1_Looker_looks, k1_Looker_looks⟩,
    F_Looker_further,
    b_Looker_further,
    ⟨a1_Looker_further, i1_Looker_further, k1_Looker_further⟩,
    F_Looker_depth,
    b_Looker_depth,
    ⟨a1_Looker_depth, i1_Looker_depth, k1_Looker_depth⟩,
    F__law_trie,
    b__law_trie,
    PySem.W.mg_of X G a1__law_trie,
    F__law_reach_holds,
    b__law_reach_holds,
    PySem.W.mg_of X G a1__law_reach_holds,
    F_Looker_up,
    b_Looker_up,
    ⟨a1_Looker_up, i1_Looker_up, k1_Looker_up⟩,
    F__law_walked,
    b__law_walked,
    PySem.W.mg_of X G a1__law_walked,
    F_law,
    b_law,
    PySem.W.mg_of X G a1_law⟩
  refine ⟨PySem.W.fnOf "law" "law" (defArgs s_law) (defBody s_law) (defScope s_law) .none kV_law dc_law pm_law an_law cd_law ct_law, fun s v => .of_eq rfl, fun base _ _ => ?_⟩
  exact law_fn (fun fu => ok_law T fu) law_true
end Law
open PySem PySem.W PyProof.Rows in
set_option maxRecDepth 100000 in
set_option maxHeartbeats 0 in
theorem PySem.Challenge.cw_meetloft_k07_whole_lookers_walked_holds : PySem.Challenge.rw_meetloft_k07_whole_lookers_walked.Holds := by
  w_on; o_law; k_head; (case hw => w_witness2)
  k_fill
  refine L2.walk_of (l := PySem.Challenge.rw_meetloft_k07_whole_lookers_walked) (n := 63) (k := 9) (x := "script") (CX := fun w => L2.CX PySem.Challenge.pw_meetloft_k07_whole_lookers_walked w) (sp := fun w => Dv.spLaw _) rfl (by decide) rfl ⟨rfl, by decide, by decide⟩ (fun w h Y => PySem.W.kIn_of Y) ?F (fun w H a ns hl hO hS => Dv.sp_start hl hS) (fun w H s e s' z => Dv.no_exc z)
  case F =>
    intro w mg fa h KX G hmg
    refine' Law.all_mk KX G hmg ?aC_Looker ?pg_Looker ?hd_Looker ?po_Looker ?sa_Looker ?mk_Looker ?kc_Looker ?a1__law_draw ?l1__law_draw ?c1__law_draw ?k1__law_draw ?a1__law_drawn_rows ?l1__law_drawn_rows ?c1__law_drawn_rows ?k1__law_drawn_rows ?a1__law_pick ?l1__law_pick ?c1__law_pick ?k1__law_pick ?a1_Looker___init__ ?i1_Looker___init__ ?l1_Looker___init__ ?c1_Looker___init__ ?k1_Looker___init__ ?a1__law_same ?l1__law_same ?c1__law_same ?k1__law_same ?a1_Looker_at_end ?i1_Looker_at_end ?l1_Looker_at_end ?c1_Looker_at_end ?k1_Looker_at_end ?a1_first_at ?l1_first_at ?c1_first_at ?k1_first_at ?a1_Looker_behind ?i1_Looker_behind ?l1_Looker_behind ?c1_Looker_behind ?k1_Looker_behind ?a1_Looker_key ?i1_Looker_key ?l1_Looker_key ?c1_Looker_key ?k1_Looker_key ?a1_Looker_opened ?i1_Looker_opened ?l1_Looker_opened ?c1_Looker_opened ?k1_Looker_opened ?a1_Looker_go_to ?i1_Looker_go_to ?l1_Looker_go_to ?c1_Looker_go_to ?k1_Looker_go_to ?a1_Looker_reach ?i1_Looker_reach ?l1_Looker_reach ?c1_Looker_reach ?k1_Looker_reach ?a1_Looker_place ?i1_Looker_place ?l1_Looker_place ?c1_Looker_place ?k1_Looker_place ?a1_Looker_looks ?i1_Looker_looks ?l1_Looker_looks ?c1_Looker_looks ?k1_Looker_looks ?a1_Looker_further ?i1_Looker_further ?l1_Looker_further ?c1_Looker_further ?k1_Looker_further ?a1_Looker_depth ?i1_Looker_depth ?l1_Looker_depth ?c1_Looker_depth ?k1_Looker_depth ?a1__law_trie ?l1__law_trie ?c1__law_trie ?k1__law_trie ?a1__law_reach_holds ?l1__law_reach_holds ?c1__law_reach_holds ?k1__law_reach_holds ?a1_Looker_up ?i1_Looker_up ?l1_Looker_up ?c1_Looker_up ?k1_Looker_up ?a1__law_walked ?l1__law_walked ?c1__law_walked ?k1__law_walked ?a1_law ?l1_law ?c1_law ?k1_law ?n1_Looker_levels ?n1_Looker_many ?n1_Looker_rows ?z1_abs ?z1_all ?z1_bool ?z1_int ?z1_isinstance ?z1_len ?z1_list ?z1_max ?z1_range ?z1_set ?z1_sorted ?z1_str ?z1_tuple ?z1_zip
    (case aC_Looker => k_is)
    (case pg_Looker => k_is)
    (case hd_Looker => k_is)
    (case po_Looker => k_is)
    (case sa_Looker => k_is)
    (case mk_Looker => k_is)
    (case kc_Looker => k_is)
    (case a1__law_draw => k_is)
    (case l1__law_draw => k_is)
    (case c1__law_draw => k_is)
    (case k1__law_draw => k_is)
    (case a1__law_drawn_rows => k_is)
    (case l1__law_drawn_rows => k_is)
    (case c1__law_drawn_rows => k_is)
    (case k1__law_drawn_rows => k_is)
    (case a1__law_pick => k_is)
    (case l1__law_pick => k_is)
    (case c1__law_pick => k_is)
    (case k1__law_pick => k_is)
    (case a1_Looker___init__ => k_is)
    (case i1_Looker___init__ => k_is)
    (case l1_Looker___init__ => k_is)
    (case c1_Looker___init__ => k_is)
    (case k1_Looker___init__ => k_is)
    (case a1__law_same => k_is)
    (case l1__law_same => k_is)
    (case c1__law_same => k_is)
    (case k1__law_same => k_is)
    (case a1_Looker_at_end => k_is)
    (case i1_Looker_at_end => k_is)
    (case l1_Looker_at_end => k_is)
    (case c1_Looker_at_end => k_is)
    (case k1_Looker_at_end => k_is)
    (case a1_first_at => k_is)
    (case l1_first_at => k_is)
    (case c1_first_at => k_is)
    (case k1_first_at => k_is)
    (case a1_Looker_behind => k_is)
    (case i1_Looker_behind => k_is)
    (case l1_Looker_behind => k_is)
    (case c1_Looker_behind => k_is)
    (case k1_Looker_behind => k_is)
    (case a1_Looker_key => k_is)
    (case i1_Looker_key => k_is)
    (case l1_Looker_key => k_is)
    (case c1_Looker_key => k_is)
    (case k1_Looker_key => k_is)
    (case a1_Looker_opened => k_is)
    (case i1_Looker_opened => k_is)
    (case l1_Looker_opened => k_is)
    (case c1_Looker_opened => k_is)
    (case k1_Looker_opened => k_is)
    (case a1_Looker_go_to => k_is)
    (case i1_Looker_go_to => k_is)
    (case l1_Looker_go_to => k_is)
    (case c1_Looker_go_to => k_is)
    (case k1_Looker_go_to => k_is)
    (case a1_Looker_reach => k_is)
    (case i1_Looker_reach => k_is)
    (case l1_Looker_reach => k_is)
    (case c1_Looker_reach => k_is)
    (case k1_Looker_reach => k_is)
    (case a1_Looker_place => k_is)
    (case i1_Looker_place => k_is)
    (case l1_Looker_place => k_is)
    (case c1_Looker_place => k_is)
    (case k1_Looker_place => k_is)
    (case a1_Looker_looks => k_is)
    (case i1_Looker_looks => k_is)
    (case l1_Looker_looks => k_is)
    (case c1_Looker_looks => k_is)
    (case k1_Looker_looks => k_is)
    (case a1_Looker_further => k_is)
    (case i1_Looker_further => k_is)
    (case l1_Looker_further => k_is)
    (case c1_Looker_further => k_is)
    (case k1_Looker_further => k_is)
    (case a1_Looker_depth => k_is)
    (case i1_Looker_depth => k_is)
    (case l1_Looker_depth => k_is)
    (case c1_Looker_depth => k_is)
    (case k1_Looker_depth => k_is)
    (case a1__law_trie => k_is)
    (case l1__law_trie => k_is)
    (case c1__law_trie => k_is)
    (case k1__law_trie => k_is)
    (case a1__law_reach_holds => k_is)
    (case l1__law_reach_holds => k_is)
    (case c1__law_reach_holds => k_is)
    (case k1__law_reach_holds => k_is)
    (case a1_Looker_up => k_is)
    (case i1_Looker_up => k_is)
    (case l1_Looker_up => k_is)
    (case c1_Looker_up => k_is)
    (case k1_Looker_up => k_is)
    (case a1__law_walked => k_is)
    (case l1__law_walked => k_is)
    (case c1__law_walked => k_is)
    (case k1__law_walked => k_is)
    (case a1_law => k_is)
    (case l1_law => k_is)
    (case c1_law => k_is)
    (case k1_law => k_is)
    (case n1_Looker_levels => k_is)
    (case n1_Looker_many => k_is)
    (case n1_Looker_rows => k_is)
    (case z1_abs => k_is)
    (case z1_all => k_is)
    (case z1_bool => k_is)
    (case z1_int => k_is)
    (case z1_isinstance => k_is)
    (case z1_len => k_is)
    (case z1_list => k_is)
    (case z1_max => k_is)
    (case z1_range => k_is)
    (case z1_set => k_is)
    (case z1_sorted => k_is)
    (case z1_str => k_is)
    (case z1_tuple => k_is)
    (case z1_zip => k_is)
