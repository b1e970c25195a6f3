import PyProof.Rows.All
import Wide.All
import OpenK.AllK
import Wide.FinOn
import HandS.ForMost
import HandS.ForExc
import HandS.CallSlots
import HandS.Walk
import HandS.Lambda
import HandS.TupAny
import HandS.Deep
import HandS.IsInst
import HandS.Zip
import HandS.SortInts
import HandS.TupSets
import HandS.Dict
import HandS.DictComp
import HandS.Sort
import PyProof.ListRange
import PyProof.ConsumeWalk
import PyProof.Rows.TupMore
import HandS.Style
import HandS.TupMul
import HandS.Flow
import PySem.Challenge.RW_meetloft_k02_asks_told
set_option Elab.async false
set_option linter.all false
set_option maxRecDepth 100000
/-! Python data as plain Lean data: D; a store of things that change; what a heap bears of them. -/
namespace Dv
open PySem L2

inductive D where
  | non : D
  | bl (b : Bool) : D
  | int (i : Int) : D
  | str (x : Str) : D
  | tup (xs : List D) : D
  | lst (xs : List D) : D
  | scr (xs : List Int) : D
  | dct (kvs : List (Key × D)) : D
  | loc (n : Nat) : D
  | ty (n : String) : D

inductive O where
  | lst (xs : List D)
  | dct (kvs : List (Key × D))
  | ins (c : Str) (fs : List (Str × D))
  | tbl (x q : Str)

abbrev Store := List O
abbrev Env := List (Option D)

def KLst (K : PySem.W.Frag) (a : Addr) (xs : List V) : Prop := SqL K (fun _ => none) a xs
theorem rd_none {a : Addr} {u : HO} (h : Rd (fun _ => none) a u) : False := by
  rcases h with h | ⟨o, h⟩
  · cases h
  · cases h
theorem KLst.sq {K : PySem.W.Frag} {a : Addr} {xs : List V} (h : KLst K a xs) (H : Hp) : SqL K H a xs := by
  rcases h with h | h
  · exact (rd_none h).elim
  · exact .inr h
theorem KLst.len {K : PySem.W.Frag} {a : Addr} {xs : List V} (h : KLst K a xs) : xs.length ≤ sizeLine := by
  rcases h with h | ⟨o, its, n, _, _, _, _, hz, r⟩
  · exact (rd_none h).elim
  · rw [r.length, Array.length_toList]
    exact hz

/-- the addresses of what may change: loc those of the store, hid those that no value tells -/
structure Tb where
  loc : List Addr
  hid : List Addr
def Tb.off (T : Tb) (a : Addr) : Prop := a ∉ T.loc ∧ a ∉ T.hid

def LAt (K : PySem.W.Frag) (T : Tb) (H : Hp) (a : Addr) (xs : List V) : Prop := (Rd H a (.lst xs) ∧ T.off a) ∨ KLst K a xs

mutual
inductive Rep (K : PySem.W.Frag) (T : Tb) (H : Hp) : V → D → Prop
  | non : Rep K T H .non .non
  | bl (b : Bool) : Rep K T H (.bl b) (.bl b)
  | int (i : Int) : Rep K T H (.int i) (.int i)
  | str (x : Str) : Rep K T H (.str x) (.str x)
  | ty (x : String) : Rep K T H (.ty x) (.ty x)
  | tup {a : Addr} {xs : List V} {ds : List D} : H a = some (.tup xs) → T.off a → RepL K T H xs ds → Rep K T H (.ref a) (.tup ds)
  | lst {a : Addr} {xs : List V} {ds : List D} : H a = some (.lst xs) → T.off a → RepL K T H xs ds → Rep K T H (.ref a) (.lst ds)
  | scr {a : Addr} {ns : List Int} : LAt K T H a (ns.map V.int) → Rep K T H (.ref a) (.scr ns)
  | dct {a : Addr} {kvs : List (Key × V)} {kds : List (Key × D)} : Rd H a (.dK kvs) → T.off a → kvs.map (·.1) = kds.map (·.1) → RepL K T H (kvs.map (·.2)) (kds.map (·.2)) → Rep K T H (.ref a) (.dct kds)
  | loc {a : Addr} {n : Nat} : T.loc[n]? = some a → Rep K T H (.ref a) (.loc n)
inductive RepL (K : PySem.W.Frag) (T : Tb) (H : Hp) : List V → List D → Prop
  | nil : RepL K T H [] []
  | cons {v : V} {vs : List V} {d : D} {ds : List D} : Rep K T H v d → RepL K T H vs ds → RepL K T H (v :: vs) (d :: ds)
end

structure Step (T : Tb) (H : Hp) (T' : Tb) (H' : Hp) : Prop where
  ext : ∃ more, T'.loc = T.loc ++ more
  hid : T'.hid = T.hid
  hkeep : ∀ b, b ∈ T.hid → H' b = H b
  keep : ∀ b u, T.off b → H b = some u → H' b = some u
  new : ∀ a, a ∈ T'.loc → a ∉ T.loc → H a = none

theorem rd_some {H : Hp} {a : Addr} {u : HO} (h : Rd H a u) : H a ≠ none := by
  rcases h with h | ⟨o, h⟩ <;> rw [h] <;> exact fun e => by cases e
theorem rd_keep {H H' : Hp} {a : Addr} {u : HO} (k : ∀ v, H a = some v → H' a = some v) (h : Rd H a u) : Rd H' a u := by
  rcases h with h | ⟨o, h⟩
  · exact .inl (k _ h)
  · exact .inr ⟨o, k _ h⟩
theorem Step.refl (T : Tb) (H : Hp) : Step T H T H := ⟨⟨[], by simp⟩, rfl, fun _ _ => rfl, fun _ _ _ h => h, fun _ h n => absurd h n⟩
theorem Step.out {T T' : Tb} {H H' : Hp} (s : Step T H T' H') {b : Addr} (h : H b ≠ none) (n : T.off b) : T'.off b := ⟨fun m => h (s.new b m n.1), by rw [s.hid]; exact n.2⟩
theorem Step.rd {T T' : Tb} {H H' : Hp} (s : Step T H T' H') {b : Addr} {u : HO} (h : Rd H b u) (n : T.off b) : Rd H' b u := rd_keep (fun v => s.keep b v n) h
theorem Step.trans {T T1 T2 : Tb} {H H1 H2 : Hp} (a : Step T H T1 H1) (b : Step T1 H1 T2 H2) : Step T H T2 H2 where
  ext := by
    obtain ⟨m1, e1⟩ := a.ext
    obtain ⟨m2, e2⟩ := b.ext
    exact ⟨m1 ++ m2, by rw [e2, e1, List.append_assoc]⟩
  hid := b.hid.trans a.hid
  hkeep := fun c hc => (b.hkeep c (by rw [a.hid]; exact hc)).trans (a.hkeep c hc)
  keep := fun c u n h => b.keep c u (a.out (by rw [h]; exact fun e => by cases e) n) (a.keep c u n h)
  new := fun c m n => by
    by_cases h : c ∈ T1.loc
    · exact a.new c h n
    · cases q : H c with
      | none => rfl
      | some o =>
        have h2 := b.new c m h
        by_cases hc : c ∈ T.hid
        · rw [a.hkeep c hc, q] at h2
          cases h2
        · rw [a.keep c o ⟨n, hc⟩ q] at h2
          cases h2
theorem Step.get {T T' : Tb} {H H' : Hp} (s : Step T H T' H') {n : Nat} {a : Addr} (h : T.loc[n]? = some a) : T'.loc[n]? = some a := by
  obtain ⟨m, e⟩ := s.ext
  rw [e, List.getElem?_append_left (List.getElem?_eq_some_iff.mp h).1]
  exact h
section
variable {K : PySem.W.Frag} {T T' : Tb} {H H' : Hp}
theorem LAt.sq {a : Addr} {xs : List V} (h : LAt K T H a xs) : SqL K H a xs := by
  rcases h with ⟨h, n⟩ | h
  · exact .inl h
  · exact h.sq H
/-- what is true of one heap and table is true of another one that keeps all that a value may tell -/
structure Kp (T : Tb) (H : Hp) (T' : Tb) (H' : Hp) : Prop where
  sq : ∀ b u, (∃ xs, u = .tup xs ∨ u = .lst xs ∨ (∃ o, u = .frz o (.lst xs)) ∨ ∃ f, u = .ext f) → T.off b → H b = some u → H' b = some u ∧ T'.off b
  dk : ∀ b kvs, T.off b → Rd H b (.dK kvs) → Rd H' b (.dK kvs) ∧ T'.off b
  get : ∀ (n : Nat) (a : Addr), T.loc[n]? = some a → T'.loc[n]? = some a
theorem some_ne {H : Hp} {a : Addr} {u : HO} (h : H a = some u) : H a ≠ none := by
  rw [h]
  exact fun e => by cases e
theorem Step.kp (s : Step T H T' H') : Kp T H T' H' := ⟨fun b u _ n h => ⟨s.keep b u n h, s.out (some_ne h) n⟩, fun b _ n h => ⟨s.rd h n, s.out (rd_some h) n⟩, fun _ _ h => s.get h⟩
/-- .. and what is locked stays so -/
structure Kf (T : Tb) (H : Hp) (T' : Tb) (H' : Hp) : Prop extends Kp T H T' H' where
  frz : ∀ b o u, T.off b → H b = some (.frz o u) → H' b = some (.frz o u) ∧ T'.off b
theorem Step.kf (s : Step T H T' H') : Kf T H T' H' := ⟨s.kp, fun b o u n h => ⟨s.keep b _ n h, s.out (some_ne h) n⟩⟩
theorem Kp.tup (s : Kp T H T' H') {b : Addr} {xs : List V} (n : T.off b) (h : H b = some (.tup xs)) : H' b = some (.tup xs) ∧ T'.off b := s.sq b _ ⟨xs, .inl rfl⟩ n h
theorem Kp.lst (s : Kp T H T' H') {b : Addr} {xs : List V} (n : T.off b) (h : H b = some (.lst xs)) : H' b = some (.lst xs) ∧ T'.off b := s.sq b _ ⟨xs, .inr (.inl rfl)⟩ n h
theorem LAt.kp {a : Addr} {xs : List V} (s : Kp T H T' H') (h : LAt K T H a xs) : LAt K T' H' a xs := by
  rcases h with ⟨h | ⟨o, h⟩, n⟩ | h
  · exact .inl ⟨.inl (s.lst n h).1, (s.lst n h).2⟩
  · have q := s.sq a _ ⟨xs, .inr (.inr (.inl ⟨o, rfl⟩))⟩ n h
    exact .inl ⟨.inr ⟨o, q.1⟩, q.2⟩
  · exact .inr h
mutual
theorem Rep.kp (s : Kp T H T' H') : ∀ {v : V} {d : D}, Rep K T H v d → Rep K T' H' v d
  | _, _, .non => .non
  | _, _, .bl b => .bl b
  | _, _, .int i => .int i
  | _, _, .str x => .str x
  | _, _, .ty x => .ty x
  | _, _, .tup h n r => .tup (s.tup n h).1 (s.tup n h).2 (RepL.kp s r)
  | _, _, .lst h n r => .lst (s.lst n h).1 (s.lst n h).2 (RepL.kp s r)
  | _, _, .scr h => .scr (h.kp s)
  | _, _, .dct h n e r => .dct (s.dk _ _ n h).1 (s.dk _ _ n h).2 e (RepL.kp s r)
  | _, _, .loc h => .loc (s.get _ _ h)
theorem RepL.kp (s : Kp T H T' H') : ∀ {vs : List V} {ds : List D}, RepL K T H vs ds → RepL K T' H' vs ds
  | _, _, .nil => .nil
  | _, _, .cons h r => .cons (Rep.kp s h) (RepL.kp s r)
end
theorem Rep.step (s : Step T H T' H') {v : V} {d : D} (h : Rep K T H v d) : Rep K T' H' v d := h.kp s.kp
theorem RepL.step (s : Step T H T' H') {vs : List V} {ds : List D} (h : RepL K T H vs ds) : RepL K T' H' vs ds := h.kp s.kp
theorem RepL.length : ∀ {vs : List V} {ds : List D}, RepL K T H vs ds → vs.length = ds.length
  | _, _, .nil => rfl
  | _, _, .cons _ r => by rw [List.length_cons, List.length_cons, RepL.length r]
theorem RepL.get : ∀ {vs : List V} {ds : List D} {i : Nat} {d : D}, RepL K T H vs ds → ds[i]? = some d → ∃ v, vs[i]? = some v ∧ Rep K T H v d
  | _, _, i, _, .nil, e => by simp at e
  | _, _, 0, _, .cons r _, e => by simp at e; subst e; exact ⟨_, rfl, r⟩
  | _, _, i + 1, d, .cons _ t, e => by
    obtain ⟨v, h1, h2⟩ := RepL.get (i := i) (d := d) t (by simpa using e)
    exact ⟨v, by simpa using h1, h2⟩
theorem RepL.getV : ∀ {vs : List V} {ds : List D} {i : Nat} {v : V}, RepL K T H vs ds → vs[i]? = some v → ∃ d, ds[i]? = some d ∧ Rep K T H v d
  | _, _, i, _, .nil, e => by simp at e
  | _, _, 0, _, .cons r _, e => by simp at e; subst e; exact ⟨_, rfl, r⟩
  | _, _, i + 1, v, .cons _ t, e => by
    obtain ⟨d, h1, h2⟩ := RepL.getV (i := i) (v := v) t (by simpa using e)
    exact ⟨d, by simpa using h1, h2⟩
theorem RepL.append : ∀ {vs ws : List V} {ds es : List D}, RepL K T H vs ds → RepL K T H ws es → RepL K T H (vs ++ ws) (ds ++ es)
  | _, _, _, _, .nil, s => s
  | _, _, _, _, .cons r t, s => .cons r (RepL.append t s)
theorem RepL.set {v : V} {d : D} (r : Rep K T H v d) : ∀ {vs : List V} {ds : List D} (i : Nat), RepL K T H vs ds → RepL K T H (vs.set i v) (ds.set i d)
  | _, _, _, .nil => .nil
  | _, _, 0, .cons _ t => .cons r t
  | _, _, i + 1, .cons q t => .cons q (RepL.set r i t)
theorem RepL.take : ∀ {vs : List V} {ds : List D} (n : Nat), RepL K T H vs ds → RepL K T H (vs.take n) (ds.take n)
  | _, _, 0, _ => .nil
  | _, _, _ + 1, .nil => .nil
  | _, _, n + 1, .cons r t => .cons r (RepL.take n t)
theorem RepL.drop : ∀ {vs : List V} {ds : List D} (n : Nat), RepL K T H vs ds → RepL K T H (vs.drop n) (ds.drop n)
  | _, _, 0, r => r
  | _, _, _ + 1, .nil => .nil
  | _, _, n + 1, .cons _ t => RepL.drop n t
theorem RepL.reverse : ∀ {vs : List V} {ds : List D}, RepL K T H vs ds → RepL K T H vs.reverse ds.reverse
  | _, _, .nil => .nil
  | _, _, .cons r t => by
    rw [List.reverse_cons, List.reverse_cons]
    exact RepL.append (RepL.reverse t) (.cons r .nil)
theorem RepL.rep {vs : List V} {ds : List D} (h : RepL K T H vs ds) : ∀ k : Nat, RepL K T H (List.replicate k vs).flatten (List.replicate k ds).flatten
  | 0 => .nil
  | k + 1 => by
    rw [List.replicate_succ, List.replicate_succ, List.flatten_cons, List.flatten_cons]
    exact RepL.append h (RepL.rep h k)
theorem RepL.ints : ∀ (ns : List Int), RepL K T H (ns.map V.int) (ns.map D.int)
  | [] => .nil
  | n :: ns => .cons (.int n) (RepL.ints ns)
theorem RepL.of_ints : ∀ {vs : List V} {ns : List Int}, RepL K T H vs (ns.map D.int) → vs = ns.map V.int
  | _, [], .nil => rfl
  | _, n :: ns, .cons (.int _) r => by rw [RepL.of_ints r]; rfl
theorem RepL.bls : ∀ (ns : List Bool), RepL K T H (ns.map V.bl) (ns.map D.bl)
  | [] => .nil
  | n :: ns => .cons (.bl n) (RepL.bls ns)
theorem RepL.of_bls : ∀ {vs : List V} {ns : List Bool}, RepL K T H vs (ns.map D.bl) → vs = ns.map V.bl
  | _, [], .nil => rfl
  | _, n :: ns, .cons (.bl _) r => by rw [RepL.of_bls r]; rfl
theorem RepL.strs : ∀ (ns : List Str), RepL K T H (ns.map V.str) (ns.map D.str)
  | [] => .nil
  | n :: ns => .cons (.str n) (RepL.strs ns)
theorem RepL.of_strs : ∀ {vs : List V} {ns : List Str}, RepL K T H vs (ns.map D.str) → vs = ns.map V.str
  | _, [], .nil => rfl
  | _, n :: ns, .cons (.str _) r => by rw [RepL.of_strs r]; rfl
end

def HLen (H : Hp) : Prop := ∀ a xs, (Rd H a (.lst xs) ∨ Rd H a (.tup xs)) → xs.length ≤ sizeLine

/-- a is the address of the code table of the def that the global x tells -/
def TblAt (K : PySem.W.Frag) (mg : Str → Option Value) (x : Str) (a : Addr) : Prop :=
  ∃ (f c : Addr) (oc oc2 : Value) (od od2 : Option Addr) (fd : FuncData) (sl sl2 : Array (Option Value)) (vs : Array Value), mg x = some (.ref f) ∧ K.lookup f = some ⟨oc, od, .func fd, sl⟩ ∧ fd.code = .ref c ∧ K.lookup c = some ⟨oc2, od2, .fields vs, sl2⟩ ∧ vs[11]? = some (.ref a)
theorem TblAt.uniq {K : PySem.W.Frag} {mg : Str → Option Value} {x : Str} {a b : Addr} (h1 : TblAt K mg x a) (h2 : TblAt K mg x b) : a = b := by
  obtain ⟨f, c, _, _, _, _, fd, _, _, vs, p1, p2, p3, p4, p5⟩ := h1
  obtain ⟨f', c', _, _, _, _, fd', _, _, vs', q1, q2, q3, q4, q5⟩ := h2
  rw [p1] at q1
  cases q1
  rw [p2] at q2
  cases q2
  rw [p3] at q3
  cases q3
  rw [p4] at q4
  cases q4
  rw [p5] at q5
  cases q5
  rfl

def ORep (K : PySem.W.Frag) (mg : Str → Option Value) (T : Tb) (H : Hp) (a : Addr) : O → Prop
  | .lst ds => ∃ xs, H a = some (.lst xs) ∧ RepL K T H xs ds
  | .dct kds => ∃ kvs, H a = some (.dK kvs) ∧ kvs.map (·.1) = kds.map (·.1) ∧ RepL K T H (kvs.map (·.2)) (kds.map (·.2))
  | .ins c fs => ∃ C dx fvs, mg c = some (.ref C) ∧ H a = some (.ins C dx fvs) ∧ fvs.map (·.1) = fs.map (·.1) ∧ RepL K T H (fvs.map (·.2)) (fs.map (·.2))
  | .tbl x q => TblAt K mg x a ∧ ∃ ps : Array Value, H a = some (.tbl ps) ∧ TriplesOk ps.toList ∧ ∀ (pos : Pos) (cv : Value), codeAmong pos ps.toList = some cv → ∃ c, cv = .ref c ∧ H c = some (LamX.CodeO c q) ∧ T.off c

structure Sim (K : PySem.W.Frag) (mg : Str → Option Value) (T : Tb) (S : Store) (H : Hp) : Prop where
  len : T.loc.length = S.length
  nd : (T.loc ++ T.hid).Nodup
  obj : ∀ (i : Nat) (a : Addr) (o : O), T.loc[i]? = some a → S[i]? = some o → ORep K mg T H a o
  hid : ∀ a, a ∈ T.hid → H a ≠ none
  hl : HLen H

section
variable {K : PySem.W.Frag} {mg : Str → Option Value} {T T' : Tb} {H H' : Hp} {S : Store}
theorem ORep.kp {a : Addr} {o : O} (s : Kp T H T' H') (e : H' a = H a) (h : ORep K mg T H a o) : ORep K mg T' H' a o := by
  cases o with
  | lst ds =>
    obtain ⟨xs, h1, h2⟩ := h
    exact ⟨xs, e.trans h1, h2.kp s⟩
  | dct kds =>
    obtain ⟨kvs, h1, h2, h3⟩ := h
    exact ⟨kvs, e.trans h1, h2, h3.kp s⟩
  | ins c fs =>
    obtain ⟨C, dx, fvs, h1, h2, h3, h4⟩ := h
    exact ⟨C, dx, fvs, h1, e.trans h2, h3, h4.kp s⟩
  | tbl x q =>
    obtain ⟨hx, ps, h1, h2, h3⟩ := h
    refine ⟨hx, ps, e.trans h1, h2, fun pos cv hc => ?_⟩
    obtain ⟨c, rfl, h4, h5⟩ := h3 pos cv hc
    obtain ⟨h6, h7⟩ := s.sq c _ ⟨[], .inr (.inr (.inr ⟨_, rfl⟩))⟩ h5 h4
    exact ⟨c, rfl, h6, h7⟩
theorem ORep.step {a : Addr} {o : O} (s : Step T H T' H') (e : H' a = H a) (h : ORep K mg T H a o) : ORep K mg T' H' a o := h.kp s.kp e
theorem ORep.some {a : Addr} {o : O} (h : ORep K mg T H a o) : H a ≠ none := by
  cases o with
  | lst ds => obtain ⟨xs, h1, _⟩ := h; rw [h1]; exact fun e => by cases e
  | dct kds => obtain ⟨kvs, h1, _⟩ := h; rw [h1]; exact fun e => by cases e
  | ins c fs => obtain ⟨C, dx, fvs, _, h2, _⟩ := h; rw [h2]; exact fun e => by cases e
  | tbl x q => obtain ⟨_, ps, h1, _⟩ := h; rw [h1]; exact fun e => by cases e
theorem Sim.ndl (s : Sim K mg T S H) : T.loc.Nodup := (List.nodup_append.mp s.nd).1
theorem Sim.apart (s : Sim K mg T S H) {a : Addr} (h : a ∈ T.loc) (h2 : a ∈ T.hid) : False := (List.nodup_append.mp s.nd).2.2 a h a h2 rfl
theorem Sim.there (s : Sim K mg T S H) {a : Addr} (h : a ∈ T.loc) : H a ≠ none := by
  obtain ⟨i, hi, e⟩ := List.mem_iff_getElem.mp h
  have h1 : T.loc[i]? = some a := by rw [List.getElem?_eq_getElem hi, e]
  have hi2 : i < S.length := by rw [← s.len]; exact hi
  exact (s.obj i a S[i] h1 (List.getElem?_eq_getElem hi2)).some
theorem Sim.off (s : Sim K mg T S H) {p : Addr} (hp : H p = none) : T.off p := ⟨fun h => s.there h hp, fun h => s.hid p h hp⟩
/-- a heap that grew by things that nobody may change -/
theorem Sim.grow (s : Sim K mg T S H) (st : Step T H T H') (e : ∀ a ∈ T.loc, H' a = H a) (hl : HLen H') : Sim K mg T S H' :=
  ⟨s.len, s.nd, fun i a o h1 h2 => (s.obj i a o h1 h2).step st (e a (List.mem_of_getElem? h1)), fun a h => by rw [st.hkeep a h]; exact s.hid a h, hl⟩
/-- a new thing at p -/
theorem Sim.stepNew {p : Addr} {o : HO} (s : Sim K mg T S H) (hp : H p = none) : Step T H T (upd H p o) :=
  ⟨⟨[], by simp⟩, rfl, fun b hb => upd_ne fun e => s.hid b hb (by rw [e]; exact hp), fun b u _ h => by rw [upd_ne (ne_of_none h hp)]; exact h, fun _ h n => absurd h n⟩
theorem hlen_new {p : Addr} {o : HO} (h : HLen H) (ho : ∀ xs, (o = .lst xs ∨ o = .tup xs ∨ (∃ x, o = .frz x (.lst xs)) ∨ ∃ x, o = .frz x (.tup xs)) → xs.length ≤ sizeLine) : HLen (upd H p o) := fun a xs hr => by
  by_cases e : a = p
  · subst e
    refine ho xs ?_
    rcases hr with (q | ⟨x, q⟩) | (q | ⟨x, q⟩) <;> rw [upd_same] at q <;> cases q
    · exact .inl rfl
    · exact .inr (.inr (.inl ⟨x, rfl⟩))
    · exact .inr (.inl rfl)
    · exact .inr (.inr (.inr ⟨x, rfl⟩))
  · refine h a xs ?_
    rcases hr with (q | ⟨x, q⟩) | (q | ⟨x, q⟩) <;> rw [upd_ne e] at q
    · exact .inl (.inl q)
    · exact .inl (.inr ⟨x, q⟩)
    · exact .inr (.inl q)
    · exact .inr (.inr ⟨x, q⟩)
theorem hlen_lst {p : Addr} {xs : List V} (h : HLen H) (hx : xs.length ≤ sizeLine) : HLen (upd H p (.lst xs)) := hlen_new h fun ys q => by
  rcases q with q | q | ⟨x, q⟩ | ⟨x, q⟩ <;> cases q
  exact hx
theorem hlen_tup {p : Addr} {xs : List V} (h : HLen H) (hx : xs.length ≤ sizeLine) : HLen (upd H p (.tup xs)) := hlen_new h fun ys q => by
  rcases q with q | q | ⟨x, q⟩ | ⟨x, q⟩ <;> cases q
  exact hx
theorem hlen_oth {p : Addr} {o : HO} (h : HLen H) (ho : ∀ xs, o ≠ .lst xs ∧ o ≠ .tup xs ∧ (∀ x, o ≠ .frz x (.lst xs)) ∧ ∀ x, o ≠ .frz x (.tup xs)) : HLen (upd H p o) := hlen_new h fun ys q => by
  obtain ⟨h1, h2, h3, h4⟩ := ho ys
  rcases q with q | q | ⟨x, q⟩ | ⟨x, q⟩
  · exact absurd q h1
  · exact absurd q h2
  · exact absurd q (h3 x)
  · exact absurd q (h4 x)
theorem Sim.new {p : Addr} {o : HO} (s : Sim K mg T S H) (hp : H p = none) (hl : HLen (upd H p o)) : Sim K mg T S (upd H p o) :=
  s.grow (s.stepNew hp) (fun a ha => upd_ne fun e => s.there ha (by rw [e]; exact hp)) hl
theorem Sim.llen (s : Sim K mg T S H) {a : Addr} {xs : List V} (h : LAt K T H a xs) : xs.length ≤ sizeLine := by
  rcases h with ⟨h, _⟩ | h
  · exact s.hl a xs (.inl h)
  · exact h.len
/-- a new thing that may change -/
def Tb.add (T : Tb) (p : Addr) : Tb := ⟨T.loc ++ [p], T.hid⟩
theorem Sim.stepAlloc {p : Addr} {o : HO} (s : Sim K mg T S H) (hp : H p = none) : Step T H (T.add p) (upd H p o) := ⟨⟨[p], rfl⟩, rfl, (s.stepNew hp).hkeep, (s.stepNew hp).keep, fun a h n => by
  rcases List.mem_append.mp h with h | h
  · exact absurd h n
  · rw [List.mem_singleton.mp h]; exact hp⟩
theorem Sim.alloc {p : Addr} {u : HO} {o : O} (s : Sim K mg T S H) (hp : H p = none) (hl : HLen (upd H p u)) (ho : ORep K mg (T.add p) (upd H p u) p o) : Sim K mg (T.add p) (S ++ [o]) (upd H p u) where
  len := by
    show (T.loc ++ [p]).length = _
    rw [List.length_append, List.length_append, s.len]; rfl
  nd := by
    have h0 := List.nodup_append.mp s.nd
    refine List.nodup_append.mpr ⟨List.nodup_append.mpr ⟨h0.1, by simp, fun a ha b hb e => (s.off hp).1 (by rw [← List.mem_singleton.mp hb, ← e]; exact ha)⟩, h0.2.1, fun a ha b hb e => ?_⟩
    rcases List.mem_append.mp ha with ha | ha
    · exact h0.2.2 a ha b hb e
    · exact (s.off hp).2 (by rw [← List.mem_singleton.mp ha, e]; exact hb)
  obj := fun i a o' h1 h2 => by
    have h1 : (T.loc ++ [p])[i]? = Option.some a := h1
    by_cases hi : i < T.loc.length
    · rw [List.getElem?_append_left hi] at h1
      rw [List.getElem?_append_left (by rw [← s.len]; exact hi)] at h2
      exact (s.obj i a o' h1 h2).step (s.stepAlloc hp) (upd_ne fun e => (s.off hp).1 (by rw [← e]; exact List.mem_of_getElem? h1))
    · rw [List.getElem?_append_right (by omega)] at h1
      rw [List.getElem?_append_right (by rw [← s.len]; omega)] at h2
      rw [← s.len] at h2
      cases k : i - T.loc.length with
      | zero =>
        rw [k] at h1 h2
        cases h1; cases h2
        exact ho
      | succ j =>
        rw [k] at h1
        cases h1
  hid := fun a h => by rw [(s.stepNew hp).hkeep a h]; exact s.hid a h
  hl := hl
/-- a thing of the store changes -/
theorem Sim.stepSet {p : Addr} {u : HO} (s : Sim K mg T S H) (hp : p ∈ T.loc) : Step T H T (upd H p u) := ⟨⟨[], by simp⟩, rfl, fun b hb => upd_ne fun e => s.apart hp (by rw [← e]; exact hb), fun b v n h => by
  rw [upd_ne fun e => n.1 (by rw [e]; exact hp)]
  exact h, fun _ h n => absurd h n⟩
theorem Sim.set {p : Addr} {u : HO} {o : O} {n : Nat} (s : Sim K mg T S H) (hp : T.loc[n]? = Option.some p) (hl : HLen (upd H p u)) (ho : ORep K mg T (upd H p u) p o) : Sim K mg T (S.set n o) (upd H p u) where
  len := by rw [List.length_set, s.len]
  nd := s.nd
  obj := fun i a o' h1 h2 => by
    by_cases hi : i = n
    · subst hi
      rw [hp] at h1; cases h1
      have hlt : i < S.length := by rw [← s.len]; exact (List.getElem?_eq_some_iff.mp hp).1
      rw [List.getElem?_set_self hlt] at h2
      cases h2
      exact ho
    · rw [List.getElem?_set_ne (Ne.symm hi)] at h2
      refine (s.obj i a o' h1 h2).step (s.stepSet (List.mem_of_getElem? hp)) (upd_ne fun e => hi ?_)
      subst e
      exact nd_ix s.ndl h1 hp
  hid := fun a h => by rw [(s.stepSet (List.mem_of_getElem? hp)).hkeep a h]; exact s.hid a h
  hl := hl
end

def RepSt (K : PySem.W.Frag) (T : Tb) (H : Hp) (r : Env) (g : St) : Prop := r.length = g.length ∧ ∀ (i : Nat) (d : D), r[i]? = some (some d) → ∃ v, g[i]? = some (some v) ∧ Rep K T H v d
section
variable {K : PySem.W.Frag} {T T' : Tb} {H H' : Hp} {r : Env} {g : St}
theorem RepSt.kp (s : Kp T H T' H') (h : RepSt K T H r g) : RepSt K T' H' r g := ⟨h.1, fun i d e => by
  obtain ⟨v, h1, h2⟩ := h.2 i d e
  exact ⟨v, h1, h2.kp s⟩⟩
theorem RepSt.step (s : Step T H T' H') (h : RepSt K T H r g) : RepSt K T' H' r g := h.kp s.kp
theorem RepSt.set {i : Nat} {v : V} {d : D} (h : RepSt K T H r g) (hv : Rep K T H v d) : RepSt K T H (r.set i (some d)) (g.set i (some v)) := ⟨by rw [List.length_set, List.length_set, h.1], fun j e q => by
  by_cases hj : j = i
  · subst hj
    by_cases hl : j < r.length
    · rw [List.getElem?_set_self hl] at q
      cases q
      exact ⟨v, by rw [List.getElem?_set_self (by rw [← h.1]; exact hl)], hv⟩
    · rw [List.getElem?_eq_none (by rw [List.length_set]; omega)] at q
      cases q
  · rw [List.getElem?_set_ne (Ne.symm hj)] at q ⊢
    exact h.2 j e q⟩
theorem RepSt.forget {i : Nat} (h : RepSt K T H r g) : RepSt K T H (r.set i none) g := ⟨by rw [List.length_set, h.1], fun j e q => by
  by_cases hj : j = i
  · subst hj
    by_cases hl : j < r.length
    · rw [List.getElem?_set_self hl] at q
      cases q
    · rw [List.getElem?_eq_none (by rw [List.length_set]; omega)] at q
      cases q
  · rw [List.getElem?_set_ne (Ne.symm hj)] at q
    exact h.2 j e q⟩
theorem RepSt.forgetB {i : Nat} (h : RepSt K T H r g) : RepSt K T H (r.set i none) (g.set i none) := ⟨by rw [List.length_set, List.length_set, h.1], fun j e q => by
  by_cases hj : j = i
  · subst hj
    by_cases hl : j < r.length
    · rw [List.getElem?_set_self hl] at q
      cases q
    · rw [List.getElem?_eq_none (by rw [List.length_set]; omega)] at q
      cases q
  · rw [List.getElem?_set_ne (Ne.symm hj)] at q ⊢
    exact h.2 j e q⟩
end

/-! ### what an expression, a statement comes to -/
inductive R (α : Type) where
  | ok (a : α) (S : Store) : R α
  | exc (n : Str) (S : Store) : R α
  | bad : R α
def R.bind {α β : Type} (x : R α) (f : α → Store → R β) : R β := match x with
  | .ok a S => f a S
  | .exc n S => .exc n S
  | .bad => .bad
theorem R.bind_ok {α β : Type} (a : α) (S : Store) (f : α → Store → R β) : (R.ok a S).bind f = f a S := rfl
theorem R.bind_exc {α β : Type} (n : Str) (S : Store) (f : α → Store → R β) : (R.exc n S : R α).bind f = .exc n S := rfl
theorem R.bind_bad {α β : Type} (f : α → Store → R β) : (R.bad : R α).bind f = .bad := rfl
abbrev EM := Env → Store → R D
abbrev AM := Env → Store → R (List D)
abbrev BM := Env → Store → R Bool
inductive Fl where
  | next | ret (d : D) | brk | cont
inductive Z where
  | ok (f : Fl) (r : Env) (S : Store) : Z
  | exc (n : Str) (r : Env) (S : Store) : Z
  | bad : Z
abbrev SM := Env → Store → Z

section
variable (K : PySem.W.Frag) (mg : Str → Option Value) (Wx : WX)
def Wish (n : Str) (g : St) (H : Hp) : Prop := ∀ cls, mg n = some cls → Wx cls none g H
def Out {α β : Type} (rel : Tb → Hp → β → α → Prop) (T : Tb) (g : St) (H : Hp) (x : R α) (Q : β → Hp → Prop) : Prop := match x with
  | .ok d S => ∀ T' H' v, Step T H T' H' → Sim K mg T' S H' → rel T' H' v d → Q v H'
  | .exc n S => ∀ T' H', Step T H T' H' → Sim K mg T' S H' → Wish mg Wx n g H'
  | .bad => False
/-- the reading of an expression that comes to m -/
def tD (m : EM) : TE := fun g H Q => ∃ T r S, RepSt K T H r g ∧ Sim K mg T S H ∧ Out K mg Wx (Rep K) T g H (m r S) Q
def tDA (m : AM) : TA := fun g H Q => ∃ T r S, RepSt K T H r g ∧ Sim K mg T S H ∧ Out K mg Wx (RepL K) T g H (m r S) Q
/-- a test: a truth -/
def tDT (m : BM) : TT := fun g H Q => ∃ T r S, RepSt K T H r g ∧ Sim K mg T S H ∧ Out K mg Wx (fun _ _ v d => v = d) T g H (m r S) Q
def ZOut (T : Tb) (H : Hp) (z : Z) (E : Ends) : Prop := match z with
  | .ok .next r' S' => ∀ T' H' g', Step T H T' H' → Sim K mg T' S' H' → RepSt K T' H' r' g' → E.nx g' H'
  | .ok (.ret d) r' S' => ∀ T' H' v, Step T H T' H' → Sim K mg T' S' H' → Rep K T' H' v d → E.rt v H'
  | .ok .brk r' S' => ∀ T' H' g', Step T H T' H' → Sim K mg T' S' H' → RepSt K T' H' r' g' → E.bk g' H'
  | .ok .cont r' S' => ∀ T' H' g', Step T H T' H' → Sim K mg T' S' H' → RepSt K T' H' r' g' → E.ct g' H'
  | .exc n r' S' => ∀ T' H' g', Step T H T' H' → Sim K mg T' S' H' → RepSt K T' H' r' g' → Wish mg Wx n g' H'
  | .bad => False
def tDS (m : SM) : TS := fun E g H => ∃ T r S, RepSt K T H r g ∧ Sim K mg T S H ∧ ZOut K mg Wx T H (m r S) E
end
end Dv
namespace Dv
open PySem L2
theorem Sim.newGet {K : PySem.W.Frag} {mg : Str → Option Value} {T : Tb} {S : Store} {H : Hp} (s : Sim K mg T S H) {p : Addr} : (T.add p).loc[S.length]? = some p := by
  show (T.loc ++ [p])[S.length]? = some p
  rw [← s.len, List.getElem?_append_right (Nat.le_refl _), Nat.sub_self]
  rfl
/-! ### weaker readings -/
section
variable {X : Cx}
theorem pe_imp {e : Expr} {t t' : TE} (h : PE X e t) (i : ∀ g H Q, t' g H Q → t g H Q) : PE X e t' := ⟨fun pins s g H Q I w => h.run pins s g H Q I (i g H Q w)⟩
theorem pt_imp {e : Expr} {t t' : TT} (h : PT X e t) (i : ∀ g H Q, t' g H Q → t g H Q) : PT X e t' := ⟨fun pins s g H Q I w => h.run pins s g H Q I (i g H Q w)⟩
theorem pw_imp {e : Expr} {t t' : TT} (h : PW X e t) (i : ∀ g H Q, t' g H Q → t g H Q) : PW X e t' := ⟨fun wh pins s g H Q I w => h.run wh pins s g H Q I (i g H Q w)⟩
theorem pa_imp {es : List Expr} {t t' : TA} (h : PA X es t) (i : ∀ g H Q, t' g H Q → t g H Q) : PA X es t' := ⟨fun pos pins s g H Q I w => h.run pos pins s g H Q I (i g H Q w)⟩
theorem ps_imp {st : Stmt} {t t' : TS} (h : PS X st t) (i : ∀ E g H, t' E g H → t E g H) : PS X st t' := ⟨fun pins s g H E I w => h.run pins s g H E I (i E g H w)⟩
theorem pss_imp {st : List Stmt} {t t' : TS} (h : PSs X st t) (i : ∀ E g H, t' E g H → t E g H) : PSs X st t' := ⟨fun pins s g H E I w => h.run pins s g H E I (i E g H w)⟩
theorem pi_imp {tg e : Expr} {t t' : TI} (h : PI X tg e t) (i : ∀ g H R, t' g H R → t g H R) : PI X tg e t' := ⟨fun pins s g H R I w => h.run pins s g H R I (i g H R w)⟩
end

def ofO {α : Type} (o : Option α) (S : Store) : R α := match o with
  | some a => .ok a S
  | none => .bad

/-! ### going on behind a part -/
section
variable {K : PySem.W.Frag} {mg : Str → Option Value} {Wx : WX} {α β γ δ : Type} {relA : Tb → Hp → β → α → Prop} {relB : Tb → Hp → δ → γ → Prop} {T : Tb} {g : St} {H : Hp}
/-- behind a part that came to x the rest is to be shown from any state that it may leave -/
theorem Out.bind {x : R α} {f : α → Store → R γ} {Q : δ → Hp → Prop} {Q1 : β → Hp → Prop} (h : Out K mg Wx relB T g H (x.bind f) Q)
    (k : ∀ a S T1 H1 v, Step T H T1 H1 → Sim K mg T1 S H1 → relA T1 H1 v a → Out K mg Wx relB T1 g H1 (f a S) Q → Q1 v H1) : Out K mg Wx relA T g H x Q1 := by
  cases x with
  | bad => exact h
  | exc n S => exact h
  | ok a S =>
    intro T1 H1 v st sim rel
    refine k a S T1 H1 v st sim rel ?_
    have h : Out K mg Wx relB T g H (f a S) Q := h
    revert h
    cases f a S with
    | bad => exact fun h => h
    | exc n S2 => exact fun h T2 H2 st2 sim2 => h T2 H2 (st.trans st2) sim2
    | ok b S2 => exact fun h T2 H2 w st2 sim2 rel2 => h T2 H2 w (st.trans st2) sim2 rel2
theorem Out.use {o : Option γ} {S : Store} {Q : δ → Hp → Prop} {P : Prop} (h : Out K mg Wx relB T g H (ofO o S) Q)
    (k : ∀ b, o = some b → (∀ T' H' v, Step T H T' H' → Sim K mg T' S H' → relB T' H' v b → Q v H') → P) : P := by
  cases o with
  | none => exact h.elim
  | some b => exact k b rfl h
end

/-! ### names and constants -/
def mVar (i : Nat) : EM := fun r S => match r[i]? with
  | some (some d) => .ok d S
  | _ => .bad
def mC (d : D) : EM := fun _ S => .ok d S
section
variable {X : Cx} {Wx : WX}
theorem jv (i : Nat) {x : Str} {pos : Pos} (hN : X.N[i]? = some x := by rfl) (hv : Vis X.env.scope x := by first | exact Or.inl rfl | exact Or.inr (Or.inl rfl) | exact Or.inr (Or.inr rfl)) (hd : (x == ("__debug__" : Str)) = false := by decide)
    (hcd : (x == ("__classdict__" : Str)) = false := by decide) : PE X (.Name x pos) (tD X.K X.mg Wx (mVar i)) := by
  refine pe_imp (pe_var hN hv hd hcd) fun g H Q h => ?_
  obtain ⟨T, r, S, rs, sim, h⟩ := h
  unfold mVar at h
  split at h
  · rename_i d e
    obtain ⟨v, h1, h2⟩ := rs.2 i d e
    exact ⟨v, h1, h T H v (Step.refl T H) sim h2⟩
  · exact h.elim
theorem j_c {e : Expr} {v : V} {d : D} (h : PE X e (tC v)) (hd : ∀ T H, Rep X.K T H v d) : PE X e (tD X.K X.mg Wx (mC d)) := by
  refine pe_imp h fun g H Q h => ?_
  obtain ⟨T, r, S, rs, sim, h⟩ := h
  exact h T H v (Step.refl T H) sim (hd T H)
theorem j_int {i j pos} : PE X (.Constant (.int i) j pos) (tD X.K X.mg Wx (mC (.int i))) := j_c pe_int fun _ _ => .int i
theorem j_bl {i j pos} : PE X (.Constant (.bool i) j pos) (tD X.K X.mg Wx (mC (.bl i))) := j_c pe_bl fun _ _ => .bl i
theorem j_str {i j pos} : PE X (.Constant (.str i) j pos) (tD X.K X.mg Wx (mC (.str i))) := j_c pe_str fun _ _ => .str i
theorem j_non {j pos} : PE X (.Constant .none j pos) (tD X.K X.mg Wx (mC .non)) := j_c pe_non fun _ _ => .non
theorem j_globI {x : Str} {i : Int} {t : Tok} {pos : Pos} (hg : Gl X x) (hm : X.mg x = some (.int i t)) (hd : (x == ("__debug__" : Str)) = false := by decide) : PE X (.Name x pos) (tD X.K X.mg Wx (mC (.int i))) := j_c (pe_glob (v := .int i) hg hm ⟨t, rfl⟩ hd) fun _ _ => .int i
end

/-! ### argument lists, displays -/
def mNil : AM := fun _ S => .ok [] S
def mCons (m : EM) (ms : AM) : AM := fun r S => (m r S).bind fun d S1 => (ms r S1).bind fun ds S2 => .ok (d :: ds) S2
def mTup (ms : AM) : EM := fun r S => (ms r S).bind fun ds S1 => if ds.length ≤ 100000 then .ok (.tup ds) S1 else .bad
def mLst (ms : AM) : EM := fun r S => (ms r S).bind fun ds S1 => if ds.length ≤ 100000 then .ok (.lst ds) S1 else .bad
/-- a new list of the store -/
def mNewL (ms : AM) : EM := fun r S => (ms r S).bind fun ds S1 => if ds.length ≤ 100000 then .ok (.loc S1.length) (S1 ++ [.lst ds]) else .bad
theorem sz5 {n : Nat} (h : n ≤ 100000) : n ≤ sizeLine := Nat.le_trans h (by decide)
section
variable {X : Cx} {Wx : WX} {e : Expr} {es : List Expr} {pos : Pos} {m : EM} {ms : AM}
theorem ja_nil : PA X [] (tDA X.K X.mg Wx mNil) := by
  refine pa_imp pa_nil fun g H Q h => ?_
  obtain ⟨T, r, S, rs, sim, h⟩ := h
  exact h T H [] (Step.refl T H) sim .nil
theorem ja_cons (ha : PE X e (tD X.K X.mg Wx m)) (hr : PA X es (tDA X.K X.mg Wx ms)) (hs : starEach (e :: es) X.env = (false, eval e X.env) :: starEach es X.env := by rfl) : PA X (e :: es) (tDA X.K X.mg Wx (mCons m ms)) := by
  refine pa_imp (pa_cons ha hr hs) fun g H Q h => ?_
  obtain ⟨T, r, S, rs, sim, h⟩ := h
  refine ⟨T, r, S, rs, sim, Out.bind h fun d S1 T1 H1 v st sim1 rel h1 => ?_⟩
  refine ⟨T1, r, S1, rs.step st, sim1, Out.bind h1 fun ds S2 T2 H2 vs st2 sim2 rel2 h2 => ?_⟩
  exact h2 T2 H2 (v :: vs) (Step.refl T2 H2) sim2 (.cons (rel.step st2) rel2)
theorem j_tup {x1} (h : PA X es (tDA X.K X.mg Wx ms)) : PE X (.Tuple es x1 pos) (tD X.K X.mg Wx (mTup ms)) := by
  refine pe_imp (pe_tup h) fun g H Q h => ?_
  obtain ⟨T, r, S, rs, sim, h⟩ := h
  refine ⟨T, r, S, rs, sim, Out.bind h fun ds S1 T1 H1 vs st sim1 rel h1 => ?_⟩
  split at h1
  · rename_i hz
    have hz' : vs.length ≤ sizeLine := by rw [rel.length]; exact sz5 hz
    refine ⟨hz', fun p hp => ?_⟩
    have st1 : Step T1 H1 T1 (upd H1 p (.tup vs)) := sim1.stepNew hp
    exact h1 T1 _ _ st1 (sim1.new hp (hlen_tup sim1.hl hz')) (.tup upd_same (sim1.off hp) (rel.step st1))
  · exact h1.elim
theorem j_lst (h : PA X es (tDA X.K X.mg Wx ms)) : PE X (.List es pos) (tD X.K X.mg Wx (mLst ms)) := by
  refine pe_imp (pe_lst h) fun g H Q h => ?_
  obtain ⟨T, r, S, rs, sim, h⟩ := h
  refine ⟨T, r, S, rs, sim, Out.bind h fun ds S1 T1 H1 vs st sim1 rel h1 => ?_⟩
  split at h1
  · rename_i hz
    have hz' : vs.length ≤ sizeLine := by rw [rel.length]; exact sz5 hz
    refine ⟨hz', fun p hp => ?_⟩
    have st1 : Step T1 H1 T1 (upd H1 p (.lst vs)) := sim1.stepNew hp
    exact h1 T1 _ _ st1 (sim1.new hp (hlen_lst sim1.hl hz')) (.lst upd_same (sim1.off hp) (rel.step st1))
  · exact h1.elim
theorem j_newL (h : PA X es (tDA X.K X.mg Wx ms)) : PE X (.List es pos) (tD X.K X.mg Wx (mNewL ms)) := by
  refine pe_imp (pe_lst h) fun g H Q h => ?_
  obtain ⟨T, r, S, rs, sim, h⟩ := h
  refine ⟨T, r, S, rs, sim, Out.bind h fun ds S1 T1 H1 vs st sim1 rel h1 => ?_⟩
  split at h1
  · rename_i hz
    have hz' : vs.length ≤ sizeLine := by rw [rel.length]; exact sz5 hz
    refine ⟨hz', fun p hp => ?_⟩
    have st1 : Step T1 H1 (T1.add p) (upd H1 p (.lst vs)) := sim1.stepAlloc hp
    refine h1 (T1.add p) _ _ st1 (sim1.alloc hp (hlen_lst sim1.hl hz') ⟨vs, upd_same, rel.step st1⟩) (.loc ?_)
    exact sim1.newGet
  · exact h1.elim
end

/-! ### operators by values: the store is read, the heap may grow by what nobody may change -/
section
variable (K : PySem.W.Frag) (mg : Str → Option Value)
def POk (r : List V → Hp → VK → Prop) (f : List D → Store → Option D) : Prop := ∀ T S H vs ds d (Q : VK), Sim K mg T S H → RepL K T H vs ds → f ds S = some d →
  (∀ H' v, Step T H T H' → Sim K mg T S H' → Rep K T H' v d → Q v H') → r vs H Q
def POk2 (r : R2) (f : D → D → Store → Option D) : Prop := ∀ T S H x y a b d (Q : VK), Sim K mg T S H → Rep K T H x a → Rep K T H y b → f a b S = some d →
  (∀ H' v, Step T H T H' → Sim K mg T S H' → Rep K T H' v d → Q v H') → r x y H Q
def POk1 (r : V → Hp → VK → Prop) (f : D → Store → Option D) : Prop := ∀ T S H x a d (Q : VK), Sim K mg T S H → Rep K T H x a → f a S = some d →
  (∀ H' v, Step T H T H' → Sim K mg T S H' → Rep K T H' v d → Q v H') → r x H Q
end
def mBin (f : D → D → Store → Option D) (ma mb : EM) : EM := fun r S => (ma r S).bind fun a S1 => (mb r S1).bind fun b S2 => ofO (f a b S2) S2
def mUn (f : D → Store → Option D) (ma : EM) : EM := fun r S => (ma r S).bind fun a S1 => ofO (f a S1) S1
def mCall (f : List D → Store → Option D) (ms : AM) : EM := fun r S => (ms r S).bind fun ds S1 => ofO (f ds S1) S1
section
variable {X : Cx} {Wx : WX} {a b : Expr} {es : List Expr} {pos : Pos} {ma mb : EM} {ms : AM}
theorem tOp_of {K : PySem.W.Frag} {mg : Str → Option Value} {r : R2} {f : D → D → Store → Option D} (hf : POk2 K mg r f) : ∀ g H Q, tD K mg Wx (mBin f ma mb) g H Q → tOp r (tD K mg Wx ma) (tD K mg Wx mb) g H Q := by
  intro g H Q h
  obtain ⟨T, r, S, rs, sim, h⟩ := h
  refine ⟨T, r, S, rs, sim, Out.bind h fun x S1 T1 H1 v st sim1 rel h1 => ?_⟩
  refine ⟨T1, r, S1, rs.step st, sim1, Out.bind h1 fun y S2 T2 H2 w st2 sim2 rel2 h2 => ?_⟩
  exact Out.use h2 fun d e k => hf T2 S2 H2 v w x y d Q sim2 (rel.step st2) rel2 e fun H' v' s' => k T2 H' v' s'
theorem j_bin {op : Operator} {r : R2} {f : D → D → Store → Option D} (ho : OpR X (binaryOp op) r) (hf : POk2 X.K X.mg r f) (ha : PE X a (tD X.K X.mg Wx ma)) (hb : PE X b (tD X.K X.mg Wx mb)) : PE X (.BinOp a op b pos) (tD X.K X.mg Wx (mBin f ma mb)) :=
  pe_imp (pe_op ho ha hb) (tOp_of hf)
theorem j_cmp {op : CmpOp} {r : R2} {f : D → D → Store → Option D} (ho : OpR X (compareOp op) r) (hf : POk2 X.K X.mg r f) (hm : behindInMarks op b = false) (ha : PE X a (tD X.K X.mg Wx ma)) (hb : PE X b (tD X.K X.mg Wx mb)) : PE X (.Compare a [op] [b] pos) (tD X.K X.mg Wx (mBin f ma mb)) :=
  pe_imp (pe_cmpR ho ha hb hm) (tOp_of hf)
theorem j_un {op : UnaryOp} {r : V → Hp → VK → Prop} {f : D → Store → Option D} (ho : UnR X (unaryOp op) r) (hf : POk1 X.K X.mg r f) (ha : PE X a (tD X.K X.mg Wx ma)) : PE X (.UnaryOp op a pos) (tD X.K X.mg Wx (mUn f ma)) := by
  refine pe_imp (pe_un ho ha) fun g H Q h => ?_
  obtain ⟨T, r, S, rs, sim, h⟩ := h
  refine ⟨T, r, S, rs, sim, Out.bind h fun x S1 T1 H1 v st sim1 rel h1 => ?_⟩
  exact Out.use h1 fun d e k => hf T1 S1 H1 v x d Q sim1 rel e fun H' v' s' => k T1 H' v' s'
theorem j_ix {r : R2} {f : D → D → Store → Option D} (ho : IxR X r) (hf : POk2 X.K X.mg r f) (hs : PlainIx b) (ha : PE X a (tD X.K X.mg Wx ma)) (hb : PE X b (tD X.K X.mg Wx mb)) : PE X (.Subscript a b pos) (tD X.K X.mg Wx (mBin f ma mb)) :=
  pe_imp (pe_ix ho ha hb hs) (tOp_of hf)
theorem tCB_of {K : PySem.W.Frag} {mg : Str → Option Value} {r : List V → Hp → VK → Prop} {f : List D → Store → Option D} (hf : POk K mg r f) : ∀ g H Q, tD K mg Wx (mCall f ms) g H Q → tCB r (tDA K mg Wx ms) g H Q := by
  intro g H Q h
  obtain ⟨T, r, S, rs, sim, h⟩ := h
  refine ⟨T, r, S, rs, sim, Out.bind h fun x S1 T1 H1 v st sim1 rel h1 => ?_⟩
  exact Out.use h1 fun d e k => hf T1 S1 H1 v x d Q sim1 rel e fun H' v' s' => k T1 H' v' s'
theorem j_callB {x : Str} {p : Pos} {e : Expr} {id : String} {r : List V → Hp → VK → Prop} {f : List D → Store → Option D} (hc : CallR X (.builtin id) r) (hf : POk X.K X.mg r f) (hg : Gl X x) (hm : X.mg x = none) (hv : bootBuiltins x = some (.builtin id)) (ha : PA X (e :: es) (tDA X.K X.mg Wx ms))
    (hn : x ≠ "__name__" := by decide) (hdb : (x == ("__debug__" : Str)) = false := by decide) (he : starEach (e :: es) X.env = (false, eval e X.env) :: starEach es X.env := by rfl) (hpl : (backTo pos (starEach es X.env)).any (·.1) = false := by rfl) :
    PE X (.Call (.Name x p) (e :: es) [] pos) (tD X.K X.mg Wx (mCall f ms)) := pe_imp (pe_callB hc hg hm hv ha hn hdb he hpl) (tCB_of hf)
theorem j_callT {x : Str} {p : Pos} {e : Expr} {id : String} {r : List V → Hp → VK → Prop} {f : List D → Store → Option D} (hc : CallR X (.type id) r) (hf : POk X.K X.mg r f) (hg : Gl X x) (hm : X.mg x = none) (hv : bootBuiltins x = some (.type id)) (ha : PA X (e :: es) (tDA X.K X.mg Wx ms))
    (hn : x ≠ "__name__" := by decide) (hdb : (x == ("__debug__" : Str)) = false := by decide) (he : starEach (e :: es) X.env = (false, eval e X.env) :: starEach es X.env := by rfl) (hpl : (backTo pos (starEach es X.env)).any (·.1) = false := by rfl) :
    PE X (.Call (.Name x p) (e :: es) [] pos) (tD X.K X.mg Wx (mCall f ms)) := pe_imp (pe_callTy hc hg hm hv ha hn hdb he hpl) (tCB_of hf)
end
end Dv
namespace Dv
open PySem L2
theorem Rep.bl_of {K : PySem.W.Frag} {T : Tb} {H : Hp} {v : V} {b : Bool} (h : Rep K T H v (.bl b)) : v = .bl b := by
  cases h
  rfl
theorem Rep.int_of {K : PySem.W.Frag} {T : Tb} {H : Hp} {v : V} {b : Int} (h : Rep K T H v (.int b)) : v = .int b := by
  cases h
  rfl
theorem Rep.str_of {K : PySem.W.Frag} {T : Tb} {H : Hp} {v : V} {b : Str} (h : Rep K T H v (.str b)) : v = .str b := by
  cases h
  rfl
theorem Rep.non_of {K : PySem.W.Frag} {T : Tb} {H : Hp} {v : V} (h : Rep K T H v .non) : v = .non := by
  cases h
  rfl
/-! ### truths -/
def asB (d : D) : Option Bool := match d with
  | .bl b => some b
  | _ => none
def truD (d : D) (S : Store) : Option Bool := match d with
  | .non => some false
  | .bl b => some b
  | .int i => some (i != 0)
  | .str x => if x.length ≤ 100000 then some ((x.length : Int) != 0) else none
  | .tup xs => some (!xs.isEmpty)
  | .lst xs => some (!xs.isEmpty)
  | .scr ns => some (!ns.isEmpty)
  | .loc n => match S[n]? with
    | some (.lst xs) => some (!xs.isEmpty)
    | _ => none
  | _ => none
def mT (m : EM) : BM := fun r S => (m r S).bind fun d S1 => ofO (asB d) S1
def mTru (m : EM) : BM := fun r S => (m r S).bind fun d S1 => ofO (truD d S1) S1
def mNotT (m : BM) : BM := fun r S => (m r S).bind fun b S1 => .ok (!b) S1
def mAndT (ma mb : BM) : BM := fun r S => (ma r S).bind fun b S1 => if b = true then mb r S1 else .ok false S1
def mOrT (ma mb : BM) : BM := fun r S => (ma r S).bind fun b S1 => if b = true then .ok true S1 else mb r S1
def mAnd (ma mb : EM) : EM := fun r S => (ma r S).bind fun d S1 => match d with
  | .bl true => mb r S1
  | .bl false => .ok (.bl false) S1
  | _ => .bad
def mOr (ma mb : EM) : EM := fun r S => (ma r S).bind fun d S1 => match d with
  | .bl true => .ok (.bl true) S1
  | .bl false => mb r S1
  | _ => .bad
def mNot (ma : EM) : EM := fun r S => (ma r S).bind fun d S1 => match d with
  | .bl b => .ok (.bl (!b)) S1
  | _ => .bad
def mIf (mt : BM) (ma mb : EM) : EM := fun r S => (mt r S).bind fun b S1 => if b = true then ma r S1 else mb r S1
/-- a comparison of three, the middle one told once -/
def mChain (f f' : D → D → Store → Option D) (ma mb mc : EM) : EM := fun r S => (ma r S).bind fun a S1 => (mb r S1).bind fun b S2 => (ofO (f a b S2) S2).bind fun d S3 => match d with
  | .bl true => (mc r S3).bind fun c S4 => ofO (f' b c S4) S4
  | .bl false => .ok (.bl false) S3
  | _ => .bad
section
variable {X : Cx} {Wx : WX} {a b c : Expr} {rest : List Expr} {pos : Pos} {ma mb mc : EM} {ta tb : BM}
theorem isEmpty_rep {K : PySem.W.Frag} {T : Tb} {H : Hp} {xs : List V} {ds : List D} (h : RepL K T H xs ds) : (!xs.isEmpty) = !ds.isEmpty := by
  cases h <;> rfl
theorem truD_ok {K : PySem.W.Frag} {mg : Str → Option Value} {T : Tb} {S : Store} {H : Hp} {v : V} {d : D} {b : Bool} (sim : Sim K mg T S H) (h : Rep K T H v d) (e : truD d S = some b) : TruV K v H b := by
  cases h with
  | non => cases e; rfl
  | bl x => cases e; rfl
  | int i => cases e; rfl
  | str x =>
    have e : (if x.length ≤ 100000 then some ((x.length : Int) != 0) else none) = some b := e
    by_cases hz : x.length ≤ 100000
    · rw [if_pos hz] at e
      cases e
      exact ⟨sz5 hz, rfl⟩
    · rw [if_neg hz] at e
      cases e
  | tup h n r => cases e; exact .inr (.inl ⟨_, SqT.of h, (isEmpty_rep r).symm⟩)
  | lst h n r => cases e; exact .inl ⟨_, SqL.of h, (isEmpty_rep r).symm⟩
  | scr h =>
    cases e
    refine .inl ⟨_, h.sq, ?_⟩
    rename_i ns
    cases ns <;> rfl
  | dct h n q r => cases e
  | ty x => cases e
  | loc hn =>
    simp only [truD] at e
    split at e
    · rename_i xs q
      cases e
      obtain ⟨ys, h1, h2⟩ := sim.obj _ _ _ hn q
      exact .inl ⟨ys, .inl (.inl h1), (isEmpty_rep h2).symm⟩
    · cases e
theorem tTest_of {K : PySem.W.Frag} {mg : Str → Option Value} : ∀ g H Q, tDT K mg Wx (mT ma) g H Q → tTest (tD K mg Wx ma) g H Q := by
  intro g H Q h
  obtain ⟨T, r, S, rs, sim, h⟩ := h
  refine ⟨T, r, S, rs, sim, Out.bind h fun x S1 T1 H1 v st sim1 rel h1 => ?_⟩
  refine Out.use h1 fun k e q => ?_
  cases x <;> cases e
  rw [rel.bl_of]
  exact ⟨_, rfl, q T1 H1 _ (Step.refl T1 H1) sim1 rfl⟩
theorem jt_cmp {op : CmpOp} {r : R2} {f : D → D → Store → Option D} (ho : OpR X (compareOp op) r) (hf : POk2 X.K X.mg r f) (hm : behindInMarks op b = false) (ha : PE X a (tD X.K X.mg Wx ma)) (hb : PE X b (tD X.K X.mg Wx mb)) : PT X (.Compare a [op] [b] pos) (tDT X.K X.mg Wx (mT (mBin f ma mb))) :=
  pt_imp (pt_cmpR ho ha hb hm) fun g H Q h => by
    obtain ⟨T, r, S, rs, sim, h⟩ := tTest_of g H Q h
    exact tOp_of hf g H _ ⟨T, r, S, rs, sim, h⟩
theorem jt_tru (ha : PE X a (tD X.K X.mg Wx ma)) (he : ∀ whole, isTrue a X.env whole = (do let v ← whole; standAt a.pos; holding [v] (truthy v)) := by intro _; rfl) : PT X a (tDT X.K X.mg Wx (mTru ma)) :=
  pt_imp (pt_truth ha he) fun g H Q h => by
    obtain ⟨T, r, S, rs, sim, h⟩ := h
    refine ⟨T, r, S, rs, sim, Out.bind h fun x S1 T1 H1 v st sim1 rel h1 => ?_⟩
    exact Out.use h1 fun k e q => ⟨k, truD_ok sim1 rel e, q T1 H1 k (Step.refl T1 H1) sim1 rfl⟩
theorem jt_not (ha : PT X a (tDT X.K X.mg Wx ta)) : PT X (.UnaryOp .Not a pos) (tDT X.K X.mg Wx (mNotT ta)) :=
  pt_imp (pt_not ha) fun g H Q h => by
    obtain ⟨T, r, S, rs, sim, h⟩ := h
    refine ⟨T, r, S, rs, sim, Out.bind h fun x S1 T1 H1 v st sim1 rel h1 => ?_⟩
    subst rel
    exact h1 T1 H1 _ (Step.refl T1 H1) sim1 rfl
theorem jw_and1 (ha : PT X a (tDT X.K X.mg Wx ta)) : PW X (.BoolOp .And [a] pos) (tDT X.K X.mg Wx ta) := pw_and1 ha
theorem jw_or1 (ha : PT X a (tDT X.K X.mg Wx ta)) : PW X (.BoolOp .Or [a] pos) (tDT X.K X.mg Wx ta) := pw_or1 ha
theorem jw_and (ha : PT X a (tDT X.K X.mg Wx ta)) (hb : PW X (.BoolOp .And (b :: rest) pos) (tDT X.K X.mg Wx tb)) : PW X (.BoolOp .And (a :: b :: rest) pos) (tDT X.K X.mg Wx (mAndT ta tb)) :=
  pw_imp (pw_and ha hb) fun g H Q h => by
    obtain ⟨T, r, S, rs, sim, h⟩ := h
    refine ⟨T, r, S, rs, sim, Out.bind h fun x S1 T1 H1 v st sim1 rel h1 => ?_⟩
    subst rel
    cases v with
    | true => exact ⟨T1, r, S1, rs.step st, sim1, h1⟩
    | false => exact h1 T1 H1 _ (Step.refl T1 H1) sim1 rfl
theorem jw_or (ha : PT X a (tDT X.K X.mg Wx ta)) (hb : PW X (.BoolOp .Or (b :: rest) pos) (tDT X.K X.mg Wx tb)) : PW X (.BoolOp .Or (a :: b :: rest) pos) (tDT X.K X.mg Wx (mOrT ta tb)) :=
  pw_imp (pw_or ha hb) fun g H Q h => by
    obtain ⟨T, r, S, rs, sim, h⟩ := h
    refine ⟨T, r, S, rs, sim, Out.bind h fun x S1 T1 H1 v st sim1 rel h1 => ?_⟩
    subst rel
    cases v with
    | true => exact h1 T1 H1 _ (Step.refl T1 H1) sim1 rfl
    | false => exact ⟨T1, r, S1, rs.step st, sim1, h1⟩
theorem jw_pt {e : Expr} (h : PW X e (tDT X.K X.mg Wx ta)) : PT X e (tDT X.K X.mg Wx ta) := PW.pt h
theorem j_one {op} (h : PE X a (tD X.K X.mg Wx ma)) : PE X (.BoolOp op [a] pos) (tD X.K X.mg Wx ma) := pe_one h
theorem j_and (ha : PE X a (tD X.K X.mg Wx ma)) (hb : PE X (.BoolOp .And (b :: rest) pos) (tD X.K X.mg Wx mb)) : PE X (.BoolOp .And (a :: b :: rest) pos) (tD X.K X.mg Wx (mAnd ma mb)) :=
  pe_imp (pe_and ha hb) fun g H Q h => by
    obtain ⟨T, r, S, rs, sim, h⟩ := h
    refine ⟨T, r, S, rs, sim, Out.bind h fun x S1 T1 H1 v st sim1 rel h1 => ?_⟩
    cases x with
    | bl k =>
      rw [rel.bl_of]
      refine ⟨k, rfl, ?_⟩
      cases k with
      | true => exact ⟨T1, r, S1, rs.step st, sim1, h1⟩
      | false => exact h1 T1 H1 _ (Step.refl T1 H1) sim1 (.bl false)
    | _ => exact h1.elim
theorem j_or (ha : PE X a (tD X.K X.mg Wx ma)) (hb : PE X (.BoolOp .Or (b :: rest) pos) (tD X.K X.mg Wx mb)) : PE X (.BoolOp .Or (a :: b :: rest) pos) (tD X.K X.mg Wx (mOr ma mb)) :=
  pe_imp (pe_or ha hb) fun g H Q h => by
    obtain ⟨T, r, S, rs, sim, h⟩ := h
    refine ⟨T, r, S, rs, sim, Out.bind h fun x S1 T1 H1 v st sim1 rel h1 => ?_⟩
    cases x with
    | bl k =>
      rw [rel.bl_of]
      refine ⟨k, rfl, ?_⟩
      cases k with
      | true => exact h1 T1 H1 _ (Step.refl T1 H1) sim1 (.bl true)
      | false => exact ⟨T1, r, S1, rs.step st, sim1, h1⟩
    | _ => exact h1.elim
theorem j_not (ha : PE X a (tD X.K X.mg Wx ma)) : PE X (.UnaryOp .Not a pos) (tD X.K X.mg Wx (mNot ma)) :=
  pe_imp (pe_not ha) fun g H Q h => by
    obtain ⟨T, r, S, rs, sim, h⟩ := h
    refine ⟨T, r, S, rs, sim, Out.bind h fun x S1 T1 H1 v st sim1 rel h1 => ?_⟩
    cases x with
    | bl k =>
      rw [rel.bl_of]
      exact ⟨k, rfl, h1 T1 H1 _ (Step.refl T1 H1) sim1 (.bl (!k))⟩
    | _ => exact h1.elim
theorem j_if (hc : PT X c (tDT X.K X.mg Wx ta)) (ha : PE X a (tD X.K X.mg Wx ma)) (hb : PE X b (tD X.K X.mg Wx mb)) : PE X (.IfExp c a b pos) (tD X.K X.mg Wx (mIf ta ma mb)) :=
  pe_imp (pe_ifExp hc ha hb) fun g H Q h => by
    obtain ⟨T, r, S, rs, sim, h⟩ := h
    refine ⟨T, r, S, rs, sim, Out.bind h fun x S1 T1 H1 v st sim1 rel h1 => ?_⟩
    subst rel
    cases v with
    | true => exact ⟨T1, r, S1, rs.step st, sim1, h1⟩
    | false => exact ⟨T1, r, S1, rs.step st, sim1, h1⟩
theorem tChain_of {K : PySem.W.Frag} {mg : Str → Option Value} {r r' : R2} {f f' : D → D → Store → Option D} (hf : POk2 K mg r f) (hf' : POk2 K mg r' f') : ∀ g H Q, tD K mg Wx (mChain f f' ma mb mc) g H Q → tChain r r' (tD K mg Wx ma) (tD K mg Wx mb) (tD K mg Wx mc) g H Q := by
  intro g H Q h
  obtain ⟨T, en, S, rs, sim, h⟩ := h
  refine ⟨T, en, S, rs, sim, Out.bind h fun x S1 T1 H1 v st sim1 rel h1 => ?_⟩
  refine ⟨T1, en, S1, rs.step st, sim1, Out.bind h1 fun y S2 T2 H2 w st2 sim2 rel2 h2 => ?_⟩
  have h3 := Out.bind (relA := Rep K) (Q1 := fun z H3 => ∃ k, z = V.bl k ∧ (if k = true then tD K mg Wx mc g H3 fun w' H4 => r' w w' H4 Q else Q (.bl false) H3)) h2 fun d S3 T3 H3 z st3 sim3 rel3 h3 => by
    cases d with
    | bl k =>
      rw [rel3.bl_of]
      refine ⟨k, rfl, ?_⟩
      cases k with
      | false => exact h3 T3 H3 _ (Step.refl T3 H3) sim3 (.bl false)
      | true =>
        refine ⟨T3, en, S3, (rs.step st).step (st2.trans st3), sim3, Out.bind h3 fun u S4 T4 H4 w4 st4 sim4 rel4 h4 => ?_⟩
        exact Out.use h4 fun d' e' k' => hf' T4 S4 H4 w w4 y u d' Q sim4 (rel2.step (st3.trans st4)) rel4 e' fun H' v' s' => k' T4 H' v' s'
    | _ => exact h3.elim
  exact Out.use h3 fun d e k => hf T2 S2 H2 v w x y d _ sim2 (rel.step st2) rel2 e fun H' v' s' => k T2 H' v' s'
theorem j_chain {op op' : CmpOp} {r r' : R2} {f f' : D → D → Store → Option D} (ho : OpR X (compareOp op) r) (hf : POk2 X.K X.mg r f) (ho' : OpR X (compareOp op') r') (hf' : POk2 X.K X.mg r' f') (ha : PE X a (tD X.K X.mg Wx ma)) (hb : PE X b (tD X.K X.mg Wx mb)) (hc : PE X c (tD X.K X.mg Wx mc)) (hm : lastMarks [op, op'] [b, c] = false := by with_unfolding_all rfl) :
    PE X (.Compare a [op, op'] [b, c] pos) (tD X.K X.mg Wx (mChain f f' ma mb mc)) :=
  pe_imp (pe_chain ho ho' ha hb hc hm) (tChain_of hf hf')
theorem jt_chain {op op' : CmpOp} {r r' : R2} {f f' : D → D → Store → Option D} (ho : OpR X (compareOp op) r) (hf : POk2 X.K X.mg r f) (ho' : OpR X (compareOp op') r') (hf' : POk2 X.K X.mg r' f') (ha : PE X a (tD X.K X.mg Wx ma)) (hb : PE X b (tD X.K X.mg Wx mb)) (hc : PE X c (tD X.K X.mg Wx mc)) (hm : lastMarks [op, op'] [b, c] = false := by with_unfolding_all rfl) :
    PT X (.Compare a [op, op'] [b, c] pos) (tDT X.K X.mg Wx (mT (mChain f f' ma mb mc))) :=
  pt_imp (pt_chain ho ho' ha hb hc hm) fun g H Q h => by
    obtain ⟨T, r, S, rs, sim, h⟩ := tTest_of g H Q h
    exact tChain_of hf hf' g H _ ⟨T, r, S, rs, sim, h⟩
end
end Dv
namespace Dv
open PySem L2
def bindS {α : Type} (x : R α) (r : Env) (f : α → Store → Z) : Z := match x with
  | .ok a S => f a S
  | .exc n S => .exc n r S
  | .bad => .bad
section
variable {K : PySem.W.Frag} {mg : Str → Option Value} {Wx : WX} {T T1 : Tb} {H H1 : Hp} {E : Ends} {α β : Type} {rel : Tb → Hp → β → α → Prop} {r : Env} {g : St}
theorem ZOut.step {z : Z} (st : Step T H T1 H1) (h : ZOut K mg Wx T H z E) : ZOut K mg Wx T1 H1 z E := by
  cases z with
  | bad => exact h
  | exc n r' S' => exact fun T' H' g' s => h T' H' g' (st.trans s)
  | ok f r' S' =>
    cases f with
    | next => exact fun T' H' g' s => h T' H' g' (st.trans s)
    | ret d => exact fun T' H' g' s => h T' H' g' (st.trans s)
    | brk => exact fun T' H' g' s => h T' H' g' (st.trans s)
    | cont => exact fun T' H' g' s => h T' H' g' (st.trans s)
theorem ZOut.bind {x : R α} {f : α → Store → Z} {Q : β → Hp → Prop} (h : ZOut K mg Wx T H (bindS x r f) E) (rs : RepSt K T H r g)
    (k : ∀ a S T1 H1 v, Step T H T1 H1 → Sim K mg T1 S H1 → rel T1 H1 v a → RepSt K T1 H1 r g → ZOut K mg Wx T1 H1 (f a S) E → Q v H1) : Out K mg Wx rel T g H x Q := by
  cases x with
  | bad => exact h
  | exc n S => exact fun T1 H1 st sim => h T1 H1 g st sim (rs.step st)
  | ok a S => exact fun T1 H1 v st sim rl => k a S T1 H1 v st sim rl (rs.step st) (ZOut.step st h)
theorem ZOut.nx {r : Env} {S : Store} {g : St} (h : ZOut K mg Wx T H (.ok .next r S) E) (sim : Sim K mg T S H) (rs : RepSt K T H r g) : E.nx g H := h T H g (Step.refl T H) sim rs
end
/-! ### blocks and small statements -/
def sNil : SM := fun r S => .ok .next r S
def sSeq (a b : SM) : SM := fun r S => match a r S with
  | .ok .next r1 S1 => b r1 S1
  | z => z
def sSet (i : Nat) (m : EM) : SM := fun r S => bindS (m r S) r fun d S1 => .ok .next (r.set i (some d)) S1
def sDrop (m : EM) : SM := fun r S => bindS (m r S) r fun _ S1 => .ok .next r S1
def sRet (m : EM) : SM := fun r S => bindS (m r S) r fun d S1 => .ok (.ret d) r S1
def sRetN : SM := fun r S => .ok (.ret .non) r S
def sIf (c : BM) (a b : SM) : SM := fun r S => bindS (c r S) r fun k S1 => if k = true then a r S1 else b r S1
def sBrk : SM := fun r S => .ok .brk r S
def sCont : SM := fun r S => .ok .cont r S
def sNever : SM := fun _ _ => .bad
/-- names told no more -/
def sForget (i : Nat) (a : SM) : SM := fun r S => a (r.set i none) S
def sAug (i : Nat) (f : Int → Int → Int) (m : EM) : SM := fun r S => match r[i]? with
  | some (some (.int a)) => bindS (m r S) r fun d S1 => match d with
    | .int b => .ok .next (r.set i (some (.int (f a b)))) S1
    | _ => .bad
  | _ => .bad
def sPar (i j : Nat) (ms : AM) : SM := fun r S => bindS (ms r S) r fun ds S1 => match ds with
  | [a, b] => .ok .next ((r.set i (some a)).set j (some b)) S1
  | _ => .bad
section
variable {X : Cx} {Wx : WX} {st : Stmt} {rest : List Stmt} {pos pos' : Pos} {e : Expr} {m : EM} {sa sb : SM} {c : BM}
theorem js_nil : PSs X [] (tDS X.K X.mg Wx sNil) := pss_imp pss_nil fun E g H h => by
  obtain ⟨T, r, S, rs, sim, h⟩ := h
  exact h.nx sim rs
theorem js_cons (h1 : PS X st (tDS X.K X.mg Wx sa)) (h2 : PSs X rest (tDS X.K X.mg Wx sb)) : PSs X (st :: rest) (tDS X.K X.mg Wx (sSeq sa sb)) := pss_imp (pss_cons h1 h2) fun E g H h => by
  obtain ⟨T, r, S, rs, sim, h⟩ := h
  refine ⟨T, r, S, rs, sim, ?_⟩
  unfold sSeq at h
  revert h
  cases sa r S with
  | bad => exact fun h => h
  | exc n r' S' => exact fun h => h
  | ok f r' S' =>
    cases f with
    | next => exact fun h T' H' g' s sim' rs' => ⟨T', r', S', rs', sim', ZOut.step s h⟩
    | ret d => exact fun h => h
    | brk => exact fun h => h
    | cont => exact fun h => h
theorem js_one (h1 : PS X st (tDS X.K X.mg Wx sa)) : PSs X [st] (tDS X.K X.mg Wx sa) := pss_one h1
theorem js_set {i : Nat} {x : Str} (hN : X.N.Nodup) (hi : X.N[i]? = some x) (hx : Loc X.env.scope x) (he : PE X e (tD X.K X.mg Wx m)) (hs : swapsWith e (some (.Name x pos')) pos.line X.env = pure false := by rfl)
    (hf : X.fn x = true ∨ X.env.scope.names.lookup x = some .local := by first | exact .inl rfl | exact .inr rfl | assumption) : PS X (.Assign [.Name x pos'] e pos) (tDS X.K X.mg Wx (sSet i m)) :=
  ps_imp (ps_set hN hi hx he hs hf) fun E g H h => by
    obtain ⟨T, r, S, rs, sim, h⟩ := h
    refine ⟨T, r, S, rs, sim, ZOut.bind h rs fun d S1 T1 H1 v st sim1 rel rs1 h1 => ?_⟩
    exact h1.nx sim1 (rs1.set rel)
theorem js_drop (he : PE X e (tD X.K X.mg Wx m)) (hs : swapsWith e none pos.line X.env = pure false := by rfl) : PS X (.Expr e pos) (tDS X.K X.mg Wx (sDrop m)) :=
  ps_imp (ps_expr he hs) fun E g H h => by
    obtain ⟨T, r, S, rs, sim, h⟩ := h
    refine ⟨T, r, S, rs, sim, ZOut.bind h rs fun d S1 T1 H1 v st sim1 rel rs1 h1 => ?_⟩
    exact h1.nx sim1 rs1
theorem js_ret (he : PE X e (tD X.K X.mg Wx m)) : PS X (.Return (some e) pos) (tDS X.K X.mg Wx (sRet m)) :=
  ps_imp (ps_ret he) fun E g H h => by
    obtain ⟨T, r, S, rs, sim, h⟩ := h
    refine ⟨T, r, S, rs, sim, ZOut.bind h rs fun d S1 T1 H1 v st sim1 rel rs1 h1 => ?_⟩
    exact h1 T1 H1 v (Step.refl T1 H1) sim1 rel
theorem js_retN : PS X (.Return none pos) (tDS X.K X.mg Wx sRetN) := ps_imp ps_retN fun E g H h => by
  obtain ⟨T, r, S, rs, sim, h⟩ := h
  exact h T H .non (Step.refl T H) sim .non
theorem js_brk : PS X (.Break pos) (tDS X.K X.mg Wx sBrk) := ps_imp ps_break fun E g H h => by
  obtain ⟨T, r, S, rs, sim, h⟩ := h
  exact h T H g (Step.refl T H) sim rs
theorem js_cont : PS X (.Continue pos) (tDS X.K X.mg Wx sCont) := ps_imp ps_continue fun E g H h => by
  obtain ⟨T, r, S, rs, sim, h⟩ := h
  exact h T H g (Step.refl T H) sim rs
theorem js_never : PS X st (tDS X.K X.mg Wx sNever) := ps_imp ps_never fun E g H h => by
  obtain ⟨T, r, S, rs, sim, h⟩ := h
  exact h
theorem js_doc {x j} : PS X (.Expr (.Constant (.str x) j pos) pos') (tDS X.K X.mg Wx sNil) := ps_imp ps_doc fun E g H h => by
  obtain ⟨T, r, S, rs, sim, h⟩ := h
  exact h.nx sim rs
theorem js_forget {i : Nat} (h1 : PS X st (tDS X.K X.mg Wx sa)) : PS X st (tDS X.K X.mg Wx (sForget i sa)) := ps_imp h1 fun E g H h => by
  obtain ⟨T, r, S, rs, sim, h⟩ := h
  exact ⟨T, r.set i none, S, rs.forget, sim, h⟩
theorem jss_forget {i : Nat} {sts : List Stmt} (h1 : PSs X sts (tDS X.K X.mg Wx sa)) : PSs X sts (tDS X.K X.mg Wx (sForget i sa)) := pss_imp h1 fun E g H h => by
  obtain ⟨T, r, S, rs, sim, h⟩ := h
  exact ⟨T, r.set i none, S, rs.forget, sim, h⟩
theorem js_if {t : Expr} {a b : List Stmt} (hc : PT X t (tDT X.K X.mg Wx c)) (ha : PSs X a (tDS X.K X.mg Wx sa)) (hb : PSs X b (tDS X.K X.mg Wx sb)) : PS X (.If t a b pos) (tDS X.K X.mg Wx (sIf c sa sb)) :=
  ps_imp (ps_if hc ha hb) fun E g H h => by
    obtain ⟨T, r, S, rs, sim, h⟩ := h
    refine ⟨T, r, S, rs, sim, ZOut.bind h rs fun d S1 T1 H1 v st sim1 rel rs1 h1 => ?_⟩
    subst rel
    cases v with
    | true => exact ⟨T1, r, S1, rs1, sim1, h1⟩
    | false => exact ⟨T1, r, S1, rs1, sim1, h1⟩
theorem js_augI {i : Nat} {x : Str} {op : Operator} {f : Int → Int → Int} (hN : X.N.Nodup) (hi : X.N[i]? = some x) (hx : Loc X.env.scope x) (ho : PIp X op (ipI f)) (he : PE X e (tD X.K X.mg Wx m))
    (hf : X.fn x = true ∨ X.env.scope.names.lookup x = some .local := by first | exact .inl rfl | exact .inr rfl | assumption) : PS X (.AugAssign (.Name x pos') op e pos) (tDS X.K X.mg Wx (sAug i f m)) :=
  ps_imp (ps_aug hN hi hx he ho hf) fun E g H h => by
    obtain ⟨T, r, S, rs, sim, h⟩ := h
    unfold sAug at h
    split at h
    · rename_i a ea
      obtain ⟨v, h1, h2⟩ := rs.2 i _ ea
      refine ⟨v, h1, T, r, S, rs, sim, ZOut.bind h rs fun d S1 T1 H1 w st sim1 rel rs1 h3 => ?_⟩
      cases d with
      | int b =>
        rw [rel.int_of]
        exact ⟨a, b, h2.int_of, rfl, h3.nx sim1 (rs1.set (.int _))⟩
      | _ => exact h3.elim
    · exact h.elim
theorem js_par {i j : Nat} {x y : Str} {a b : Expr} {ms : AM} {px py pt : Pos} {kt k2 pt2} (hc : X.calm = true) (hN : X.N.Nodup) (hi : X.N[i]? = some x) (hj : X.N[j]? = some y) (hij : i ≠ j)
    (hx : X.env.scope.names.lookup x = some .local) (hy : X.env.scope.names.lookup y = some .local) (ha : PA X [a, b] (tDA X.K X.mg Wx ms))
    (hw : swappedStores [.Tuple [.Name x px, .Name y py] kt pt] (.Tuple [a, b] k2 pt2) X.env = pure (some [x, y]))
    (hs : swapsWithSole [.Tuple [.Name x px, .Name y py] kt pt] (.Tuple [a, b] k2 pt2) pos.line X.env = pure false := by rfl) :
    PS X (.Assign [.Tuple [.Name x px, .Name y py] kt pt] (.Tuple [a, b] k2 pt2) pos) (tDS X.K X.mg Wx (sPar i j ms)) :=
  ps_imp (ps_par hc hN hi hj hij hx hy ha hw hs) fun E g H h => by
    obtain ⟨T, r, S, rs, sim, h⟩ := h
    refine ⟨T, r, S, rs, sim, ZOut.bind h rs fun d S1 T1 H1 v st sim1 rel rs1 h1 => ?_⟩
    cases rel with
    | nil => exact h1.elim
    | cons q1 rel =>
      cases rel with
      | nil => exact h1.elim
      | cons q2 rel =>
        cases rel with
        | nil => exact ⟨_, _, rfl, h1.nx sim1 ((rs1.set q1).set q2)⟩
        | cons _ _ => exact h1.elim
end

/-! ### targets -/
def gD (K : PySem.W.Frag) (mg : Str → Option Value) (sl : List Nat) (gm : D → Env → Option Env) : TG := fun v g H Q => ∃ T r S d r', RepSt K T H r g ∧ Sim K mg T S H ∧ Rep K T H v d ∧ gm d r = some r' ∧
  ∀ g', RepSt K T H r' g' → g'.length = g.length → (∀ j, j ∉ sl → g'[j]? = g[j]?) → Q g' H
def gDs (K : PySem.W.Frag) (mg : Str → Option Value) (sl : List Nat) (gm : List D → Env → Option Env) : TGs := fun vs g H Q => ∃ T r S ds r', RepSt K T H r g ∧ Sim K mg T S H ∧ RepL K T H vs ds ∧ gm ds r = some r' ∧
  ∀ g', RepSt K T H r' g' → g'.length = g.length → (∀ j, j ∉ sl → g'[j]? = g[j]?) → Q g' H
def tgN (i : Nat) : D → Env → Option Env := fun d r => some (r.set i (some d))
def tgsNil : List D → Env → Option Env := fun ds r => match ds with
  | [] => some r
  | _ => none
def tgsCons (a : D → Env → Option Env) (b : List D → Env → Option Env) : List D → Env → Option Env := fun ds r => match ds with
  | d :: ds => (a d r).bind fun r1 => b ds r1
  | [] => none
def tgT (n : Nat) (b : List D → Env → Option Env) : D → Env → Option Env := fun d r => match d with
  | .tup ds => if ds.length = n then b ds r else none
  | _ => none
section
variable {X : Cx} {pos : Pos}
theorem pg_imp {tg : Expr} {t t' : TG} (h : PG X tg t) (i : ∀ v g H Q, t' v g H Q → t v g H Q) : PG X tg t' := ⟨fun pins s g H v u Q I r w => h.run pins s g H v u Q I r (i v g H Q w)⟩
theorem pgs_imp {tg : List Expr} {t t' : TGs} (h : PGs X tg t) (i : ∀ v g H Q, t' v g H Q → t v g H Q) : PGs X tg t' := ⟨fun pins s g H v u Q I r w => h.run pins s g H v u Q I r (i v g H Q w)⟩
theorem jg_name {i : Nat} {x : Str} (hN : X.N.Nodup) (hi : X.N[i]? = some x) (hx : Loc X.env.scope x) (hf : X.fn x = true ∨ X.env.scope.names.lookup x = some .local := by first | exact .inl rfl | exact .inr rfl | assumption) : PG X (.Name x pos) (gD X.K X.mg [i] (tgN i)) :=
  pg_imp (pg_name hN hi hx hf) fun v g H Q h => by
    obtain ⟨T, r, S, d, r', rs, sim, rep, e, k⟩ := h
    cases e
    exact k _ (rs.set rep) List.length_set fun j hj => List.getElem?_set_ne fun q => hj (by rw [q]; exact List.mem_singleton.mpr rfl)
theorem jgs_nil : PGs X [] (gDs X.K X.mg [] tgsNil) := pgs_imp pgs_nil fun v g H Q h => by
  obtain ⟨T, r, S, d, r', rs, sim, rep, e, k⟩ := h
  cases rep with
  | nil =>
    cases e
    exact ⟨rfl, k g rs rfl fun _ _ => rfl⟩
  | cons _ _ => cases e
theorem jgs_cons {e : Expr} {es : List Expr} {sl sl2 : List Nat} {a : D → Env → Option Env} {b : List D → Env → Option Env} (h1 : PG X e (gD X.K X.mg sl a)) (h2 : PGs X es (gDs X.K X.mg sl2 b))
    (hs : (assignEach (e :: es) X.env).map (·.2) = assign e X.env :: (assignEach es X.env).map (·.2) := by rfl) : PGs X (e :: es) (gDs X.K X.mg (sl ++ sl2) (tgsCons a b)) := pgs_imp (pgs_cons h1 h2 hs) fun v g H Q h => by
  obtain ⟨T, r, S, ds, r', rs, sim, rep, e, k⟩ := h
  cases rep with
  | nil => cases e
  | @cons x vs d ds q1 q2 =>
    have e : (a d r).bind (fun r1 => b ds r1) = some r' := e
    cases q : a d r with
    | none => rw [q] at e; cases e
    | some r1 =>
      rw [q] at e
      refine ⟨x, vs, rfl, T, r, S, d, r1, rs, sim, q1, q, fun g1 rs1 l1 k1 => ?_⟩
      refine ⟨T, r1, S, ds, r', rs1, sim, q2, e, fun g2 rs2 l2 k2 => k g2 rs2 (l2.trans l1) fun j hj => ?_⟩
      rw [List.mem_append, not_or] at hj
      exact (k2 j hj.2).trans (k1 j hj.1)
theorem jg_tup {es : List Expr} {k n : Nat} {sl : List Nat} {b : List D → Env → Option Env} (hc : X.calm = true) (h : PGs X es (gDs X.K X.mg sl b))
    (hn : (assignEach es X.env).length = n := by rfl) (hst : (assignEach es X.env).findIdx? (·.1) = none := by rfl) : PG X (.Tuple es k pos) (gD X.K X.mg sl (tgT n b)) := pg_imp (pg_tup hc h hn hst) fun v g H Q h => by
  obtain ⟨T, r, S, d, r', rs, sim, rep, e, k⟩ := h
  cases rep with
  | tup h1 h2 h3 =>
    simp only [tgT] at e
    split at e
    · rename_i hl
      exact ⟨_, _, rfl, SqT.of h1, by rw [h3.length]; exact hl, T, r, S, _, r', rs, sim, h3, e, k⟩
    · cases e
  | _ => cases e
end
def sAsg (m : EM) (gm : D → Env → Option Env) : SM := fun r S => bindS (m r S) r fun d S1 => match gm d r with
  | some r1 => .ok .next r1 S1
  | none => .bad
section
variable {X : Cx} {Wx : WX} {pos : Pos} {tg e : Expr} {m : EM} {sl : List Nat} {gm : D → Env → Option Env}
theorem js_asg (he : PE X e (tD X.K X.mg Wx m)) (hg : PG X tg (gD X.K X.mg sl gm)) (hs : swapsWithSole [tg] e pos.line X.env = pure false := by rfl) (hw : swappedStores [tg] e X.env = pure none := by rfl)
    (h1 : (assignEach [tg] X.env).map (·.2) = [assign tg X.env] := by rfl) : PS X (.Assign [tg] e pos) (tDS X.K X.mg Wx (sAsg m gm)) :=
  ps_imp (ps_asg he hg hs hw h1) fun E g H h => by
    obtain ⟨T, r, S, rs, sim, h⟩ := h
    refine ⟨T, r, S, rs, sim, ZOut.bind h rs fun d S1 T1 H1 v st sim1 rel rs1 h1 => ?_⟩
    split at h1
    · rename_i r1 q
      exact ⟨T1, r, S1, d, r1, rs1, sim1, rel, q, fun g' rs' _ _ => h1.nx sim1 rs'⟩
    · exact h1.elim
end

/-! ### while -/
def sWhile (c : BM) (b : SM) : Nat → SM
  | 0 => fun _ _ => .bad
  | n + 1 => fun r S => bindS (c r S) r fun k S1 => if k = true then (match b r S1 with
      | .ok .next r2 S2 => sWhile c b n r2 S2
      | .ok .cont r2 S2 => sWhile c b n r2 S2
      | .ok .brk r2 S2 => .ok .next r2 S2
      | .ok (.ret d) r2 S2 => .ok (.ret d) r2 S2
      | .exc x r2 S2 => .exc x r2 S2
      | .bad => .bad) else .ok .next r S1
section
variable {X : Cx} {Wx : WX} {pos : Pos} {c : BM} {sb : SM}
theorem js_while {t : Expr} {body : List Stmt} (n : Nat) (hp : PassesOwn (model X.prog X.w) X.A X.env X.xe) (hc : PT X t (tDT X.K X.mg Wx c)) (hb : PSs X body (tDS X.K X.mg Wx sb)) : PS X (.While t body [] pos) (tDS X.K X.mg Wx (sWhile c sb n)) :=
  ps_imp (ps_while hp hc hb) fun E g H h => by
    refine ⟨fun m g H => ∃ T r S, RepSt X.K T H r g ∧ Sim X.K X.mg T S H ∧ ZOut X.K X.mg Wx T H (sWhile c sb m r S) E, ⟨n, h⟩, fun m g H h => ?_⟩
    obtain ⟨T, r, S, rs, sim, h⟩ := h
    cases m with
    | zero => exact h.elim
    | succ m =>
      refine ⟨T, r, S, rs, sim, ZOut.bind h rs fun d S1 T1 H1 v st sim1 rel rs1 h1 => ?_⟩
      subst rel
      cases v with
      | false => exact h1.nx sim1 rs1
      | true =>
        refine ⟨fun g H => ∃ T r S, RepSt X.K T H r g ∧ Sim X.K X.mg T S H ∧ ZOut X.K X.mg Wx T H (sWhile c sb m r S) E, fun g2 H2 q => ⟨m, Nat.lt_succ_self m, q⟩, T1, r, S1, rs1, sim1, ?_⟩
        rw [if_pos rfl] at h1
        revert h1
        cases sb r S1 with
        | bad => exact fun h => h
        | exc n r' S' => exact fun h => h
        | ok f r' S' =>
          cases f with
          | next => exact fun h T' H' g' s sim' rs' => ⟨T', r', S', rs', sim', ZOut.step s h⟩
          | cont => exact fun h T' H' g' s sim' rs' => ⟨T', r', S', rs', sim', ZOut.step s h⟩
          | ret d => exact fun h => h
          | brk => exact fun h => h
end

/-! ### what is walked -/
def Walks (K : PySem.W.Frag) (mg : Str → Option Value) (T : Tb) (H : Hp) (J : It) (ds : List D) : Prop := ∀ T' S' H', Kf T H T' H' → Sim K mg T' S' H' → J.stop ds.length H' ∧
  ∀ (i : Nat) (d : D), ds[i]? = some d → J.go i H' ∧ ∀ x H2, J.yld i H' x H2 → Step T' H' T' H2 ∧ Sim K mg T' S' H2 ∧ Rep K T' H2 x d
abbrev IM := Env → Store → R (List D)
def iD (K : PySem.W.Frag) (mg : Str → Option Value) (Wx : WX) (mi : IM) : TI := fun g H Q => ∃ T r S, RepSt K T H r g ∧ Sim K mg T S H ∧
  Out K mg Wx (fun T' H' (J : It) ds => Walks K mg T' H' J ds ∧ ds.length ≤ sizeLine) T g H (mi r S) Q
theorem Kp.trans {T T1 T2 : Tb} {H H1 H2 : Hp} (a : Kp T H T1 H1) (b : Kp T1 H1 T2 H2) : Kp T H T2 H2 := ⟨fun c u k n h => b.sq c u k (a.sq c u k n h).2 (a.sq c u k n h).1, fun c u n h => b.dk c u (a.dk c u n h).2 (a.dk c u n h).1, fun n c h => b.get n c (a.get n c h)⟩
theorem Kf.trans {T T1 T2 : Tb} {H H1 H2 : Hp} (a : Kf T H T1 H1) (b : Kf T1 H1 T2 H2) : Kf T H T2 H2 := ⟨a.toKp.trans b.toKp, fun c o u n h => b.frz c o u (a.frz c o u n h).2 (a.frz c o u n h).1⟩
theorem Walks.kp {K : PySem.W.Frag} {mg : Str → Option Value} {T T1 : Tb} {H H1 : Hp} {J : It} {ds : List D} (st : Kf T H T1 H1) (h : Walks K mg T H J ds) : Walks K mg T1 H1 J ds := fun T' S' H' s sim => h T' S' H' (st.trans s) sim
def sLoop (gm : D → Env → Option Env) (b : SM) : List D → SM
  | [] => fun r S => .ok .next r S
  | d :: ds => fun r S => match gm d r with
    | none => .bad
    | some r1 => match b r1 S with
      | .ok .next r2 S2 => sLoop gm b ds r2 S2
      | .ok .cont r2 S2 => sLoop gm b ds r2 S2
      | .ok .brk r2 S2 => .ok .next r2 S2
      | .ok (.ret d) r2 S2 => .ok (.ret d) r2 S2
      | .exc x r2 S2 => .exc x r2 S2
      | .bad => .bad
def sFor (mi : IM) (gm : D → Env → Option Env) (b : SM) : SM := fun r S => bindS (mi r S) r fun ds S1 => sLoop gm b ds r S1
section
variable {X : Cx} {Wx : WX} {pos : Pos} {tg iter : Expr} {mi : IM} {sl : List Nat} {gm : D → Env → Option Env} {sb : SM}
theorem js_for {body : List Stmt} (hp : PassesOwn (model X.prog X.w) X.A X.env X.xe) (hc : X.calm = true) (hi : PI X tg iter (iD X.K X.mg Wx mi)) (hg : PG X tg (gD X.K X.mg sl gm)) (hb : PSs X body (tDS X.K X.mg Wx sb))
    (hs : ∀ x, foldedSetIterable iter X.env x = pure x := by intro _; rfl) : PS X (.For tg iter body [] pos) (tDS X.K X.mg Wx (sFor mi gm sb)) :=
  ps_imp (ps_for hp hc hi hg hb hs) fun E g H h => by
    obtain ⟨T, r, S, rs, sim, h⟩ := h
    refine ⟨T, r, S, rs, sim, ZOut.bind h rs fun ds S1 T1 H1 J st sim1 rel rs1 h1 => ?_⟩
    obtain ⟨wk, hz⟩ := rel
    refine ⟨fun i m g H => ∃ T r S, m = ds.length - i ∧ i ≤ ds.length ∧ Step T1 H1 T H ∧ RepSt X.K T H r g ∧ Sim X.K X.mg T S H ∧ ZOut X.K X.mg Wx T H (sLoop gm sb (ds.drop i) r S) E, ⟨ds.length, T1, r, S1, by simp, Nat.zero_le _, Step.refl T1 H1, rs1, sim1, h1⟩, ?_⟩
    rintro i m g2 H2 ⟨T2, r2, S2, rfl, hi2, st2, rs2, sim2, h2⟩
    obtain ⟨stop, go⟩ := wk T2 S2 H2 st2.kf sim2
    by_cases hlt : i < ds.length
    · have ed : ds.drop i = ds[i] :: ds.drop (i + 1) := List.drop_eq_getElem_cons hlt
      rw [ed] at h2
      obtain ⟨g1, yl⟩ := go i ds[i] (List.getElem?_eq_getElem hlt)
      refine .inr ⟨g1, fun g H => ∃ T r S, Step T1 H1 T H ∧ RepSt X.K T H r g ∧ Sim X.K X.mg T S H ∧ ZOut X.K X.mg Wx T H (sLoop gm sb (ds.drop (i + 1)) r S) E, fun g3 H3 q => ?_, fun x H3 y => ?_⟩
      · obtain ⟨T3, r3, S3, q1, q2, q3, q4⟩ := q
        exact ⟨ds.length - (i + 1), by omega, T3, r3, S3, rfl, hlt, q1, q2, q3, q4⟩
      · obtain ⟨st3, sim3, rep3⟩ := yl x H3 y
        have h3 := ZOut.step st3 h2
        simp only [sLoop] at h3
        split at h3
        · exact h3.elim
        · rename_i r3 eg
          refine ⟨T2, r2, S2, ds[i], r3, rs2.step st3, sim3, rep3, eg, fun g4 rs4 _ _ => ⟨T2, r3, S2, rs4, sim3, ?_⟩⟩
          revert h3
          cases sb r3 S2 with
          | bad => exact fun h => h
          | exc n r' S' => exact fun h => h
          | ok f r' S' =>
            cases f with
            | next => exact fun h T' H' g' s sim' rs' => ⟨T', r', S', (st2.trans st3).trans s, rs', sim', ZOut.step s h⟩
            | cont => exact fun h T' H' g' s sim' rs' => ⟨T', r', S', (st2.trans st3).trans s, rs', sim', ZOut.step s h⟩
            | ret d => exact fun h => h
            | brk => exact fun h => h
    · have e : i = ds.length := by omega
      subst e
      rw [List.drop_length] at h2
      exact .inl ⟨stop, h2.nx sim2 rs2⟩
end
end Dv
namespace Dv
open PySem L2
/-! ### what is walked: lists, tuples, texts, ranges -/
def chD (c : Nat) : D := .str ⟨#[c]⟩
def seqD (d : D) : Option (List D) := match d with
  | .lst xs => some xs
  | .tup xs => some xs
  | .scr ns => some (ns.map D.int)
  | .str x => if x.cps.size ≤ 100000 then some (x.cps.toList.map chD) else none
  | _ => none
def mIter (m : EM) : IM := fun r S => (m r S).bind fun d S1 => ofO (seqD d) S1
def rng (lo : Int) (n : Nat) : List D := (List.range n).map fun i => D.int (lo + (i : Nat))
def rng1 (ds : List D) : Option (List D) := match ds with
  | [.int j] => if -100000 ≤ j ∧ j ≤ 100000 then some (rng 0 j.toNat) else none
  | _ => none
def rng2 (ds : List D) : Option (List D) := match ds with
  | [.int i, .int j] => if (-100000 ≤ i ∧ i ≤ 100000) ∧ (-100000 ≤ j ∧ j ≤ 100000) then some (rng i (j - i).toNat) else none
  | _ => none
def mRng1 (ms : AM) : IM := fun r S => (ms r S).bind fun ds S1 => ofO (rng1 ds) S1
def mRng2 (ms : AM) : IM := fun r S => (ms r S).bind fun ds S1 => ofO (rng2 ds) S1
def iSq (K : PySem.W.Frag) (tl : TE) : TI := fun g H Q => tl g H fun x H1 => (∃ a xs, x = .ref a ∧ SqL K H1 a xs ∧ Q (Itl K a) H1) ∨ (∃ a xs, x = .ref a ∧ SqT K H1 a xs ∧ Q (Itt K a) H1) ∨ ∃ z, x = .str z ∧ Q (Its z) H1
theorem pi_sq {X : Cx} {tg l : Expr} {tl : TE} (hl : PE X l tl) : PI X tg l (iSq X.K tl) := by
  refine ⟨fun pins s g H Q I h => thn (hl.run pins s g H _ I h) fun v s1 hv => ?_⟩
  obtain ⟨x, H1, I1, r1, q1⟩ := hv
  rcases q1 with ⟨a, xs, ex, hq, q⟩ | ⟨a, xs, ex, hq, q⟩ | ⟨z, ex, q⟩
  · subst ex
    cases r1
    obtain ⟨its, rv, pl, _⟩ := I1.list hq
    exact wpAny_pyIter_list pl.isList (pi_one (tk := s1.toks) I1 _ (turn_list a _) ⟨_, Heap.get?_push_size _ rfl, rfl, rfl⟩ q)
  · subst ex
    cases r1
    obtain ⟨its, rv, pl, _⟩ := I1.tuple hq
    exact wpAny_pyIter_tuple (show s1.heap.IsTuple a its.toArray from pl) (pi_one (tk := s1.toks) I1 _ (turn_tuple a _) ⟨_, Heap.get?_push_size _ rfl, rfl, rfl⟩ q)
  · subst ex
    obtain ⟨t, rfl⟩ := r1
    by_cases ha : z.cps.all (· < 128) = true
    · exact wpAny_pyIter_ascii ha (pi_one (tk := s1.toks) I1 _ (turn_str _ z t "str_ascii_iterator" (.inl rfl)) ⟨_, Heap.get?_push_size _ rfl, rfl, rfl⟩ q)
    · exact wpAny_pyIter_wide (by simpa using ha) (pi_one (tk := s1.toks) I1 _ (turn_str _ z t "str_iterator" (.inr rfl)) ⟨_, Heap.get?_push_size _ rfl, rfl, rfl⟩ q)
section
variable {K : PySem.W.Frag} {mg : Str → Option Value} {T : Tb} {H : Hp}
theorem walks_lst {a : Addr} {xs : List V} {ds : List D} (h : LAt K T H a xs) (r : RepL K T H xs ds) : Walks K mg T H (Itl K a) ds := fun T' S' H' kf sim => by
  have k := kf.toKp
  have hq : SqL K H' a xs := (h.kp k).sq
  refine ⟨⟨xs, hq, by rw [r.length]; exact Nat.le_refl _⟩, fun i d e => ?_⟩
  obtain ⟨v, h1, h2⟩ := r.get e
  refine ⟨⟨xs, v, hq, h1⟩, fun x H2 y => ?_⟩
  obtain ⟨rfl, y⟩ := y
  have e2 := (y xs hq).symm.trans h1
  cases e2
  exact ⟨Step.refl _ _, sim, h2.kp k⟩
theorem walks_tup {a : Addr} {xs : List V} {ds : List D} (h : H a = some (.tup xs)) (n : T.off a) (r : RepL K T H xs ds) : Walks K mg T H (Itt K a) ds := fun T' S' H' kf sim => by
  have k := kf.toKp
  have hq : SqT K H' a xs := SqT.of (k.tup n h).1
  refine ⟨⟨xs, hq, by rw [r.length]; exact Nat.le_refl _⟩, fun i d e => ?_⟩
  obtain ⟨v, h1, h2⟩ := r.get e
  refine ⟨⟨xs, v, hq, h1⟩, fun x H2 y => ?_⟩
  obtain ⟨rfl, y⟩ := y
  have e2 := (y xs hq).symm.trans h1
  cases e2
  exact ⟨Step.refl _ _, sim, h2.kp k⟩
theorem walks_str {z : Str} : Walks K mg T H (Its z) (z.cps.toList.map chD) := fun T' S' H' kf sim => by
  have k := kf.toKp
  refine ⟨?_, fun i d e => ?_⟩
  · show z.cps.size ≤ _
    rw [List.length_map, Array.length_toList]
    exact Nat.le_refl _
  · rw [List.getElem?_map] at e
    cases q : z.cps.toList[i]? with
    | none => rw [q] at e; cases e
    | some c =>
      rw [q] at e
      cases e
      have hi := (List.getElem?_eq_some_iff.mp q).1
      rw [Array.length_toList] at hi
      refine ⟨hi, fun x H2 y => ?_⟩
      obtain ⟨rfl, c', h1, rfl⟩ := y
      rw [Array.getElem?_toList] at q
      rw [q] at h1
      cases h1
      exact ⟨Step.refl _ _, sim, .str _⟩
theorem walks_rng {lo : Int} {n : Nat} : Walks K mg T H (Itr lo n) (rng lo n) := fun T' S' H' kf sim => by
  have k := kf.toKp
  refine ⟨?_, fun i d e => ?_⟩
  · show n ≤ _
    unfold rng
    rw [List.length_map, List.length_range]
    exact Nat.le_refl _
  · unfold rng at e
    rw [List.getElem?_map] at e
    cases q : (List.range n)[i]? with
    | none => rw [q] at e; cases e
    | some c =>
      rw [q] at e
      cases e
      obtain ⟨hi, hc⟩ := List.getElem?_eq_some_iff.mp q
      rw [List.length_range] at hi
      rw [List.getElem_range] at hc
      subst hc
      refine ⟨hi, fun x H2 y => ?_⟩
      obtain ⟨rfl, rfl⟩ := y
      exact ⟨Step.refl _ _, sim, .int _⟩
theorem rng_len (lo : Int) (n : Nat) : (rng lo n).length = n := by
  unfold rng
  rw [List.length_map, List.length_range]
end
section
variable {X : Cx} {Wx : WX} {tg e : Expr} {m : EM} {ms : AM} {pos p : Pos}
theorem ji_seq (h : PE X e (tD X.K X.mg Wx m)) : PI X tg e (iD X.K X.mg Wx (mIter m)) := pi_imp (pi_sq h) fun g H Q h => by
  obtain ⟨T, r, S, rs, sim, h⟩ := h
  refine ⟨T, r, S, rs, sim, Out.bind h fun d S1 T1 H1 v st sim1 rel h1 => ?_⟩
  refine Out.use h1 fun ds e k => ?_
  cases rel with
  | lst q1 q2 q3 =>
    cases e
    exact .inl ⟨_, _, rfl, SqL.of q1, k T1 H1 _ (Step.refl T1 H1) sim1 ⟨walks_lst (.inl ⟨.inl q1, q2⟩) q3, by rw [← q3.length]; exact sim1.hl _ _ (.inl (.inl q1))⟩⟩
  | scr q =>
    cases e
    exact .inl ⟨_, _, rfl, q.sq, k T1 H1 _ (Step.refl T1 H1) sim1 ⟨walks_lst q (RepL.ints _), by have := sim1.llen q; rw [List.length_map] at this ⊢; exact this⟩⟩
  | tup q1 q2 q3 =>
    cases e
    exact .inr (.inl ⟨_, _, rfl, SqT.of q1, k T1 H1 _ (Step.refl T1 H1) sim1 ⟨walks_tup q1 q2 q3, by rw [← q3.length]; exact sim1.hl _ _ (.inr (.inl q1))⟩⟩)
  | str x =>
    simp only [seqD] at e
    split at e
    · rename_i hz
      cases e
      exact .inr (.inr ⟨x, rfl, k T1 H1 _ (Step.refl T1 H1) sim1 ⟨walks_str, by rw [List.length_map, Array.length_toList]; exact sz5 hz⟩⟩)
    · cases e
  | _ => cases e
theorem ji_rng1 {a : Expr} (hg : Gl X "range") (hm : X.mg "range" = none) (ha : PA X [a] (tDA X.K X.mg Wx ms)) (hs : starEach [a] X.env = [(false, eval a X.env)] := by rfl) : PI X tg (.Call (.Name "range" p) [a] [] pos) (iD X.K X.mg Wx (mRng1 ms)) :=
  pi_imp (pi_range1 hg hm ha hs) fun g H Q h => by
    obtain ⟨T, r, S, rs, sim, h⟩ := h
    refine ⟨T, r, S, rs, sim, Out.bind h fun d S1 T1 H1 v st sim1 rel h1 => ?_⟩
    refine Out.use h1 fun ds e k => ?_
    unfold rng1 at e
    split at e
    · rename_i j
      split at e
      · rename_i hj
        cases e
        cases rel with
        | cons q1 q2 =>
          cases q2
          refine ⟨j, by rw [q1.int_of], by omega, by omega, k T1 H1 _ (Step.refl T1 H1) sim1 ⟨walks_rng, ?_⟩⟩
          rw [rng_len]
          exact sz5 (by omega)
      · cases e
    · cases e
theorem ji_rng2 {a b : Expr} (hg : Gl X "range") (hm : X.mg "range" = none) (ha : PA X [a, b] (tDA X.K X.mg Wx ms)) (hs : starEach [a, b] X.env = [(false, eval a X.env), (false, eval b X.env)] := by rfl) (hs2 : starEach [b] X.env = [(false, eval b X.env)] := by rfl) : PI X tg (.Call (.Name "range" p) [a, b] [] pos) (iD X.K X.mg Wx (mRng2 ms)) :=
  pi_imp (pi_range2 hg hm ha hs hs2) fun g H Q h => by
    obtain ⟨T, r, S, rs, sim, h⟩ := h
    refine ⟨T, r, S, rs, sim, Out.bind h fun d S1 T1 H1 v st sim1 rel h1 => ?_⟩
    refine Out.use h1 fun ds e k => ?_
    unfold rng2 at e
    split at e
    · rename_i i j
      split at e
      · rename_i hj
        cases e
        cases rel with
        | cons q1 q2 =>
          cases q2 with
          | cons q2 q3 =>
            cases q3
            refine ⟨i, j, by rw [q1.int_of, q2.int_of], by omega, k T1 H1 _ (Step.refl T1 H1) sim1 ⟨walks_rng, ?_⟩⟩
            rw [rng_len]
            exact Nat.le_trans (show (j - i).toNat ≤ 200000 by omega) (by decide)
      · cases e
    · cases e
end

/-! ### zip of two tuples, of two lists -/
def zipD (ds : List D) : Option (List D) := match ds with
  | [.tup xs, .tup ys] => some (List.zipWith (fun a b => D.tup [a, b]) xs ys)
  | [.lst xs, .lst ys] => some (List.zipWith (fun a b => D.tup [a, b]) xs ys)
  | _ => none
def mZip (ms : AM) : IM := fun r S => (ms r S).bind fun ds S1 => ofO (zipD ds) S1
theorem zip_get {xs ys : List D} {i : Nat} {d : D} (h : (List.zipWith (fun a b => D.tup [a, b]) xs ys)[i]? = some d) : ∃ a b, xs[i]? = some a ∧ ys[i]? = some b ∧ d = .tup [a, b] := by
  rw [List.getElem?_zipWith] at h
  cases q : xs[i]? with
  | none => rw [q] at h; cases h
  | some a =>
    cases q2 : ys[i]? with
    | none => rw [q, q2] at h; cases h
    | some b =>
      rw [q, q2] at h
      cases h
      exact ⟨a, b, rfl, rfl, rfl⟩
section
variable {X : Cx} {Wx : WX} {e e2 : Expr} {ms : AM} {pos p tpos : Pos} {elts : List Expr} {kk : Nat}
theorem pair_new {K : PySem.W.Frag} {mg : Str → Option Value} {T : Tb} {S : Store} {H : Hp} {p : Addr} {x y : V} {a b : D} (sim : Sim K mg T S H) (hp : H p = none) (ha : Rep K T H x a) (hb : Rep K T H y b) :
    Step T H T (upd H p (.tup [x, y])) ∧ Sim K mg T S (upd H p (.tup [x, y])) ∧ Rep K T (upd H p (.tup [x, y])) (.ref p) (.tup [a, b]) :=
  ⟨sim.stepNew hp, sim.new hp (hlen_tup sim.hl (by show 2 ≤ sizeLine; decide)), .tup upd_same (sim.off hp) (.cons (ha.step (sim.stepNew hp)) (.cons (hb.step (sim.stepNew hp)) .nil))⟩
theorem ji_zip (hg : Gl X "zip") (hm : X.mg "zip" = none) (ha : PA X [e, e2] (tDA X.K X.mg Wx ms)) (hs : starEach [e, e2] X.env = (false, eval e X.env) :: starEach [e2] X.env := by rfl) (hpl : (backTo pos (starEach [e2] X.env)).any (·.1) = false := by rfl) :
    PI X (.Tuple elts kk tpos) (.Call (.Name "zip" p) [e, e2] [] pos) (iD X.K X.mg Wx (mZip ms)) := pi_imp (RZ.pi_zipA hg hm ha hs hpl) fun g H Q h => by
  obtain ⟨T, r, S, rs, sim, h⟩ := h
  refine ⟨T, r, S, rs, sim, Out.bind h fun d S1 T1 H1 v st sim1 rel h1 => ?_⟩
  refine Out.use h1 fun ds e k => ?_
  unfold zipD at e
  split at e
  · cases e
    cases rel with
    | cons q1 q2 =>
      cases q2 with
      | cons q2 q3 =>
        cases q3
        cases q1 with
        | @tup a xs _ h1 n1 r1 =>
          cases q2 with
          | @tup b ys _ h2 n2 r2 =>
            refine ⟨a, b, xs, ys, rfl, .inr ⟨SqT.of h1, SqT.of h2, k T1 H1 _ (Step.refl T1 H1) sim1 ⟨fun T' S' H' kp sim' => ?_, ?_⟩⟩⟩
            · have k1 : SqT X.K H' a xs := SqT.of (kp.tup n1 h1).1
              have k2 : SqT X.K H' b ys := SqT.of (kp.tup n2 h2).1
              refine ⟨⟨xs, ys, k1, k2, ?_⟩, fun i d ed => ?_⟩
              · rw [List.length_zipWith, ← r1.length, ← r2.length]
                omega
              · obtain ⟨x, y, e1, e2, rfl⟩ := zip_get ed
                obtain ⟨v1, f1, f2⟩ := r1.get e1
                obtain ⟨v2, f3, f4⟩ := r2.get e2
                refine ⟨⟨xs, ys, v1, v2, k1, k2, f1, f3⟩, fun z H2 yl => ?_⟩
                obtain ⟨P, x', y', rfl, hn, rfl, g1, g2⟩ := yl
                have z1 := (g1 xs k1).symm.trans f1
                have z2 := (g2 ys k2).symm.trans f3
                cases z1; cases z2
                exact pair_new sim' hn (f2.kp kp.toKp) (f4.kp kp.toKp)
            · rw [List.length_zipWith, ← r1.length]
              exact Nat.le_trans (Nat.min_le_left _ _) (sim1.hl _ _ (.inr (.inl h1)))
  · cases e
    cases rel with
    | cons q1 q2 =>
      cases q2 with
      | cons q2 q3 =>
        cases q3
        cases q1 with
        | @lst a xs _ h1 n1 r1 =>
          cases q2 with
          | @lst b ys _ h2 n2 r2 =>
            refine ⟨a, b, xs, ys, rfl, .inl ⟨SqL.of h1, SqL.of h2, k T1 H1 _ (Step.refl T1 H1) sim1 ⟨fun T' S' H' kp sim' => ?_, ?_⟩⟩⟩
            · have k1 : SqL X.K H' a xs := SqL.of (kp.lst n1 h1).1
              have k2 : SqL X.K H' b ys := SqL.of (kp.lst n2 h2).1
              refine ⟨⟨xs, ys, k1, k2, ?_⟩, fun i d ed => ?_⟩
              · rw [List.length_zipWith, ← r1.length, ← r2.length]
                omega
              · obtain ⟨x, y, e1, e2, rfl⟩ := zip_get ed
                obtain ⟨v1, f1, f2⟩ := r1.get e1
                obtain ⟨v2, f3, f4⟩ := r2.get e2
                refine ⟨⟨xs, ys, v1, v2, k1, k2, f1, f3⟩, fun z H2 yl => ?_⟩
                obtain ⟨P, x', y', rfl, hn, rfl, g1, g2⟩ := yl
                have z1 := (g1 xs k1).symm.trans f1
                have z2 := (g2 ys k2).symm.trans f3
                cases z1; cases z2
                exact pair_new sim' hn (f2.kp kp.toKp) (f4.kp kp.toKp)
            · rw [List.length_zipWith, ← r1.length]
              exact Nat.le_trans (Nat.min_le_left _ _) (sim1.hl _ _ (.inl (.inl h1)))
  · cases e
end

/-! ### list comprehensions -/
def W0 : WX := fun _ _ _ _ => False
def nox {α : Type} (x : R α) : R α := match x with
  | .exc _ _ => .bad
  | y => y
def wipeE (r : Env) : List Nat → Env
  | [] => r
  | v :: vs => (wipeE r vs).set v none
def lcL (gm : D → Env → Option Env) (tt : BM) (te : EM) (r0 : Env) : List D → Store → R (List D)
  | [], S => .ok [] S
  | d :: ds, S => match gm d r0 with
    | none => .bad
    | some r1 => (nox (tt r1 S)).bind fun b S1 => if b = true then (nox (te r1 S1)).bind fun y S2 => (lcL gm tt te r0 ds S2).bind fun ys S3 => .ok (y :: ys) S3 else lcL gm tt te r0 ds S1
def mLc (mi : IM) (vs : List Nat) (gm : D → Env → Option Env) (tt : BM) (te : EM) : EM := fun r S => (mi r S).bind fun ds S1 => (lcL gm tt te (wipeE r vs) ds S1).bind fun ys S2 => .ok (.lst ys) S2
def mYes : BM := fun _ S => .ok true S
section
variable {K : PySem.W.Frag} {mg : Str → Option Value} {Wx : WX} {T : Tb} {H : Hp} {r : Env} {g : St}
theorem RepSt.wipe (h : RepSt K T H r g) : ∀ vs : List Nat, RepSt K T H (wipeE r vs) (L2.wipe g vs)
  | [] => h
  | v :: vs => (RepSt.wipe h vs).forgetB
theorem wipe_get {g : St} {i : Nat} : ∀ {vs : List Nat}, i ∈ vs → i < g.length → (L2.wipe g vs)[i]? = some none
  | [], h, _ => nomatch h
  | v :: vs, h, hl => by
    unfold L2.wipe
    by_cases e : v = i
    · subst e
      rw [List.getElem?_set_self (by rw [wipe_length]; exact hl)]
    · rw [List.getElem?_set_ne e]
      exact wipe_get ((List.mem_cons.mp h).resolve_left fun q => e q.symm) hl
theorem wipe_same {g g2 : St} {vs sl : List Nat} (hs : ∀ i ∈ sl, i ∈ vs) (hl : g2.length = g.length) (h : ∀ j, j ∉ sl → g2[j]? = (L2.wipe g vs)[j]?) : L2.wipe g2 vs = L2.wipe g vs := by
  refine List.ext_getElem? fun j => ?_
  by_cases hj : j ∈ vs
  · by_cases hlt : j < g.length
    · rw [wipe_get hj (by rw [hl]; exact hlt), wipe_get hj hlt]
    · rw [List.getElem?_eq_none (by rw [wipe_length, hl]; omega), List.getElem?_eq_none (by rw [wipe_length]; omega)]
  · rw [wipe_out hj, h j fun q => hj (hs j q)]
/-- the new list hidden -/
def Tb.hide (T : Tb) (p : Addr) : Tb := ⟨T.loc, p :: T.hid⟩
theorem Sim.hide {S : Store} {p : Addr} {u : HO} (s : Sim K mg T S H) (hp : H p = none) (hl : HLen (upd H p u)) : Kp T H (T.hide p) (upd H p u) ∧ Sim K mg (T.hide p) S (upd H p u) := by
  have kp : Kp T H (T.hide p) (upd H p u) := ⟨fun b v _ n h => by
    have nb : b ≠ p := ne_of_none h hp
    exact ⟨by rw [upd_ne nb]; exact h, n.1, fun q => (List.mem_cons.mp q).elim nb n.2⟩, fun b v n h => by
    have nb : b ≠ p := fun e => rd_some h (by rw [e]; exact hp)
    exact ⟨rd_keep (fun w q => by rw [upd_ne nb]; exact q) h, n.1, fun q => (List.mem_cons.mp q).elim nb n.2⟩, fun _ _ h => h⟩
  refine ⟨kp, s.len, ?_, fun i a o h1 h2 => (s.obj i a o h1 h2).kp kp (upd_ne fun e => (s.off hp).1 (by rw [← e]; exact List.mem_of_getElem? h1)), fun a ha => ?_, hl⟩
  · have h0 := List.nodup_append.mp s.nd
    refine List.nodup_append.mpr ⟨h0.1, List.nodup_cons.mpr ⟨(s.off hp).2, h0.2.1⟩, fun a ha b hb e => ?_⟩
    rcases List.mem_cons.mp hb with hb | hb
    · exact (s.off hp).1 (by rw [← hb, ← e]; exact ha)
    · exact h0.2.2 a ha b hb e
  · rcases List.mem_cons.mp ha with ha | ha
    · rw [ha, upd_same]
      exact fun e => by cases e
    · rw [upd_ne fun e => s.hid a ha (by rw [e]; exact hp)]
      exact s.hid a ha
theorem Sim.setHid {S : Store} {p : Addr} {u : HO} (s : Sim K mg T S H) (hp : p ∈ T.hid) (hl : HLen (upd H p u)) : Kf T H T (upd H p u) ∧ Sim K mg T S (upd H p u) := by
  have kp : Kp T H T (upd H p u) := ⟨fun b v _ n h => by
    have nb : b ≠ p := fun e => n.2 (by rw [e]; exact hp)
    exact ⟨by rw [upd_ne nb]; exact h, n⟩, fun b v n h => by
    have nb : b ≠ p := fun e => n.2 (by rw [e]; exact hp)
    exact ⟨rd_keep (fun w q => by rw [upd_ne nb]; exact q) h, n⟩, fun _ _ h => h⟩
  refine ⟨⟨kp, fun b o v n h => ⟨by rw [upd_ne fun e => n.2 (by rw [e]; exact hp)]; exact h, n⟩⟩, s.len, s.nd, fun i a o h1 h2 => (s.obj i a o h1 h2).kp kp (upd_ne fun e => s.apart (List.mem_of_getElem? h1) (by rw [e]; exact hp)), fun a ha => ?_, hl⟩
  by_cases e : a = p
  · rw [e, upd_same]
    exact fun e => by cases e
  · rw [upd_ne e]
    exact s.hid a ha
theorem R.bind_assoc {α β γ : Type} (x : R α) (f : α → Store → R β) (k : β → Store → R γ) : (x.bind f).bind k = x.bind fun a S => (f a S).bind k := by
  cases x <;> rfl
theorem off_unhide {p a : Addr} {l h : List Addr} (x : (Tb.mk l (p :: h)).off a) : (Tb.mk l h).off a := ⟨x.1, fun q => x.2 (List.mem_cons_of_mem _ q)⟩
theorem kp_unhide {p : Addr} {l h : List Addr} : Kp ⟨l, p :: h⟩ H ⟨l, h⟩ H := ⟨fun _ _ _ n q => ⟨q, off_unhide n⟩, fun _ _ n q => ⟨q, off_unhide n⟩, fun _ _ q => q⟩
theorem Sim.unhide {S : Store} {p : Addr} {l h : List Addr} (s : Sim K mg ⟨l, p :: h⟩ S H) : Sim K mg ⟨l, h⟩ S H :=
  ⟨s.len, by
    have h0 := List.nodup_append.mp s.nd
    exact List.nodup_append.mpr ⟨h0.1, (List.nodup_cons.mp h0.2.1).2, fun a ha b hb e => h0.2.2 a ha b (List.mem_cons_of_mem _ hb) e⟩, fun i a o h1 h2 => (s.obj i a o h1 h2).kp kp_unhide rfl, fun a ha => s.hid a (List.mem_cons_of_mem _ ha), s.hl⟩
theorem lc_bind {α β γ δ : Type} {relA : Tb → Hp → β → α → Prop} {relB : Tb → Hp → δ → γ → Prop} {T1 : Tb} {H1 : Hp} {g g2 : St} {x : R α} {f : α → Store → R γ} {Q : δ → Hp → Prop} {Q1 : β → Hp → Prop} (h : Out K mg Wx relB T1 g H1 ((nox x).bind f) Q)
    (k : ∀ a S T3 H3 v, Step T H T3 H3 → Sim K mg T3 S H3 → relA T3 H3 v a → Out K mg Wx relB T1 g H1 (f a S) Q → Q1 v H3) : Out K mg W0 relA T g2 H x Q1 := by
  cases x with
  | bad => exact h.elim
  | exc n S => exact h.elim
  | ok a S => exact fun T3 H3 v st sim rl => k a S T3 H3 v st sim rl h
end
section
variable {X : Cx} {Wx : WX} {elt tg iter : Expr} {ifs : List Expr} {scope : Scope} {own : List (Str × Nat)} {pos : Pos} {mi : IM} {sl : List Nat} {gm : D → Env → Option Env} {tt : BM} {te : EM}
theorem jts_nil : PTs X [] (tDT X.K X.mg Wx mYes) := ⟨fun pins s g H Q I h => by
  obtain ⟨T, r, S, rs, sim, h⟩ := h
  exact pts_nil.run pins s g H Q I (h T H true (Step.refl T H) sim rfl)⟩
theorem jts_one {c : Expr} (h : PT X c (tDT X.K X.mg Wx tt)) : PTs X [c] (tDT X.K X.mg Wx tt) := pts_one h
theorem tLc_of {K : PySem.W.Frag} {mg : Str → Option Value} {vs : List Nat} (hsl : ∀ i ∈ sl, i ∈ vs) : ∀ g H Q, tD K mg Wx (mLc mi vs gm tt te) g H Q → tLc (iD K mg Wx mi) (gD K mg sl gm) (tDT K mg W0 tt) (tD K mg W0 te) vs g H Q := by
  intro g H Q h
  obtain ⟨T, r, S, rs, sim, h⟩ := h
  refine ⟨T, r, S, rs, sim, Out.bind h fun ds S1 T1 H1 J st sim1 rel h1 => ?_⟩
  obtain ⟨wk, hz⟩ := rel
  intro Dl hD
  have hl0 : HLen (upd H1 Dl (.lst [])) := hlen_lst sim1.hl (Nat.zero_le _)
  obtain ⟨kp0, simh⟩ := sim1.hide (u := .lst []) hD hl0
  have rs1 := rs.step st
  refine ⟨fun i m H => ∃ T S acc ys, m = ds.length - i ∧ i ≤ ds.length ∧ T.hid = Dl :: T1.hid ∧ Step T1 H1 ⟨T.loc, T1.hid⟩ H ∧ Sim K mg T S H ∧ H Dl = some (.lst acc) ∧ RepL K T H acc ys ∧ ys.length ≤ i ∧
    Out K mg Wx (Rep K) T1 g H1 ((lcL gm tt te (wipeE r vs) (ds.drop i) S).bind fun zs S2 => .ok (.lst (ys ++ zs)) S2) Q, ⟨ds.length, T1.hide Dl, S1, [], [], by simp, Nat.zero_le _, rfl, sim1.stepNew hD, simh, upd_same, .nil, Nat.le_refl _, by simpa using h1⟩, ?_⟩
  rintro i m H2 ⟨T2, S2, acc, ys, rfl, hi, eh, st2, sim2, hD2, ra, hys, ho⟩
  have off2 : ∀ b, T1.off b → H1 b ≠ none → T2.off b := fun b n q => ⟨(st2.out q n).1, fun z => by
    rw [eh] at z
    rcases List.mem_cons.mp z with z | z
    · exact q (by rw [z]; exact hD)
    · exact n.2 z⟩
  have kp2 : Kp T1 H1 T2 H2 := ⟨fun b u k n q => ⟨st2.keep b u n q, off2 b n (some_ne q)⟩, fun b u n q => ⟨st2.rd q n, off2 b n (rd_some q)⟩, fun n a q => st2.get q⟩
  have kf2 : Kf T1 H1 T2 H2 := ⟨kp2, fun b o u n q => ⟨st2.keep b _ n q, off2 b n (some_ne q)⟩⟩
  obtain ⟨stop, go⟩ := wk T2 S2 H2 kf2 sim2
  by_cases hlt : i < ds.length
  · have ed : ds.drop i = ds[i] :: ds.drop (i + 1) := List.drop_eq_getElem_cons hlt
    rw [ed] at ho
    obtain ⟨g1, yl⟩ := go i ds[i] (List.getElem?_eq_getElem hlt)
    refine .inr ⟨g1, fun H => ∃ T S acc ys, T.hid = Dl :: T1.hid ∧ Step T1 H1 ⟨T.loc, T1.hid⟩ H ∧ Sim K mg T S H ∧ H Dl = some (.lst acc) ∧ RepL K T H acc ys ∧ ys.length ≤ i + 1 ∧
      Out K mg Wx (Rep K) T1 g H1 ((lcL gm tt te (wipeE r vs) (ds.drop (i + 1)) S).bind fun zs S2 => .ok (.lst (ys ++ zs)) S2) Q, fun H3 q => ?_, fun x H3 y => ?_⟩
    · obtain ⟨T3, S3, acc3, ys3, q1, q2, q3, q4, q5, q6, q7⟩ := q
      exact ⟨ds.length - (i + 1), by omega, T3, S3, acc3, ys3, rfl, hlt, q1, q2, q3, q4, q5, q6, q7⟩
    · obtain ⟨st3, sim3, rep3⟩ := yl x H3 y
      simp only [lcL] at ho
      -- how a step of the hidden table is one of the open one
      have opn : ∀ {Ta Tb : Tb} {Ha Hb : Hp}, Ta.hid = Dl :: T1.hid → Step T1 H1 ⟨Ta.loc, T1.hid⟩ Ha → Step Ta Ha Tb Hb → Tb.hid = Dl :: T1.hid ∧ Step T1 H1 ⟨Tb.loc, T1.hid⟩ Hb := fun {Ta Tb Ha Hb} e1 s1 s2 => by
        refine ⟨s2.hid.trans e1, s1.trans ⟨s2.ext, rfl, fun b hb => s2.hkeep b (by rw [e1]; exact List.mem_cons_of_mem _ hb), fun b u n q => ?_, s2.new⟩⟩
        by_cases hb : b = Dl
        · subst hb
          rw [s2.hkeep b (by rw [e1]; exact List.mem_cons_self)]
          exact q
        · exact s2.keep b u ⟨n.1, fun z => by
            rw [e1] at z
            exact (List.mem_cons.mp z).elim hb n.2⟩ q
      obtain ⟨eh3, op3⟩ := opn eh st2 st3
      have hid3 : Dl ∈ T2.hid := by rw [eh]; exact List.mem_cons_self
      split at ho
      · exact ho.elim
      · rename_i r1 eg
        refine ⟨T2, wipeE r vs, S2, ds[i], r1, ((rs1.wipe vs).kp kp2).step st3, sim3, rep3, eg, fun g4 rs4 lg kg => ⟨wipe_same hsl (by rw [lg, wipe_length]) kg, T2, r1, S2, rs4, sim3, ?_⟩⟩
        rw [R.bind_assoc] at ho
        refine lc_bind ho fun b S4 T4 H4 v st4 sim4 rel4 ho4 => ?_
        subst rel4
        obtain ⟨eh4, op4⟩ := opn eh3 op3 st4
        have hid4 : Dl ∈ T4.hid := by rw [eh4]; exact List.mem_cons_self
        have hD4 : H4 Dl = some (.lst acc) := (st4.hkeep Dl hid3).trans ((st3.hkeep Dl hid3).trans hD2)
        cases v with
        | false =>
          rw [if_neg Bool.false_ne_true] at ho4 ⊢
          exact ⟨T4, S4, acc, ys, eh4, op4, sim4, hD4, ra.step (st3.trans st4), by omega, ho4⟩
        | true =>
          rw [if_pos rfl, R.bind_assoc] at ho4
          rw [if_pos rfl]
          refine ⟨T4, r1, S4, rs4.step st4, sim4, lc_bind ho4 fun yd S5 T5 H5 yv st5 sim5 rel5 ho5 => ?_⟩
          obtain ⟨eh5, op5⟩ := opn eh4 op4 st5
          have hid5 : Dl ∈ T5.hid := by rw [eh5]; exact List.mem_cons_self
          have ra5 : RepL K T5 H5 acc ys := ra.step ((st3.trans st4).trans st5)
          have hal : acc.length < sizeLine := by rw [ra5.length]; omega
          have hl5 : HLen (upd H5 Dl (.lst (acc ++ [yv]))) := hlen_lst sim5.hl (by rw [List.length_append, List.length_singleton]; omega)
          obtain ⟨kp5, sim6⟩ := sim5.setHid (u := .lst (acc ++ [yv])) hid5 hl5
          refine ⟨acc, (st5.hkeep Dl hid4).trans hD4, hal, T5, S5, acc ++ [yv], ys ++ [yd], eh5, ⟨op5.ext, rfl, fun b hb => ?_, fun b u n q => ?_, op5.new⟩, sim6, upd_same, RepL.append (ra5.kp kp5.toKp) (.cons (rel5.kp kp5.toKp) .nil), by rw [List.length_append, List.length_singleton]; omega, ?_⟩
          · rw [upd_ne fun e => sim1.hid b hb (by rw [e]; exact hD)]
            exact op5.hkeep b hb
          · rw [upd_ne (ne_of_none q hD)]
            exact op5.keep b u n q
          · rw [R.bind_assoc] at ho5
            have e5 : (fun zs S2 => (R.ok (D.lst (ys ++ [yd] ++ zs)) S2 : R D)) = fun a S => (R.ok (yd :: a) S).bind fun zs S2 => R.ok (D.lst (ys ++ zs)) S2 := by
              funext zs S2
              show _ = R.ok (D.lst (ys ++ (yd :: zs))) S2
              rw [List.append_assoc]
              rfl
            rw [e5]
            exact ho5
  · have e : i = ds.length := by omega
    subst e
    rw [List.drop_length] at ho
    refine .inl ⟨stop, ho ⟨T2.loc, T1.hid⟩ H2 _ st2 ?_ ?_⟩
    · have h9 := sim2
      obtain ⟨l2, h2⟩ := T2
      cases eh
      exact h9.unhide
    · obtain ⟨l2, h2⟩ := T2
      cases eh
      rw [List.append_nil]
      refine .lst hD2 ⟨fun z => ?_, fun z => ?_⟩ (ra.kp kp_unhide)
      · exact sim2.apart z List.mem_cons_self
      · have nd := (List.nodup_append.mp sim2.nd).2.1
        exact (List.nodup_cons.mp nd).1 z
theorem j_lc (hsl : ∀ i ∈ sl, i ∈ own.map (·.2)) (hc : X.calm = true) (hN : X.N.Nodup) (hi : PI X tg iter (iD X.K X.mg Wx mi)) (ok : BlkOk X.N X.env.scope scope own)
    (hg : ∀ (s : Shared) (H : Hp) (C : Addr) (cl : List (Str × Addr)) (fp : List Addr), PG (X.blk s H scope (compEnvC scope cl C X.env) fp) tg (gD X.K X.mg sl gm)) (ht : ∀ (s : Shared) (H : Hp) (C : Addr) (cl : List (Str × Addr)) (fp : List Addr), PTs (X.blk s H scope (compEnvC scope cl C X.env) fp) ifs (tDT X.K X.mg W0 tt))
    (he : ∀ (s : Shared) (H : Hp) (C : Addr) (cl : List (Str × Addr)) (fp : List Addr), PE (X.blk s H scope (compEnvC scope cl C X.env) fp) elt (tD X.K X.mg W0 te)) (hs : ∀ x, foldedSetIterable iter X.env x = pure x := by intro _; rfl) :
    PE X (.ListComp elt [⟨tg, iter, ifs, 0⟩] scope pos) (tD X.K X.mg Wx (mLc mi (own.map (·.2)) gm tt te)) := pe_imp (pe_lc hc hN hi ok hg ht he hs) (tLc_of hsl)
theorem js_setLc {i : Nat} {y : Str} {py spos : Pos} (hsl : ∀ i ∈ sl, i ∈ own.map (·.2)) (hc : X.calm = true) (hN : X.N.Nodup) (hy : X.N[i]? = some y) (hyl : X.env.scope.names.lookup y = some .local)
    (hsw : swapsWith (.ListComp elt [⟨tg, iter, ifs, 0⟩] scope pos) (some (.Name y py)) spos.line X.env = pure true) (hi : PI X tg iter (iD X.K X.mg Wx mi)) (ok : BlkOk X.N X.env.scope scope own)
    (hg : ∀ (s : Shared) (H : Hp) (C : Addr) (cl : List (Str × Addr)) (fp : List Addr), PG (X.blk s H scope (compEnvC scope cl C X.env) fp) tg (gD X.K X.mg sl gm)) (ht : ∀ (s : Shared) (H : Hp) (C : Addr) (cl : List (Str × Addr)) (fp : List Addr), PTs (X.blk s H scope (compEnvC scope cl C X.env) fp) ifs (tDT X.K X.mg W0 tt))
    (he : ∀ (s : Shared) (H : Hp) (C : Addr) (cl : List (Str × Addr)) (fp : List Addr), PE (X.blk s H scope (compEnvC scope cl C X.env) fp) elt (tD X.K X.mg W0 te)) (hs : ∀ x, foldedSetIterable iter X.env x = pure x := by intro _; rfl) :
    PS X (.Assign [.Name y py] (.ListComp elt [⟨tg, iter, ifs, 0⟩] scope pos) spos) (tDS X.K X.mg Wx (sSet i (mLc mi (own.map (·.2)) gm tt te))) :=
  ps_imp (ps_setLc hc hN hy hyl hsw hi ok hg ht he hs) fun E g H h => by
    obtain ⟨T, r, S, rs, sim, h⟩ := h
    refine tLc_of hsl g H _ ⟨T, r, S, rs, sim, ZOut.bind h rs fun d S1 T1 H1 v st sim1 rel rs1 h1 => ?_⟩
    exact h1.nx sim1 (rs1.set rel)
end
end Dv
namespace Dv
open PySem L2
/-! ### defs of the text -/
def spD (K : PySem.W.Frag) (mg : Str → Option Value) (n : Nat) (F : List D → Store → R D) : Sp := fun vs H Q E => vs.length = n ∧ ∃ T S ds, RepL K T H vs ds ∧ Sim K mg T S H ∧ Out K mg (fun c d _ H => E c d H) (Rep K) T [] H (F ds S) Q
def mApp (n : Nat) (F : List D → Store → R D) (ms : AM) : EM := fun r S => (ms r S).bind fun ds S1 => if ds.length = n then F ds S1 else .bad
section
variable {X : Cx} {Wx : WX} {k n : Nat} {f : Addr} {fd : FuncData} {ps : List Str} {Fn : List D → Store → R D} {x : Str} {p pos : Pos} {e : Expr} {es : List Expr} {ms : AM}
theorem j_call (F : FnOk X.prog X.w X.K X.mg X.base (L2.CX X.prog X.w) k f fd ps (spD X.K X.mg n Fn)) (hr : Room k X.A) (hg : Gl X x) (hm : X.mg x = some (.ref f)) (hk : PySem.W.keepIn X.K (.ref f) = true) (hb : Binds X.K fd ps []) (tk : Takes X Wx)
    (ha : PA X (e :: es) (tDA X.K X.mg Wx ms)) (hdb : (x == ("__debug__" : Str)) = false := by decide) (he : starEach (e :: es) X.env = (false, eval e X.env) :: starEach es X.env := by rfl) (hpl : (backTo pos (starEach es X.env)).any (·.1) = false := by rfl) :
    PE X (.Call (.Name x p) (e :: es) [] pos) (tD X.K X.mg Wx (mApp n Fn ms)) :=
  pe_imp (pe_callSD (E := WE Wx) F hr hg hm hk hb .nil (fun g => passAt tk g) ha hdb he hpl) fun g H Q h => by
    obtain ⟨T, r, S, rs, sim, h⟩ := h
    refine ⟨T, r, S, rs, sim, Out.bind h fun ds S1 T1 H1 vs st sim1 rel h1 => ?_⟩
    split at h1
    · rename_i hn
      rw [List.append_nil]
      refine ⟨by rw [rel.length]; exact hn, T1, S1, ds, rel, sim1, ?_⟩
      revert h1
      cases Fn ds S1 with
      | bad => exact fun h => h
      | exc x S2 => exact fun h => h
      | ok d S2 => exact fun h => h
    · exact h1.elim
end
def frame (sz : Nat) (ds : List D) : Env := ds.map some ++ List.replicate (sz - ds.length) none
theorem frame_ok {K : PySem.W.Frag} {T : Tb} {H : Hp} {vs : List V} {ds : List D} (N : List Str) (h : RepL K T H vs ds) : RepSt K T H (frame N.length ds) (L2.start N vs) := by
  have hl := h.length
  refine ⟨?_, fun i d e => ?_⟩
  · unfold frame L2.start
    rw [List.length_append, List.length_append, List.length_map, List.length_map, hl, List.length_replicate, List.length_replicate]
  · unfold frame at e
    by_cases hi : i < ds.length
    · rw [List.getElem?_append_left (by rw [List.length_map]; exact hi), List.getElem?_map, List.getElem?_eq_getElem hi] at e
      cases e
      obtain ⟨v, h1, h2⟩ := h.get (List.getElem?_eq_getElem hi)
      refine ⟨v, ?_, h2⟩
      unfold L2.start
      rw [List.getElem?_append_left (by rw [List.length_map, hl]; exact hi), List.getElem?_map, h1]
      rfl
    · rw [List.getElem?_append_right (by rw [List.length_map]; omega), List.getElem?_replicate] at e
      split at e <;> cases e
/-- what a body comes to, its new things kept -/
def finK (z : Z) : R D := match z with
  | .ok (.ret d) _ S => .ok d S
  | .ok .next _ S => .ok .non S
  | .exc n _ S => .exc n S
  | _ => .bad
def runK (sz : Nat) (b : SM) : List D → Store → R D := fun ds S => finK (b (frame sz ds) S)
section
variable {P : Program} {w : World} {K : PySem.W.Frag} {mg : Str → Option Value} {base : Heap} {x qual : Str} {st : Stmt} {f : Addr} {fd : FuncData} {N ps : List Str} {k : Nat} {b : SM}
abbrev BodyOk (P : Program) (w : World) (K : PySem.W.Frag) (mg : Str → Option Value) (base : Heap) (N : List Str) (qual : Str) (st : Stmt) (f : Addr) (k : Nat) (b : SM) : Prop :=
  ∀ (cdv : Value) (A : Around) (outer : List PySem.Env) (s : Shared) (H : Hp) (E : XK), Room k (A.deeper (PyProof.Rows.envOfC qual (defScope st) s.heap.objs.size f cdv)) →
    PSs (cxOf (L2.CX P w) P w K mg base N qual (defScope st) f cdv A outer s H E) (defBody st) (tDS K mg (fun c d _ H => E c d H) b)
theorem fnK (F : Fun K x qual st f fd) (Sc : FnScope N ps (defScope st)) (hb : BodyOk P w K mg base N qual st f k b) : FnOk P w K mg base (L2.CX P w) (k + 1) f fd ps (spD K mg ps.length (runK N.length b)) := by
  refine F.okX Sc (fun vs H Q E h => h.1) fun cdv A outer s H vs Q E hr hsp => ⟨_, hb cdv A outer s H E hr, ?_⟩
  obtain ⟨hl, T, S, ds, rep, sim, out⟩ := hsp
  refine ⟨T, frame N.length ds, S, frame_ok N rep, sim, ?_⟩
  unfold runK at out
  revert out
  cases b (frame N.length ds) S with
  | bad => exact fun h => h
  | exc n r' S' => exact fun h T' H' g' s sim' _ => h T' H' s sim'
  | ok fl r' S' =>
    cases fl with
    | next => exact fun h T' H' g' s sim' rs' => h T' H' .non s sim' .non
    | ret d => exact fun h => h
    | brk => exact fun h => h.elim
    | cont => exact fun h => h.elim
end
/-! ### a body whose new things go when it ends -/
mutual
def clo (n : Nat) : D → Bool
  | .tup xs => cloL n xs
  | .lst xs => cloL n xs
  | .dct kvs => cloK n kvs
  | .loc m => decide (m < n)
  | .non => true
  | .bl _ => true
  | .int _ => true
  | .str _ => true
  | .scr _ => true
  | .ty _ => true
def cloL (n : Nat) : List D → Bool
  | [] => true
  | d :: ds => clo n d && cloL n ds
def cloK (n : Nat) : List (Key × D) → Bool
  | [] => true
  | (_, d) :: ds => clo n d && cloK n ds
end
theorem cloK_eq (n : Nat) : ∀ kvs : List (Key × D), cloK n kvs = cloL n (kvs.map (·.2))
  | [] => rfl
  | (_, d) :: ds => by
    show (clo n d && cloK n ds) = (clo n d && cloL n (ds.map (·.2)))
    rw [cloK_eq n ds]
theorem cloL_ints (n : Nat) : ∀ ns : List Int, cloL n (ns.map D.int) = true
  | [] => rfl
  | x :: ns => by
    show (clo n (D.int x) && cloL n (ns.map D.int)) = true
    rw [cloL_ints n ns]
    rfl
theorem cloL_iff (n : Nat) : ∀ ds : List D, cloL n ds = true ↔ ∀ d ∈ ds, clo n d = true
  | [] => ⟨fun _ d h => (by cases h), fun _ => rfl⟩
  | x :: ds => by
    show (clo n x && cloL n ds) = true ↔ _
    rw [Bool.and_eq_true, cloL_iff n ds]
    exact ⟨fun h d hd => (List.mem_cons.mp hd).elim (fun e => e ▸ h.1) (h.2 d), fun h => ⟨h x List.mem_cons_self, fun d hd => h d (List.mem_cons_of_mem _ hd)⟩⟩
def cloO (n : Nat) : O → Bool
  | .lst xs => cloL n xs
  | .dct kvs => cloK n kvs
  | .ins _ fs => cloL n (fs.map (·.2))
  | .tbl _ _ => true
section
variable {K : PySem.W.Frag} {mg : Str → Option Value} {T T' : Tb} {H : Hp}
mutual
theorem Rep.clo : ∀ {v : V} {d : D}, Rep K T H v d → Dv.clo T.loc.length d = true
  | _, _, .non => rfl
  | _, _, .bl b => rfl
  | _, _, .int i => rfl
  | _, _, .str x => rfl
  | _, _, .ty x => rfl
  | _, _, .tup h n r => RepL.clo r
  | _, _, .lst h n r => RepL.clo r
  | _, _, .scr h => rfl
  | _, _, @Rep.dct _ _ _ a kvs kds h n e r => by
    show cloK _ kds = true
    rw [cloK_eq]
    exact RepL.clo r
  | _, _, .loc h => decide_eq_true (List.getElem?_eq_some_iff.mp h).1
theorem RepL.clo : ∀ {vs : List V} {ds : List D}, RepL K T H vs ds → cloL T.loc.length ds = true
  | _, _, .nil => rfl
  | _, _, .cons h r => by
    show (Dv.clo _ _ && cloL _ _) = true
    rw [Rep.clo h, RepL.clo r]
    rfl
end
theorem ORep.clo {a : Addr} {o : O} (h : ORep K mg T H a o) : cloO T.loc.length o = true := by
  cases o with
  | lst ds => obtain ⟨xs, _, h2⟩ := h; exact h2.clo
  | dct kds => obtain ⟨xs, _, _, h2⟩ := h; show cloK _ _ = true; rw [cloK_eq]; exact h2.clo
  | ins c fs => obtain ⟨_, _, _, _, _, _, h2⟩ := h; exact h2.clo
  | tbl x q => rfl
mutual
theorem Rep.cut {m : List Addr} (e : T'.loc = T.loc ++ m) (eh : T'.hid = T.hid) : ∀ {v : V} {d : D}, Rep K T' H v d → Dv.clo T.loc.length d = true → Rep K T H v d
  | _, _, .non, _ => .non
  | _, _, .bl b, _ => .bl b
  | _, _, .int i, _ => .int i
  | _, _, .str x, _ => .str x
  | _, _, .ty x, _ => .ty x
  | _, _, .tup h n r, c => .tup h ⟨fun z => n.1 (by rw [e]; exact List.mem_append_left _ z), by rw [← eh]; exact n.2⟩ (RepL.cut e eh r c)
  | _, _, .lst h n r, c => .lst h ⟨fun z => n.1 (by rw [e]; exact List.mem_append_left _ z), by rw [← eh]; exact n.2⟩ (RepL.cut e eh r c)
  | _, _, .scr (.inl ⟨h, n⟩), _ => .scr (.inl ⟨h, fun z => n.1 (by rw [e]; exact List.mem_append_left _ z), by rw [← eh]; exact n.2⟩)
  | _, _, .scr (.inr h), _ => .scr (.inr h)
  | _, _, @Rep.dct _ _ _ a kvs kds h n q r, c => .dct h ⟨fun z => n.1 (by rw [e]; exact List.mem_append_left _ z), by rw [← eh]; exact n.2⟩ q (RepL.cut e eh r (by
    have c : cloK _ kds = true := c
    rw [cloK_eq] at c
    exact c))
  | _, _, .loc h, c => .loc (by
    rw [e, List.getElem?_append_left (of_decide_eq_true c)] at h
    exact h)
theorem RepL.cut {m : List Addr} (e : T'.loc = T.loc ++ m) (eh : T'.hid = T.hid) : ∀ {vs : List V} {ds : List D}, RepL K T' H vs ds → cloL T.loc.length ds = true → RepL K T H vs ds
  | _, _, .nil, _ => .nil
  | _, _, @RepL.cons _ _ _ v vs d ds h r, c => by
    have c : (Dv.clo _ d && cloL _ ds) = true := c
    rw [Bool.and_eq_true] at c
    exact .cons (Rep.cut e eh h c.1) (RepL.cut e eh r c.2)
end
theorem ORep.cut {m : List Addr} {a : Addr} {o : O} (e : T'.loc = T.loc ++ m) (eh : T'.hid = T.hid) (h : ORep K mg T' H a o) (c : cloO T.loc.length o = true) : ORep K mg T H a o := by
  cases o with
  | lst ds => obtain ⟨xs, h1, h2⟩ := h; exact ⟨xs, h1, h2.cut e eh c⟩
  | dct kds =>
    obtain ⟨xs, h1, h3, h2⟩ := h
    have c : cloK _ kds = true := c
    rw [cloK_eq] at c
    exact ⟨xs, h1, h3, h2.cut e eh c⟩
  | ins n fs => obtain ⟨C, dx, fvs, h1, h2, h3, h4⟩ := h; exact ⟨C, dx, fvs, h1, h2, h3, h4.cut e eh c⟩
  | tbl x q =>
    obtain ⟨hx, ps, h1, h2, h3⟩ := h
    refine ⟨hx, ps, h1, h2, fun pos cv hc => ?_⟩
    obtain ⟨z, rfl, h4, h5⟩ := h3 pos cv hc
    exact ⟨z, rfl, h4, fun q => h5.1 (by rw [e]; exact List.mem_append_left _ q), by rw [← eh]; exact h5.2⟩
end
/-- the things of the store ahead of a call are as they were, or tell of none of the new -/
def Tr (S S1 : Store) : Prop := S.length ≤ S1.length ∧ ∀ (i : Nat) (o : O), i < S.length → S1[i]? = some o → S[i]? = some o ∨ cloO S.length o = true
theorem Tr.app (S E : Store) : Tr S (S ++ E) := ⟨by rw [List.length_append]; omega, fun i o hi h => .inl (by rw [List.getElem?_append_left hi] at h; exact h)⟩
theorem Tr.set (S E : Store) (n : Nat) (o : O) (h : cloO S.length o = true) : Tr S (S.set n o ++ E) := ⟨by rw [List.length_append, List.length_set]; omega, fun i o' hi q => by
  rw [List.getElem?_append_left (by rw [List.length_set]; exact hi)] at q
  by_cases e : n = i
  · subst e
    rw [List.getElem?_set_self hi] at q
    cases q
    exact .inr h
  · rw [List.getElem?_set_ne e] at q
    exact .inl q⟩
/-- a value told without the new things: a new list is from now on as it is -/
def fzD (n : Nat) (S : Store) (d : D) : Option D := match d with
  | .loc m => if m < n then some (.loc m) else match S[m]? with
    | some (.lst ds) => if cloL n ds = true then some (.lst ds) else none
    | some (.dct kvs) => if cloK n kvs = true then some (.dct kvs) else none
    | _ => none
  | d => if clo n d = true then some d else none
open Classical in
noncomputable def finT (S : Store) (z : Z) : R D := match z with
  | .ok (.ret d) _ S1 => if Tr S S1 then (match fzD S.length S1 d with
    | some d' => .ok d' (S1.take S.length)
    | none => .bad) else .bad
  | .ok .next _ S1 => if Tr S S1 then .ok .non (S1.take S.length) else .bad
  | .exc n _ S1 => if Tr S S1 then .exc n (S1.take S.length) else .bad
  | _ => .bad
noncomputable def runT (sz : Nat) (b : SM) : List D → Store → R D := fun ds S => finT S (b (frame sz ds) S)
section
variable {K : PySem.W.Frag} {mg : Str → Option Value} {T T1 : Tb} {H H1 : Hp} {S S1 : Store}
theorem tr_back (sim : Sim K mg T S H) (st : Step T H T1 H1) (sim1 : Sim K mg T1 S1 H1) (tr : Tr S S1) : Step T H T H1 ∧ Sim K mg T (S1.take S.length) H1 := by
  obtain ⟨m, em⟩ := st.ext
  refine ⟨⟨⟨[], by simp⟩, rfl, st.hkeep, st.keep, fun a h n => absurd h n⟩, ?_, sim.nd, fun i a o h1 h2 => ?_, fun a h => by rw [← st.hid] at h; exact sim1.hid a h, sim1.hl⟩
  · rw [List.length_take, sim.len]
    have := tr.1
    omega
  · have hi : i < S.length := by rw [← sim.len]; exact (List.getElem?_eq_some_iff.mp h1).1
    rw [List.getElem?_take, if_pos hi] at h2
    refine (sim1.obj i a o (st.get h1) h2).cut em st.hid ?_
    rcases tr.2 i o hi h2 with q | q
    · exact (sim.obj i a o h1 q).clo
    · rw [sim.len]; exact q
theorem fz_back (sim : Sim K mg T S H) (st : Step T H T1 H1) (sim1 : Sim K mg T1 S1 H1) {v : V} {d d' : D} (h : Rep K T1 H1 v d) (e : fzD S.length S1 d = some d') : Rep K T H1 v d' := by
  obtain ⟨m, em⟩ := st.ext
  have off : ∀ (i : Nat) (a : Addr), T1.loc[i]? = some a → ¬ i < S.length → T.off a := fun i a h1 hi => ⟨fun z => by
    obtain ⟨j, hj, ej⟩ := List.mem_iff_getElem.mp z
    have h2 : T1.loc[j]? = some a := st.get (by rw [List.getElem?_eq_getElem hj, ej])
    have := nd_ix sim1.ndl h1 h2
    rw [sim.len] at hj
    omega, fun z => sim1.apart (List.mem_of_getElem? h1) (by rw [st.hid]; exact z)⟩
  have plain : ∀ d, (∀ n, d ≠ .loc n) → fzD S.length S1 d = (if clo S.length d = true then some d else none) := fun d hd => by
    cases d <;> first | rfl | exact absurd rfl (hd _)
  by_cases hd : ∀ n, d ≠ .loc n
  · rw [plain d hd] at e
    split at e
    · rename_i c
      cases e
      exact h.cut em st.hid (by rw [sim.len]; exact c)
    · cases e
  · cases d with
    | loc k =>
      cases h with
      | loc hk =>
        simp only [fzD] at e
        split at e
        · rename_i hlt
          cases e
          refine .loc ?_
          rw [em, List.getElem?_append_left (by rw [sim.len]; exact hlt)] at hk
          exact hk
        · rename_i hlt
          have of := off k _ hk hlt
          split at e
          · rename_i ds es
            split at e
            · rename_i c
              cases e
              obtain ⟨xs, q1, q2⟩ := sim1.obj k _ _ hk es
              exact .lst q1 of (q2.cut em st.hid (by rw [sim.len]; exact c))
            · cases e
          · rename_i kvs es
            split at e
            · rename_i c
              cases e
              obtain ⟨xs, q1, q3, q2⟩ := sim1.obj k _ _ hk es
              rw [cloK_eq] at c
              exact .dct (.inl q1) of q3 (q2.cut em st.hid (by rw [sim.len]; exact c))
            · cases e
          · cases e
    | _ => exact absurd (fun n q => by cases q) hd
end
section
variable {P : Program} {w : World} {K : PySem.W.Frag} {mg : Str → Option Value} {base : Heap} {x qual : Str} {st : Stmt} {f : Addr} {fd : FuncData} {N ps : List Str} {k : Nat} {b : SM}
theorem fnT (F : Fun K x qual st f fd) (Sc : FnScope N ps (defScope st)) (hb : BodyOk P w K mg base N qual st f k b) : FnOk P w K mg base (L2.CX P w) (k + 1) f fd ps (spD K mg ps.length (runT N.length b)) := by
  refine F.okX Sc (fun vs H Q E h => h.1) fun cdv A outer s H vs Q E hr hsp => ⟨_, hb cdv A outer s H E hr, ?_⟩
  obtain ⟨hl, T, S, ds, rep, sim, out⟩ := hsp
  refine ⟨T, frame N.length ds, S, frame_ok N rep, sim, ?_⟩
  unfold runT finT at out
  revert out
  cases b (frame N.length ds) S with
  | bad => exact fun h => h
  | exc n r' S' =>
    intro h T' H' g' s sim' _
    dsimp only at h
    split at h
    · rename_i tr
      obtain ⟨s1, m1⟩ := tr_back sim s sim' tr
      exact h T H' s1 m1
    · exact h.elim
  | ok fl r' S' =>
    cases fl with
    | next =>
      intro h T' H' g' s sim' rs'
      dsimp only at h
      split at h
      · rename_i tr
        obtain ⟨s1, m1⟩ := tr_back sim s sim' tr
        exact h T H' .non s1 m1 .non
      · exact h.elim
    | ret d =>
      intro h T' H' v s sim' rv
      dsimp only at h
      split at h
      · rename_i tr
        obtain ⟨s1, m1⟩ := tr_back sim s sim' tr
        split at h
        · rename_i d' ed
          exact h T H' v s1 m1 (fz_back sim s sim' rv ed)
        · exact h.elim
      · exact h.elim
    | brk => exact fun h => h.elim
    | cont => exact fun h => h.elim
end
end Dv
namespace Dv
open PySem L2
/-! ### numbers -/
def subD (a b : D) (_ : Store) : Option D := match a, b with
  | .int i, .int j => some (.int (i - j))
  | _, _ => none
def fdivD (a b : D) (_ : Store) : Option D := match a, b with
  | .int i, .int j => if 0 < j ∧ j < 1073741824 then some (.int (i / j)) else none
  | _, _ => none
def modD (a b : D) (_ : Store) : Option D := match a, b with
  | .int i, .int j => if 0 < j then some (.int (i % j)) else none
  | _, _ => none
def negD (a : D) (_ : Store) : Option D := match a with
  | .int i => some (.int (-i))
  | _ => none
def addD (a b : D) (_ : Store) : Option D := match a, b with
  | .int i, .int j => some (.int (i + j))
  | .str x, .str y => if x.length + y.length ≤ 100000 then some (.str (x ++ y)) else none
  | .tup xs, .tup ys => if xs.length + ys.length ≤ 100000 then some (.tup (xs ++ ys)) else none
  | .lst xs, .lst ys => if xs.length + ys.length ≤ 100000 then some (.lst (xs ++ ys)) else none
  | _, _ => none
def mulD (a b : D) (_ : Store) : Option D := match a, b with
  | .int i, .int j => if (-(2 ^ 64) < i ∧ i < 2 ^ 64) ∨ (-(2 ^ 64) < j ∧ j < 2 ^ 64) then some (.int (i * j)) else none
  | .lst xs, .int k => if -100000 ≤ k ∧ k ≤ 100000 ∧ xs.length * k.toNat ≤ 100000 then some (.lst (List.replicate k.toNat xs).flatten) else none
  | _, _ => none
def ltD (a b : D) (_ : Store) : Option D := match a, b with
  | .int i, .int j => some (.bl (decide (i < j)))
  | .str x, .str y => some (.bl (decide (x.cps.toList < y.cps.toList)))
  | _, _ => none
def leD (a b : D) (_ : Store) : Option D := match a, b with
  | .int i, .int j => some (.bl (decide (i ≤ j)))
  | .str x, .str y => some (.bl (!decide (y.cps.toList < x.cps.toList)))
  | _, _ => none
def gtD (a b : D) (_ : Store) : Option D := match a, b with
  | .int i, .int j => some (.bl (decide (j < i)))
  | _, _ => none
def geD (a b : D) (_ : Store) : Option D := match a, b with
  | .int i, .int j => some (.bl (decide (j ≤ i)))
  | _, _ => none
section
variable {X : Cx} {K : PySem.W.Frag} {mg : Str → Option Value}
/-- a rule of two ints that tells a plain value -/
theorem pok_I0 {g : Int → Int → V} {gd : Int → Int → D} {f : D → D → Store → Option D} (hf : ∀ a b S d, f a b S = some d → ∃ i j, a = .int i ∧ b = .int j ∧ d = gd i j) (hg : ∀ T H i j, Rep K T H (g i j) (gd i j)) : POk2 K mg (rI0 g) f := fun T S H x y a b d Q sim rx ry e k => by
  obtain ⟨i, j, rfl, rfl, rfl⟩ := hf a b S d e
  exact ⟨i, j, rx.int_of, ry.int_of, k H _ (Step.refl T H) sim (hg T H i j)⟩
theorem pok_I {C : Int → Int → Prop} {g : Int → Int → V} {gd : Int → Int → D} {f : D → D → Store → Option D} (hf : ∀ a b S d, f a b S = some d → ∃ i j, a = .int i ∧ b = .int j ∧ C i j ∧ d = gd i j) (hg : ∀ T H i j, Rep K T H (g i j) (gd i j)) : POk2 K mg (rI C g) f := fun T S H x y a b d Q sim rx ry e k => by
  obtain ⟨i, j, rfl, rfl, hc, rfl⟩ := hf a b S d e
  exact ⟨i, j, rx.int_of, ry.int_of, hc, k H _ (Step.refl T H) sim (hg T H i j)⟩
theorem pok_sub : POk2 K mg (rI0 fun i j => .int (i - j)) subD := pok_I0 (gd := fun i j => .int (i - j)) (fun a b S d e => by
  cases a <;> cases b <;> cases e
  exact ⟨_, _, rfl, rfl, rfl⟩) fun _ _ _ _ => .int _
theorem pok_fdiv : POk2 K mg (rI CDiv fun i j => .int (i / j)) fdivD := pok_I (gd := fun i j => .int (i / j)) (fun a b S d e => by
  cases a <;> cases b <;> try cases e
  simp only [fdivD] at e
  split at e
  · rename_i h
    cases e
    exact ⟨_, _, rfl, rfl, h, rfl⟩
  · cases e) fun _ _ _ _ => .int _
theorem pok_mod : POk2 K mg (rI (fun _ j => 0 < j) fun i j => .int (i % j)) modD := pok_I (gd := fun i j => .int (i % j)) (fun a b S d e => by
  cases a <;> cases b <;> try cases e
  simp only [modD] at e
  split at e
  · rename_i h
    cases e
    exact ⟨_, _, rfl, rfl, h, rfl⟩
  · cases e) fun _ _ _ _ => .int _
theorem pok_neg : POk1 K mg (rU fun i => .int (-i)) negD := fun T S H x a d Q sim rx e k => by
  cases a <;> cases e
  exact ⟨_, rx.int_of, k H _ (Step.refl T H) sim (.int _)⟩
/-- the four kinds of + -/
def rAddA (K : PySem.W.Frag) : R2 := fun x y H Q => (∃ i j, x = .int i ∧ y = .int j ∧ Q (.int (i + j)) H) ∨ (∃ i j, x = .str i ∧ y = .str j ∧ i.length + j.length ≤ sizeLine ∧ Q (.str (i ++ j)) H) ∨ rCatA K x y H Q ∨ rCat x y H Q
theorem op_addA : OpR X (binaryOp .Add) (rAddA X.K) := op_add.or (op_add_str.or (op_catA.or op_cat))
theorem pok_add : POk2 K mg (rAddA K) addD := fun T S H x y a b d Q sim rx ry e k => by
  cases rx <;> cases ry <;> try cases e
  · exact .inl ⟨_, _, rfl, rfl, k H _ (Step.refl T H) sim (.int _)⟩
  · simp only [addD] at e
    split at e
    · rename_i h
      cases e
      exact .inr (.inl ⟨_, _, rfl, rfl, sz5 h, k H _ (Step.refl T H) sim (.str _)⟩)
    · cases e
  · rename_i a1 xs ds h1 n1 r1 a2 ys es h2 n2 r2
    simp only [addD] at e
    split at e
    · rename_i hz
      cases e
      have hz' : xs.length + ys.length ≤ sizeLine := by rw [r1.length, r2.length]; exact sz5 hz
      refine .inr (.inr (.inl ⟨a1, a2, xs, ys, rfl, rfl, SqT.of h1, SqT.of h2, hz', fun q => ?_, fun q1 q2 => ?_, fun q1 q2 p hp => ?_⟩))
      · subst q
        cases r1
        exact k H _ (Step.refl T H) sim (.tup h2 n2 r2)
      · subst q2
        cases r2
        rw [List.append_nil] at k
        exact k H _ (Step.refl T H) sim (.tup h1 n1 r1)
      · have st := sim.stepNew (o := .tup (xs ++ ys)) hp
        exact k _ _ st (sim.new hp (hlen_tup sim.hl (by rw [List.length_append]; exact hz'))) (.tup upd_same (sim.off hp) (RepL.append (r1.step st) (r2.step st)))
    · cases e
  · rename_i a1 xs ds h1 n1 r1 a2 ys es h2 n2 r2
    simp only [addD] at e
    split at e
    · rename_i hz
      cases e
      have hz' : xs.length + ys.length ≤ sizeLine := by rw [r1.length, r2.length]; exact sz5 hz
      refine .inr (.inr (.inr ⟨a1, a2, xs, ys, rfl, rfl, h1, h2, hz', fun p hp => ?_⟩))
      have st := sim.stepNew (o := .lst (xs ++ ys)) hp
      exact k _ _ st (sim.new hp (hlen_lst sim.hl (by rw [List.length_append]; exact hz'))) (.lst upd_same (sim.off hp) (RepL.append (r1.step st) (r2.step st)))
    · cases e
def rMulA : R2 := fun x y H Q => rI CMul (fun i j => .int (i * j)) x y H Q ∨ rRep x y H Q
theorem op_mulA : OpR X (binaryOp .Mult) rMulA := op_mul.or op_rep
theorem flat_len {α : Type} (xs : List α) : ∀ k : Nat, (List.replicate k xs).flatten.length = xs.length * k
  | 0 => rfl
  | k + 1 => by
    rw [List.replicate_succ, List.flatten_cons, List.length_append, flat_len xs k, Nat.mul_succ, Nat.add_comm]
theorem pok_mul : POk2 K mg rMulA mulD := fun T S H x y a b d Q sim rx ry e k => by
  cases rx <;> cases ry <;> try cases e
  · simp only [mulD] at e
    split at e
    · rename_i h
      cases e
      exact .inl ⟨_, _, rfl, rfl, h, k H _ (Step.refl T H) sim (.int _)⟩
    · cases e
  · rename_i a1 xs ds h1 n1 r1 i
    simp only [mulD] at e
    split at e
    · rename_i hz
      cases e
      have hz' : xs.length * i.toNat ≤ sizeLine := by rw [r1.length]; exact sz5 hz.2.2
      refine .inr ⟨a1, i, xs, rfl, rfl, h1, by omega, by omega, hz', fun p hp => ?_⟩
      have st := sim.stepNew (o := .lst (List.replicate i.toNat xs).flatten) hp
      exact k _ _ st (sim.new hp (hlen_lst sim.hl (by rw [flat_len]; exact hz'))) (.lst upd_same (sim.off hp) ((r1.step st).rep i.toNat))
    · cases e
def rLtA (K : PySem.W.Frag) : R2 := fun x y H Q => (∃ i j, x = .int i ∧ y = .int j ∧ Q (.bl (decide (i < j))) H) ∨ (∃ i j, x = .str i ∧ y = .str j ∧ Q (.bl (decide (i.cps.toList < j.cps.toList))) H)
theorem op_ltA : OpR X (compareOp .Lt) (rLtA X.K) := op_lt.or op_lt_str
theorem pok_lt : POk2 K mg (rLtA K) ltD := fun T S H x y a b d Q sim rx ry e k => by
  cases rx <;> cases ry <;> cases e
  · exact .inl ⟨_, _, rfl, rfl, k H _ (Step.refl T H) sim (.bl _)⟩
  · exact .inr ⟨_, _, rfl, rfl, k H _ (Step.refl T H) sim (.bl _)⟩
def rLeA (K : PySem.W.Frag) : R2 := fun x y H Q => (∃ i j, x = .int i ∧ y = .int j ∧ Q (.bl (decide (i ≤ j))) H) ∨ (∃ i j, x = .str i ∧ y = .str j ∧ Q (.bl (!decide (j.cps.toList < i.cps.toList))) H)
theorem op_leA : OpR X (compareOp .LtE) (rLeA X.K) := op_le.or op_le_str
theorem pok_le : POk2 K mg (rLeA K) leD := fun T S H x y a b d Q sim rx ry e k => by
  cases rx <;> cases ry <;> cases e
  · exact .inl ⟨_, _, rfl, rfl, k H _ (Step.refl T H) sim (.bl _)⟩
  · exact .inr ⟨_, _, rfl, rfl, k H _ (Step.refl T H) sim (.bl _)⟩
theorem pok_gt : POk2 K mg (rI0 fun i j => .bl (decide (j < i))) gtD := pok_I0 (gd := fun i j => .bl (decide (j < i))) (fun a b S d e => by
  cases a <;> cases b <;> cases e
  exact ⟨_, _, rfl, rfl, rfl⟩) fun _ _ _ _ => .bl _
theorem pok_ge : POk2 K mg (rI0 fun i j => .bl (decide (j ≤ i))) geD := pok_I0 (gd := fun i j => .bl (decide (j ≤ i))) (fun a b S d e => by
  cases a <;> cases b <;> cases e
  exact ⟨_, _, rfl, rfl, rfl⟩) fun _ _ _ _ => .bl _
end
/-! ### equality of data -/
mutual
def pyD : D → PyData
  | .non => .none
  | .bl b => .bool b
  | .int i => .int i
  | .str x => .str x
  | .tup xs => .tuple (pyDs xs)
  | .lst xs => .list (pyDs xs)
  | .scr _ => .none
  | .dct _ => .none
  | .loc _ => .none
  | .ty _ => .none
def pyDs : List D → List PyData
  | [] => []
  | d :: ds => pyD d :: pyDs ds
end
mutual
/-- plain data: no thing that changes, no dict -/
def dat : D → Bool
  | .non => true
  | .bl _ => true
  | .int _ => true
  | .str _ => true
  | .tup xs => dats xs
  | .lst xs => dats xs
  | .scr _ => false
  | .dct _ => false
  | .loc _ => false
  | .ty _ => false
def dats : List D → Bool
  | [] => true
  | d :: ds => dat d && dats ds
end
theorem pyDs_map : ∀ ds : List D, pyDs ds = ds.map pyD
  | [] => rfl
  | d :: ds => by
    show pyD d :: pyDs ds = _
    rw [pyDs_map ds]
    rfl
theorem dats_all : ∀ ds : List D, dats ds = ds.all dat
  | [] => rfl
  | d :: ds => by
    show (dat d && dats ds) = _
    rw [dats_all ds]
    rfl
section
variable {K : PySem.W.Frag} {T : Tb} {H : Hp}
mutual
theorem Rep.dp : ∀ {v : V} {d : D}, Rep K T H v d → dat d = true → Dp K H v (pyD d)
  | _, _, .non, _ => .non
  | _, _, .bl b, _ => .bl b
  | _, _, .int i, _ => .int i
  | _, _, .str x, _ => .str x
  | _, _, .tup h n r, c => .tup (SqT.of h) (RepL.dp r c)
  | _, _, .lst h n r, c => .lst (SqL.of h) (RepL.dp r c)
  | _, _, .scr h, c => by cases c
  | _, _, .dct h n e r, c => by cases c
  | _, _, .loc h, c => by cases c
  | _, _, .ty h, c => by cases c
theorem RepL.dp : ∀ {vs : List V} {ds : List D}, RepL K T H vs ds → dats ds = true → DpAll K H vs (pyDs ds)
  | _, _, .nil, _ => .nil
  | _, _, @RepL.cons _ _ _ v vs d ds h r, c => by
    have c : (dat d && dats ds) = true := c
    rw [Bool.and_eq_true] at c
    exact .cons (Rep.dp h c.1) (RepL.dp r c.2)
end
end
def okD (d : D) : Bool := dat d && SeqAt.shaped (pyD d)
def eqvD (a b : D) : Bool := PyData.eqv (pyD a) (pyD b)
/-- a list of the store is told as it stands -/
def now (d : D) (S : Store) : D := match d with
  | .loc n => match S[n]? with
    | some (.lst xs) => .lst xs
    | _ => .loc n
  | d => d
def eqO (a b : D) : Option Bool := match a, b with
  | .int i, .int j => some (decide (i = j))
  | .str x, .str y => some (decide (x = y))
  | .bl x, .bl y => some (decide (x = y))
  | a, b => if okD a = true ∧ okD b = true then some (eqvD a b) else none
def eqD (a b : D) (S : Store) : Option D := (eqO (now a S) (now b S)).map .bl
def neD (a b : D) (S : Store) : Option D := (eqO (now a S) (now b S)).map fun k => .bl (!k)
section
variable {X : Cx} {K : PySem.W.Frag} {mg : Str → Option Value}
def rEqA (K : PySem.W.Frag) : R2 := fun x y H Q => rEq x y H Q ∨ rEqD K x y H Q
def rNeA (K : PySem.W.Frag) : R2 := fun x y H Q => rNe x y H Q ∨ rNeD K x y H Q
theorem op_eqA (hu : X.A.units + 64 < cLine) : OpR X (compareOp .Eq) (rEqA X.K) := op_eq.or (op_eqD hu)
theorem op_neA (hu : X.A.units + 64 < cLine) : OpR X (compareOp .NotEq) (rNeA X.K) := op_ne.or (op_neD hu)
/-- a value as data, a list of the store too -/
theorem now_dp {T : Tb} {S : Store} {H : Hp} {v : V} {d : D} (sim : Sim K mg T S H) (h : Rep K T H v d) (c : dat (now d S) = true) : Dp K H v (pyD (now d S)) := by
  cases d with
  | loc n =>
    simp only [now] at c ⊢
    split at c
    · rename_i xs e
      cases h with
      | loc hn =>
        obtain ⟨ys, q1, q2⟩ := sim.obj _ _ _ hn e
        exact .lst (SqL.of q1) (q2.dp c)
    · cases c
  | _ => exact h.dp c
theorem now_int {T : Tb} {S : Store} {H : Hp} {v : V} {d : D} {i : Int} (h : Rep K T H v d) (e : now d S = .int i) : v = .int i := by
  cases d with
  | loc n =>
    simp only [now] at e
    split at e <;> cases e
  | int j => cases e; exact h.int_of
  | _ => cases e
theorem now_str {T : Tb} {S : Store} {H : Hp} {v : V} {d : D} {i : Str} (h : Rep K T H v d) (e : now d S = .str i) : v = .str i := by
  cases d with
  | loc n =>
    simp only [now] at e
    split at e <;> cases e
  | str j => cases e; exact h.str_of
  | _ => cases e
theorem now_bl {T : Tb} {S : Store} {H : Hp} {v : V} {d : D} {i : Bool} (h : Rep K T H v d) (e : now d S = .bl i) : v = .bl i := by
  cases d with
  | loc n =>
    simp only [now] at e
    split at e <;> cases e
  | bl j => cases e; exact h.bl_of
  | _ => cases e
theorem eqO_cases {T : Tb} {S : Store} {H : Hp} {x y : V} {a b : D} {k : Bool} (sim : Sim K mg T S H) (rx : Rep K T H x a) (ry : Rep K T H y b) (e : eqO (now a S) (now b S) = some k) :
    (scal x y = true ∧ k = decide (x = y)) ∨ (∃ d1 d2, Dp K H x d1 ∧ Dp K H y d2 ∧ SeqAt.shaped d1 = true ∧ SeqAt.shaped d2 = true ∧ k = PyData.eqv d1 d2) := by
  unfold eqO at e
  split at e
  · rename_i i j e1 e2
    cases e
    rw [now_int rx e1, now_int ry e2]
    exact .inl ⟨rfl, by rw [dec_int, Bool.beq_eq_decide_eq]⟩
  · rename_i i j e1 e2
    cases e
    rw [now_str rx e1, now_str ry e2]
    exact .inl ⟨rfl, by rw [dec_str, Bool.beq_eq_decide_eq]⟩
  · rename_i i j e1 e2
    cases e
    rw [now_bl rx e1, now_bl ry e2]
    exact .inl ⟨rfl, by rw [dec_bl, Bool.beq_eq_decide_eq]⟩
  · split at e
    · rename_i h
      cases e
      have h1 := h.1
      have h2 := h.2
      unfold okD at h1 h2
      rw [Bool.and_eq_true] at h1 h2
      exact .inr ⟨_, _, now_dp sim rx h1.1, now_dp sim ry h2.1, h1.2, h2.2, rfl⟩
    · cases e
theorem pok_eq : POk2 K mg (rEqA K) eqD := fun T S H x y a b d Q sim rx ry e k => by
  unfold eqD at e
  cases q : eqO (now a S) (now b S) with
  | none => rw [q] at e; cases e
  | some t =>
    rw [q] at e
    cases e
    have kk := k H (.bl t) (Step.refl T H) sim (.bl t)
    rcases eqO_cases sim rx ry q with ⟨h1, h2⟩ | ⟨d1, d2, h1, h2, h3, h4, h5⟩
    · exact .inl ⟨h1, by rw [← h2]; exact kk⟩
    · exact .inr ⟨d1, d2, h1, h2, h3, h4, by rw [← h5]; exact kk⟩
theorem pok_ne : POk2 K mg (rNeA K) neD := fun T S H x y a b d Q sim rx ry e k => by
  unfold neD at e
  cases q : eqO (now a S) (now b S) with
  | none => rw [q] at e; cases e
  | some t =>
    rw [q] at e
    cases e
    have kk := k H (.bl (!t)) (Step.refl T H) sim (.bl (!t))
    rcases eqO_cases sim rx ry q with ⟨h1, h2⟩ | ⟨d1, d2, h1, h2, h3, h4, h5⟩
    · exact .inl ⟨h1, by rw [← h2]; exact kk⟩
    · exact .inr ⟨d1, d2, h1, h2, h3, h4, by rw [← h5]; exact kk⟩
end
/-! ### is None -/
def isND (a b : D) (_ : Store) : Option D := match a, b with
  | .non, .non => some (.bl true)
  | _, .non => some (.bl false)
  | _, _ => none
def notND (a b : D) (_ : Store) : Option D := match a, b with
  | .non, .non => some (.bl false)
  | _, .non => some (.bl true)
  | _, _ => none
/-! ### in -/
def inO (a b : D) : Option Bool := match b with
  | .lst xs => if okD a = true ∧ okD (.lst xs) = true then some (xs.any fun z => eqvD z a) else none
  | _ => none
def inD (a b : D) (S : Store) : Option D := (inO (now a S) (now b S)).map .bl
def ninD (a b : D) (S : Store) : Option D := (inO (now a S) (now b S)).map fun k => .bl (!k)
section
variable {X : Cx} {K : PySem.W.Frag} {mg : Str → Option Value}
theorem pok_isN : POk2 K mg (fun x y H Q => y = .non ∧ Q (.bl (decide (x = .non))) H) isND := fun T S H x y a b d Q sim rx ry e k => by
  cases ry <;> cases rx <;> cases e <;> exact ⟨rfl, k H _ (Step.refl T H) sim (.bl _)⟩
theorem pok_notN : POk2 K mg (fun x y H Q => y = .non ∧ Q (.bl (!decide (x = .non))) H) notND := fun T S H x y a b d Q sim rx ry e k => by
  cases ry <;> cases rx <;> cases e <;> exact ⟨rfl, k H _ (Step.refl T H) sim (.bl _)⟩
theorem inO_cases {T : Tb} {S : Store} {H : Hp} {x y : V} {a b : D} {k : Bool} (sim : Sim K mg T S H) (rx : Rep K T H x a) (ry : Rep K T H y b) (e : inO (now a S) (now b S) = some k) :
    ∃ d ds, Dp K H x d ∧ Dp K H y (.list ds) ∧ SeqAt.shaped d = true ∧ SeqAt.shaped (.list ds) = true ∧ k = ds.any fun z => PyData.eqv z d := by
  unfold inO at e
  split at e
  · rename_i xs e2
    split at e
    · rename_i h
      cases e
      have h1 := h.1
      have h2 := h.2
      rw [← e2] at h2
      unfold okD at h1 h2
      rw [Bool.and_eq_true] at h1 h2
      have q := now_dp sim ry h2.1
      have q2 := h2.2
      rw [e2] at q q2
      refine ⟨_, _, now_dp sim rx h1.1, q, h1.2, q2, ?_⟩
      rw [pyDs_map, List.any_map]
      rfl
    · cases e
  · cases e
theorem pok_in : POk2 K mg (rInD K) inD := fun T S H x y a b d Q sim rx ry e k => by
  unfold inD at e
  cases q : inO (now a S) (now b S) with
  | none => rw [q] at e; cases e
  | some t =>
    rw [q] at e
    cases e
    obtain ⟨d, ds, h1, h2, h3, h4, h5⟩ := inO_cases sim rx ry q
    exact ⟨d, ds, h1, h2, h3, h4, by rw [← h5]; exact k H _ (Step.refl T H) sim (.bl _)⟩
theorem pok_nin : POk2 K mg (rNotInD K) ninD := fun T S H x y a b d Q sim rx ry e k => by
  unfold ninD at e
  cases q : inO (now a S) (now b S) with
  | none => rw [q] at e; cases e
  | some t =>
    rw [q] at e
    cases e
    obtain ⟨d, ds, h1, h2, h3, h4, h5⟩ := inO_cases sim rx ry q
    exact ⟨d, ds, h1, h2, h3, h4, by rw [← h5]; exact k H _ (Step.refl T H) sim (.bl _)⟩
end
end Dv
namespace Dv
open PySem L2
/-! ### built-in functions -/
def lenD (ds : List D) (S : Store) : Option D := match ds with
  | [.lst xs] => some (.int xs.length)
  | [.tup xs] => some (.int xs.length)
  | [.scr xs] => some (.int xs.length)
  | [.str x] => if x.length ≤ 100000 then some (.int x.length) else none
  | [.loc n] => match S[n]? with
    | some (.lst xs) => some (.int xs.length)
    | _ => none
  | _ => none
def absD (ds : List D) (_ : Store) : Option D := match ds with
  | [.int i] => some (.int (if i < 0 then -i else i))
  | _ => none
def intD (ds : List D) (_ : Store) : Option D := match ds with
  | [.int i] => some (.int i)
  | [.bl b] => some (.int (if b = true then 1 else 0))
  | _ => none
def intsOf : List D → Option (List Int)
  | [] => some []
  | .int i :: ds => (intsOf ds).map (i :: ·)
  | _ :: _ => none
def blsOf : List D → Option (List Bool)
  | [] => some []
  | .bl i :: ds => (blsOf ds).map (i :: ·)
  | _ :: _ => none
theorem intsOf_map : ∀ ns : List Int, intsOf (ns.map D.int) = some ns
  | [] => rfl
  | n :: ns => by
    show (intsOf (ns.map D.int)).map (n :: ·) = _
    rw [intsOf_map ns]
    rfl
theorem intsOf_some : ∀ {ds : List D} {ns : List Int}, intsOf ds = some ns → ds = ns.map D.int
  | [], _, e => by cases e; rfl
  | d :: ds, ns, e => by
    cases d <;> try cases e
    simp only [intsOf] at e
    cases q : intsOf ds with
    | none => rw [q] at e; cases e
    | some ms =>
      rw [q] at e
      cases e
      rw [intsOf_some q]
      rfl
theorem blsOf_map : ∀ ns : List Bool, blsOf (ns.map D.bl) = some ns
  | [] => rfl
  | n :: ns => by
    show (blsOf (ns.map D.bl)).map (n :: ·) = _
    rw [blsOf_map ns]
    rfl
theorem blsOf_some : ∀ {ds : List D} {ns : List Bool}, blsOf ds = some ns → ds = ns.map D.bl
  | [], _, e => by cases e; rfl
  | d :: ds, ns, e => by
    cases d <;> try cases e
    simp only [blsOf] at e
    cases q : blsOf ds with
    | none => rw [q] at e; cases e
    | some ms =>
      rw [q] at e
      cases e
      rw [blsOf_some q]
      rfl
def maxI : List Int → Option Int
  | [] => none
  | [x] => some x
  | x :: xs => (maxI xs).map fun m => if m < x then x else m
theorem maxI_ok : ∀ {ns : List Int} {m : Int}, maxI ns = some m → m ∈ ns ∧ ∀ y ∈ ns, y ≤ m
  | [], _, e => by cases e
  | [x], m, e => by
    cases e
    exact ⟨List.mem_singleton.mpr rfl, fun y hy => by rw [List.mem_singleton.mp hy]; exact Int.le_refl _⟩
  | x :: y :: xs, m, e => by
    simp only [maxI] at e
    cases q : maxI (y :: xs) with
    | none => rw [show (maxI (y :: xs)) = none from q] at e; cases e
    | some k =>
      have e : (maxI (y :: xs)).map (fun m => if m < x then x else m) = some m := e
      rw [q] at e
      obtain ⟨h1, h2⟩ := maxI_ok q
      cases e
      show (if k < x then x else k) ∈ x :: y :: xs ∧ ∀ z ∈ x :: y :: xs, z ≤ (if k < x then x else k)
      by_cases hk : k < x
      · rw [if_pos hk]
        exact ⟨List.mem_cons_self, fun z hz => (List.mem_cons.mp hz).elim (fun e => by rw [e]; exact Int.le_refl _) fun hz => Int.le_trans (h2 z hz) (Int.le_of_lt hk)⟩
      · rw [if_neg hk]
        exact ⟨List.mem_cons_of_mem _ h1, fun z hz => (List.mem_cons.mp hz).elim (fun e => by rw [e]; omega) fun hz => h2 z hz⟩
def maxD (ds : List D) (_ : Store) : Option D := match ds with
  | [.lst xs] => ((intsOf xs).bind maxI).map .int
  | _ => none
def sumD (ds : List D) (_ : Store) : Option D := match ds with
  | [.lst xs] => (intsOf xs).map fun ns => .int ns.sum
  | _ => none
def allD (ds : List D) (_ : Store) : Option D := match ds with
  | [.lst xs] => (blsOf xs).map fun ns => .bl (ns.all id)
  | _ => none
def anyD (ds : List D) (_ : Store) : Option D := match ds with
  | [.lst xs] => (blsOf xs).map fun ns => .bl (ns.any id)
  | _ => none
def tupD (ds : List D) (S : Store) : Option D := match ds with
  | [.lst xs] => some (.tup xs)
  | [.tup xs] => some (.tup xs)
  | [.loc n] => match S[n]? with
    | some (.lst xs) => some (.tup xs)
    | _ => none
  | _ => none
def lstD (ds : List D) (S : Store) : Option D := match ds with
  | [.lst xs] => some (.lst xs)
  | [.tup xs] => some (.lst xs)
  | [.loc n] => match S[n]? with
    | some (.lst xs) => some (.lst xs)
    | _ => none
  | _ => none
section
variable {X : Cx} {K : PySem.W.Frag} {mg : Str → Option Value}
theorem RepL.one {T : Tb} {H : Hp} {vs : List V} {d : D} (h : RepL K T H vs [d]) : ∃ v, vs = [v] ∧ Rep K T H v d := by
  cases h with
  | cons r q =>
    cases q
    exact ⟨_, rfl, r⟩
theorem pok_len : POk K mg (fun xs H Q => ∃ x n, xs = [x] ∧ LenV K x H n ∧ Q (.int n) H) lenD := fun T S H vs ds d Q sim rep e k => by
  unfold lenD at e
  split at e
  · rename_i xs
    cases e
    obtain ⟨v, rfl, r⟩ := rep.one
    cases r with
    | lst h n q => exact ⟨_, _, rfl, .inl ⟨_, SqL.of h, q.length.symm⟩, k H _ (Step.refl T H) sim (.int _)⟩
  · rename_i xs
    cases e
    obtain ⟨v, rfl, r⟩ := rep.one
    cases r with
    | tup h n q => exact ⟨_, _, rfl, .inr ⟨_, SqT.of h, q.length.symm⟩, k H _ (Step.refl T H) sim (.int _)⟩
  · rename_i xs
    cases e
    obtain ⟨v, rfl, r⟩ := rep.one
    cases r with
    | scr h => exact ⟨_, _, rfl, .inl ⟨_, h.sq, (List.length_map ..).symm⟩, k H _ (Step.refl T H) sim (.int _)⟩
  · rename_i x
    obtain ⟨v, rfl, r⟩ := rep.one
    split at e
    · rename_i hz
      cases e
      cases r
      exact ⟨_, _, rfl, ⟨sz5 hz, rfl⟩, k H _ (Step.refl T H) sim (.int _)⟩
    · cases e
  · rename_i n
    obtain ⟨v, rfl, r⟩ := rep.one
    split at e
    · rename_i xs q
      cases e
      cases r with
      | loc hn =>
        obtain ⟨ys, q1, q2⟩ := sim.obj _ _ _ hn q
        exact ⟨_, _, rfl, .inl ⟨_, SqL.of q1, q2.length.symm⟩, k H _ (Step.refl T H) sim (.int _)⟩
    · cases e
  · cases e
theorem pok_abs : POk K mg (fun xs H Q => ∃ i, xs = [.int i] ∧ Q (.int (if i < 0 then -i else i)) H) absD := fun T S H vs ds d Q sim rep e k => by
  unfold absD at e
  split at e
  · cases e
    obtain ⟨v, rfl, r⟩ := rep.one
    exact ⟨_, by rw [r.int_of], k H _ (Step.refl T H) sim (.int _)⟩
  · cases e
theorem pok_int : POk K mg (fun xs H Q => (∃ i, xs = [.int i] ∧ Q (.int i) H) ∨ ∃ k, xs = [.bl k] ∧ Q (.int (if k then 1 else 0)) H) intD := fun T S H vs ds d Q sim rep e k => by
  unfold intD at e
  split at e
  · cases e
    obtain ⟨v, rfl, r⟩ := rep.one
    exact .inl ⟨_, by rw [r.int_of], k H _ (Step.refl T H) sim (.int _)⟩
  · cases e
    obtain ⟨v, rfl, r⟩ := rep.one
    exact .inr ⟨_, by rw [r.bl_of], k H _ (Step.refl T H) sim (.int _)⟩
  · cases e
theorem pok_max : POk K mg (rMax K) maxD := fun T S H vs ds d Q sim rep e k => by
  unfold maxD at e
  split at e
  · rename_i xs
    obtain ⟨v, rfl, r⟩ := rep.one
    cases q : intsOf xs with
    | none => rw [q] at e; cases e
    | some ns =>
      rw [q] at e
      have e : (maxI ns).map D.int = some d := e
      cases q2 : maxI ns with
      | none => rw [q2] at e; cases e
      | some m =>
        rw [q2] at e
        cases e
        have e3 := intsOf_some q
        subst e3
        obtain ⟨h1, h2⟩ := maxI_ok q2
        cases r with
        | lst h n r =>
          rw [r.of_ints] at h
          refine ⟨_, ns, rfl, SqL.of h, List.length_pos_of_mem h1, fun m' h3 h4 => ?_⟩
          have e5 : m' = m := Int.le_antisymm (h2 m' h3) (h4 m h1)
          subst e5
          exact k H _ (Step.refl T H) sim (.int _)
  · cases e
theorem pok_sum : POk K mg (rSum K) sumD := fun T S H vs ds d Q sim rep e k => by
  unfold sumD at e
  split at e
  · rename_i xs
    obtain ⟨v, rfl, r⟩ := rep.one
    cases q : intsOf xs with
    | none => rw [q] at e; cases e
    | some ns =>
      rw [q] at e
      cases e
      have e3 := intsOf_some q
      subst e3
      cases r with
      | lst h n r =>
        rw [r.of_ints] at h
        exact ⟨_, ns, rfl, SqL.of h, k H _ (Step.refl T H) sim (.int _)⟩
  · cases e
theorem pok_all : POk K mg (rAll K) allD := fun T S H vs ds d Q sim rep e k => by
  unfold allD at e
  split at e
  · rename_i xs
    obtain ⟨v, rfl, r⟩ := rep.one
    cases q : blsOf xs with
    | none => rw [q] at e; cases e
    | some ns =>
      rw [q] at e
      cases e
      have e3 := blsOf_some q
      subst e3
      cases r with
      | lst h n r =>
        rw [r.of_bls] at h
        exact ⟨_, ns, rfl, SqL.of h, k H _ (Step.refl T H) sim (.bl _)⟩
  · cases e
theorem pok_any : POk K mg (rAny K) anyD := fun T S H vs ds d Q sim rep e k => by
  unfold anyD at e
  split at e
  · rename_i xs
    obtain ⟨v, rfl, r⟩ := rep.one
    cases q : blsOf xs with
    | none => rw [q] at e; cases e
    | some ns =>
      rw [q] at e
      cases e
      have e3 := blsOf_some q
      subst e3
      cases r with
      | lst h n r =>
        rw [r.of_bls] at h
        exact ⟨_, ns, rfl, SqL.of h, k H _ (Step.refl T H) sim (.bl _)⟩
  · cases e
theorem pok_tup : POk K mg (fun xs H Q => ∃ p ys, xs = [.ref p] ∧ ((SqL K H p ys ∧ ∀ l, H l = none → Q (.ref l) (upd H l (.tup ys))) ∨ (SqT K H p ys ∧ Q (.ref p) H))) tupD := fun T S H vs ds d Q sim rep e k => by
  have mk : ∀ {a : Addr} {xs : List V} {es : List D}, H a = some (.lst xs) → RepL K T H xs es → d = .tup es → ∃ p ys, [V.ref a] = [.ref p] ∧ ((SqL K H p ys ∧ ∀ l, H l = none → Q (.ref l) (upd H l (.tup ys))) ∨ (SqT K H p ys ∧ Q (.ref p) H)) := fun {a xs es} h r ed => by
    subst ed
    refine ⟨a, xs, rfl, .inl ⟨SqL.of h, fun p hp => ?_⟩⟩
    have st := sim.stepNew (o := .tup xs) hp
    exact k _ _ st (sim.new hp (hlen_tup sim.hl (sim.hl _ _ (.inl (.inl h))))) (.tup upd_same (sim.off hp) (r.step st))
  unfold tupD at e
  split at e
  · cases e
    obtain ⟨v, rfl, r⟩ := rep.one
    cases r with
    | lst h n r => exact mk h r rfl
  · cases e
    obtain ⟨v, rfl, r⟩ := rep.one
    cases r with
    | tup h n r => exact ⟨_, _, rfl, .inr ⟨SqT.of h, k H _ (Step.refl T H) sim (.tup h n r)⟩⟩
  · obtain ⟨v, rfl, r⟩ := rep.one
    split at e
    · rename_i xs q
      cases e
      cases r with
      | loc hn =>
        obtain ⟨ys, q1, q2⟩ := sim.obj _ _ _ hn q
        exact mk q1 q2 rfl
    · cases e
  · cases e
theorem pok_lst : POk K mg (fun xs H Q => ∃ p ys, xs = [.ref p] ∧ (SqL K H p ys ∨ SqT K H p ys) ∧ ∀ l, H l = none → Q (.ref l) (upd H l (.lst ys))) lstD := fun T S H vs ds d Q sim rep e k => by
  have mk : ∀ {xs : List V} {es : List D}, xs.length ≤ sizeLine → RepL K T H xs es → d = .lst es → ∀ l, H l = none → Q (.ref l) (upd H l (.lst xs)) := fun {xs es} hz r ed p hp => by
    subst ed
    have st := sim.stepNew (o := .lst xs) hp
    exact k _ _ st (sim.new hp (hlen_lst sim.hl hz)) (.lst upd_same (sim.off hp) (r.step st))
  unfold lstD at e
  split at e
  · cases e
    obtain ⟨v, rfl, r⟩ := rep.one
    cases r with
    | lst h n r => exact ⟨_, _, rfl, .inl (SqL.of h), mk (sim.hl _ _ (.inl (.inl h))) r rfl⟩
  · cases e
    obtain ⟨v, rfl, r⟩ := rep.one
    cases r with
    | tup h n r => exact ⟨_, _, rfl, .inr (SqT.of h), mk (sim.hl _ _ (.inr (.inl h))) r rfl⟩
  · obtain ⟨v, rfl, r⟩ := rep.one
    split at e
    · rename_i xs q
      cases e
      cases r with
      | loc hn =>
        obtain ⟨ys, q1, q2⟩ := sim.obj _ _ _ hn q
        exact ⟨_, _, rfl, .inl (SqL.of q1), mk (sim.hl _ _ (.inl (.inl q1))) q2 rfl⟩
    · cases e
  · cases e
end
/-! ### isinstance -/
def tyN (d : D) : Option String := match d with
  | .non => some "NoneType"
  | .bl _ => some "bool"
  | .int _ => some "int"
  | .str _ => some "str"
  | .tup _ => some "tuple"
  | .lst _ => some "list"
  | _ => none
def isiD (ds : List D) (_ : Store) : Option D := match ds with
  | [d, .ty n] => ((tyN d).bind fun t => kitB t n).map .bl
  | _ => none
section
variable {X : Cx} {K : PySem.W.Frag} {mg : Str → Option Value} {Wx : WX}
theorem Rep.tyx {T : Tb} {H : Hp} {v : V} {d : D} {t : String} (h : Rep K T H v d) (e : tyN d = some t) : TyX K H v (.type t) := by
  cases h <;> cases e
  · exact .base .non
  · exact .base (.bl _)
  · exact .base (.int _)
  · exact .base (.str _)
  · rename_i h n r
    exact .base (.tup h)
  · rename_i h n r
    exact .base (.lst h)
theorem pok_isi : POk K mg (rIsi K) isiD := fun T S H vs ds d Q sim rep e k => by
  unfold isiD at e
  split at e
  · rename_i x n
    cases rep with
    | cons r1 q =>
      cases q with
      | cons r2 q =>
        cases q
        cases q1 : tyN x with
        | none => rw [q1] at e; cases e
        | some t =>
          rw [q1] at e
          have e : (kitB t n).map D.bl = some d := e
          cases q2 : kitB t n with
          | none => rw [q2] at e; cases e
          | some b =>
            rw [q2] at e
            cases e
            cases r2
            exact ⟨_, _, _, _, b, rfl, .ty n, r1.tyx q1, kit_ty q2, k H _ (Step.refl T H) sim (.bl _)⟩
  · cases e
theorem j_ty {x : Str} {n : String} {pos : Pos} (hg : Gl X x) (hm : X.mg x = none) (hv : bootBuiltins x = some (.type n)) (hn : x ≠ "__name__" := by decide) (hd : (x == ("__debug__" : Str)) = false := by decide) : PE X (.Name x pos) (tD X.K X.mg Wx (mC (.ty n))) :=
  j_c (pe_bltn (v := .ty n) hg hm hv rfl hn hd) fun _ _ => .ty n
end
/-! ### places -/
def ixD (a b : D) (S : Store) : Option D := match a, b with
  | .lst xs, .int i => atI xs i
  | .tup xs, .int i => atI xs i
  | .scr ns, .int i => (atI ns i).map .int
  | .str x, .int i => if x.length ≤ 100000 then (atI x.cps.toList i).map chD else none
  | .loc n, .int i => match S[n]? with
    | some (.lst xs) => atI xs i
    | _ => none
  | _, _ => none
section
variable {X : Cx} {K : PySem.W.Frag} {mg : Str → Option Value} {Wx : WX}
theorem atI_rep {T : Tb} {H : Hp} {vs : List V} {ds : List D} {i : Int} {d : D} (h : RepL K T H vs ds) (e : atI ds i = some d) : ∃ v, atI vs i = some v ∧ Rep K T H v d := by
  unfold atI at e ⊢
  rw [h.length]
  cases q : ixN ds.length i with
  | none => rw [q] at e; cases e
  | some j =>
    rw [q] at e
    exact h.get e
theorem atI_map {α β : Type} (f : α → β) (xs : List α) (i : Int) : atI (xs.map f) i = (atI xs i).map f := by
  unfold atI
  rw [List.length_map]
  cases ixN xs.length i with
  | none => rfl
  | some j => exact List.getElem?_map
theorem pok_ix : POk2 K mg (rIx K) ixD := fun T S H x y a b d Q sim rx ry e k => by
  cases ry <;> try (cases a <;> cases e)
  rename_i i
  cases rx <;> try cases e
  · rename_i x
    simp only [ixD] at e
    split at e
    · rename_i hz
      cases q : atI x.cps.toList i with
      | none => rw [q] at e; cases e
      | some c =>
        rw [q] at e
        cases e
        exact .inr (.inr ⟨x, i, c, rfl, rfl, sz5 hz, q, k H _ (Step.refl T H) sim (.str _)⟩)
    · cases e
  · rename_i a xs ds h n r
    obtain ⟨v, h1, h2⟩ := atI_rep r e
    exact .inr (.inl ⟨a, xs, i, v, rfl, rfl, SqT.of h, h1, k H _ (Step.refl T H) sim h2⟩)
  · rename_i a xs ds h n r
    obtain ⟨v, h1, h2⟩ := atI_rep r e
    exact .inl ⟨a, xs, i, v, rfl, rfl, SqL.of h, h1, k H _ (Step.refl T H) sim h2⟩
  · rename_i a ns h
    simp only [ixD] at e
    cases q : atI ns i with
    | none => rw [q] at e; cases e
    | some c =>
      rw [q] at e
      cases e
      exact .inl ⟨a, _, i, .int c, rfl, rfl, h.sq, by rw [atI_map, q]; rfl, k H _ (Step.refl T H) sim (.int _)⟩
  · rename_i a n hn
    simp only [ixD] at e
    split at e
    · rename_i xs q
      obtain ⟨ys, q1, q2⟩ := sim.obj _ _ _ hn q
      obtain ⟨v, h1, h2⟩ := atI_rep q2 e
      exact .inl ⟨a, ys, i, v, rfl, rfl, SqL.of q1, h1, k H _ (Step.refl T H) sim h2⟩
    · cases e
end
/-! ### slices -/
abbrev OM := Env → Store → R (Option Int)
def mNoP : OM := fun _ S => .ok none S
def mP (m : EM) : OM := fun r S => (m r S).bind fun d S1 => match d with
  | .int i => .ok (some i) S1
  | _ => .bad
def cutL {α : Type} (xs : List α) (lo hi : Option Int) : List α := (xs.drop (HT.sIx xs.length 0 lo)).take (HT.sIx xs.length xs.length hi - HT.sIx xs.length 0 lo)
def slD (d : D) (lo hi : Option Int) (S : Store) : Option D := match d with
  | .lst xs => some (.lst (cutL xs lo hi))
  | .tup xs => some (.tup (cutL xs lo hi))
  | .loc n => match S[n]? with
    | some (.lst xs) => some (.lst (cutL xs lo hi))
    | _ => none
  | _ => none
def mSl (m : EM) (ml mh : OM) : EM := fun r S => (m r S).bind fun d S1 => (ml r S1).bind fun lo S2 => (mh r S2).bind fun hi S3 => ofO (slD d lo hi S3) S3
def tDO (K : PySem.W.Frag) (mg : Str → Option Value) (Wx : WX) (m : OM) : TO := fun g H Q => ∃ T r S, RepSt K T H r g ∧ Sim K mg T S H ∧ Out K mg Wx (fun _ _ v d => v = d) T g H (m r S) Q
section
variable {X : Cx} {K : PySem.W.Frag} {mg : Str → Option Value} {Wx : WX} {e : Expr} {m : EM} {ml mh : OM} {pos p2 : Pos} {lo hi : Option Expr}
theorem po_imp {e : Option Expr} {t t' : TO} (h : PO X e t) (i : ∀ g H Q, t' g H Q → t g H Q) : PO X e t' := ⟨fun pins s g H Q I w => h.run pins s g H Q I (i g H Q w)⟩
theorem jo_none : PO X none (tDO X.K X.mg Wx mNoP) := po_imp po_none fun g H Q h => by
  obtain ⟨T, r, S, rs, sim, h⟩ := h
  exact h T H none (Step.refl T H) sim rfl
theorem jo_some (h : PE X e (tD X.K X.mg Wx m)) : PO X (some e) (tDO X.K X.mg Wx (mP m)) := po_imp (po_some h) fun g H Q h => by
  obtain ⟨T, r, S, rs, sim, h⟩ := h
  refine ⟨T, r, S, rs, sim, Out.bind h fun d S1 T1 H1 v st sim1 rel h1 => ?_⟩
  cases d with
  | int i =>
    rw [rel.int_of]
    exact ⟨i, rfl, h1 T1 H1 _ (Step.refl T1 H1) sim1 rfl⟩
  | _ => exact h1.elim
theorem cut_rep {T : Tb} {H : Hp} {vs : List V} {ds : List D} (lo hi : Option Int) (h : RepL K T H vs ds) : RepL K T H (cutV vs lo hi) (cutL ds lo hi) := by
  unfold cutV cutL
  rw [h.length]
  exact (h.drop _).take _
theorem cut_whole {α : Type} {xs : List α} {lo hi : Option Int} (h : HT.sIx xs.length 0 lo = 0 ∧ HT.sIx xs.length xs.length hi = xs.length) : cutL xs lo hi = xs := by
  unfold cutL
  rw [h.1, h.2, Nat.sub_zero, List.drop_zero, List.take_length]
def rSlB (K : PySem.W.Frag) : V → Option Int → Option Int → Hp → VK → Prop := fun x lo hi H Q => rSlL K x lo hi H Q ∨ rSlA K x lo hi H Q
theorem sl_B : SlR X (rSlB X.K) := sl_list.or sl_tupA
theorem sl_ok {T : Tb} {S : Store} {H : Hp} {v : V} {d d' : D} {lo hi : Option Int} {Q : VK} (sim : Sim K mg T S H) (h : Rep K T H v d) (e : slD d lo hi S = some d') (k : ∀ H' v, Step T H T H' → Sim K mg T S H' → Rep K T H' v d' → Q v H') : rSlB K v lo hi H Q := by
  have mk : ∀ {a : Addr} {xs : List V} {es : List D}, H a = some (.lst xs) → RepL K T H xs es → d' = .lst (cutL es lo hi) → rSlB K (.ref a) lo hi H Q := fun {a xs es} h r ed => by
    subst ed
    refine .inl ⟨a, xs, rfl, SqL.of h, fun p hp => ?_⟩
    have st := sim.stepNew (o := .lst (cutV xs lo hi)) hp
    exact k _ _ st (sim.new hp (hlen_lst sim.hl (Nat.le_trans (cutV_length _ _ _) (sim.hl _ _ (.inl (.inl h)))))) (.lst upd_same (sim.off hp) ((cut_rep lo hi r).step st))
  cases h <;> try cases e
  · rename_i a xs ds h n r
    refine .inr ⟨a, xs, rfl, SqT.of h, fun q => ?_, fun q p hp => ?_⟩
    · refine k H _ (Step.refl T H) sim ?_
      rw [r.length] at q
      rw [cut_whole q]
      exact .tup h n r
    · have st := sim.stepNew (o := .tup (cutV xs lo hi)) hp
      exact k _ _ st (sim.new hp (hlen_tup sim.hl (Nat.le_trans (cutV_length _ _ _) (sim.hl _ _ (.inr (.inl h)))))) (.tup upd_same (sim.off hp) ((cut_rep lo hi r).step st))
  · rename_i a xs ds h n r
    exact mk h r rfl
  · rename_i a n hn
    simp only [slD] at e
    split at e
    · rename_i xs q
      cases e
      obtain ⟨ys, q1, q2⟩ := sim.obj _ _ _ hn q
      exact mk q1 q2 rfl
    · cases e
theorem j_slice (he : PE X e (tD X.K X.mg Wx m)) (hl : PO X lo (tDO X.K X.mg Wx ml)) (hu : PO X hi (tDO X.K X.mg Wx mh)) : PE X (.Subscript e (.Slice lo hi none p2) pos) (tD X.K X.mg Wx (mSl m ml mh)) :=
  pe_imp (pe_slice sl_B he hl hu) fun g H Q h => by
    obtain ⟨T, r, S, rs, sim, h⟩ := h
    refine ⟨T, r, S, rs, sim, Out.bind h fun d S1 T1 H1 v st sim1 rel h1 => ?_⟩
    refine ⟨T1, r, S1, rs.step st, sim1, Out.bind h1 fun l S2 T2 H2 lv st2 sim2 rel2 h2 => ?_⟩
    subst rel2
    refine ⟨T2, r, S2, (rs.step st).step st2, sim2, Out.bind h2 fun u S3 T3 H3 uv st3 sim3 rel3 h3 => ?_⟩
    subst rel3
    exact Out.use h3 fun d' e k => sl_ok sim3 (rel.step (st2.trans st3)) e fun H' v' s' => k T3 H' v' s'
end
/-! ### things of the store change -/
def isLoc (o : D) (S : Store) : Bool := match o with
  | .loc n => match S[n]? with
    | some (.lst _) => true
    | _ => false
  | _ => false
def appD (o d : D) (S : Store) : R D := match o with
  | .loc n => match S[n]? with
    | some (.lst xs) => if xs.length < 100000 then .ok .non (S.set n (.lst (xs ++ [d]))) else .bad
    | _ => .bad
  | _ => .bad
def mAppend (mo m : EM) : EM := fun r S => (mo r S).bind fun o S1 => if isLoc o S1 = true then (m r S1).bind fun d S2 => appD o d S2 else .bad
def popD (o : D) (S : Store) : R D := match o with
  | .loc n => match S[n]? with
    | some (.lst xs) => match xs[xs.length - 1]? with
      | some d => .ok d (S.set n (.lst xs.dropLast))
      | none => .bad
    | _ => .bad
  | _ => .bad
def mPop (mo : EM) : EM := fun r S => (mo r S).bind fun o S1 => popD o S1
def putD (o i d : D) (r : Env) (S : Store) : Z := match o, i with
  | .loc n, .int k => match S[n]? with
    | some (.lst xs) => match ixN xs.length k with
      | some j => .ok .next r (S.set n (.lst (xs.set j d)))
      | none => .bad
    | _ => .bad
  | _, _ => .bad
/-- xs[i] = v -/
def sSetIx (mo mi m : EM) : SM := fun r S => bindS (m r S) r fun d S1 => bindS (mo r S1) r fun o S2 => bindS (mi r S2) r fun i S3 => putD o i d r S3
def ipD (f : Int → Int → Int) (x y : D) : Option D := match x, y with
  | .int a, .int b => some (.int (f a b))
  | _, _ => none
def getL (o i : D) (S : Store) : Option D := match o, i with
  | .loc n, .int k => match S[n]? with
    | some (.lst xs) => if 0 ≤ k then xs[k.toNat]? else none
    | _ => none
  | _, _ => none
/-- xs[i] += e, whole numbers -/
def sAugIx (f : Int → Int → Int) (mo mi m : EM) : SM := fun r S => bindS (mo r S) r fun o S1 => bindS (mi r S1) r fun i S2 => bindS (ofO (getL o i S2) S2) r fun x S3 => bindS (m r S3) r fun y S4 => bindS (ofO (ipD f x y) S4) r fun z S5 => putD o i z r S5
section
variable {X : Cx} {Wx : WX} {o e i : Expr} {mo mi m : EM} {pos apos tpos : Pos} {K : PySem.W.Frag} {mg : Str → Option Value}
theorem loc_of {T : Tb} {S : Store} {H : Hp} {v : V} {n : Nat} {o : O} (sim : Sim K mg T S H) (h : Rep K T H v (.loc n)) (e : S[n]? = some o) : ∃ a, v = .ref a ∧ T.loc[n]? = some a ∧ ORep K mg T H a o := by
  cases h with
  | loc hn => exact ⟨_, rfl, hn, sim.obj _ _ _ hn e⟩
theorem lst_set {T : Tb} {S : Store} {H : Hp} {a : Addr} {n : Nat} {xs : List V} {ds : List D} (sim : Sim K mg T S H) (hn : T.loc[n]? = some a) (hz : xs.length ≤ sizeLine) (r : RepL K T H xs ds) :
    Step T H T (upd H a (.lst xs)) ∧ Sim K mg T (S.set n (.lst ds)) (upd H a (.lst xs)) := by
  have st := sim.stepSet (u := .lst xs) (List.mem_of_getElem? hn)
  exact ⟨st, sim.set hn (hlen_lst sim.hl hz) ⟨xs, upd_same, r.step st⟩⟩
theorem isLoc_ty {T : Tb} {S : Store} {H : Hp} {v : V} {d : D} (sim : Sim K mg T S H) (h : Rep K T H v d) (e : isLoc d S = true) : tyV K "list" v H := by
  unfold isLoc at e
  split at e
  · rename_i n
    split at e
    · rename_i xs q
      obtain ⟨a, rfl, hn, ys, q1, q2⟩ := loc_of sim h q
      exact .inl ⟨rfl, ys, SqL.of q1⟩
    · cases e
  · cases e
theorem j_append (ho : PE X o (tD X.K X.mg Wx mo)) (ha : PE X e (tD X.K X.mg Wx m)) (hbase : attributeBase o "append" X.env (eval o X.env) = eval o X.env := by rfl)
    (hfew : ((backTo pos (starEach [e] X.env)).all (fun x => !x.1) && (backToKw pos (keywordEach [] X.env)).all (fun x => x.1.isSome) && decide (([e] : List Expr).length + ([] : List Keyword).length + (if ([] : List Keyword).isEmpty then 0 else 1) < 30)) = true := by rfl)
    (hline : (apos.endLine == pos.line) = true := by rfl) (hs : starEach [e] X.env = (false, eval e X.env) :: starEach [] X.env := by rfl) (hplain : (backTo pos (starEach [] X.env)).any (·.1) = false := by rfl) :
    PE X (.Call (.Attribute o "append" apos) [e] [] pos) (tD X.K X.mg Wx (mAppend mo m)) :=
  pe_imp (pe_bm PySem.F.plainAttrs_list PySem.F.slot_list_append PySem.F.type_list_append mt_append ho (pa_cons ha pa_nil hs) hbase hfew hline hs hplain) fun g H Q h => by
    obtain ⟨T, r, S, rs, sim, h⟩ := h
    refine ⟨T, r, S, rs, sim, Out.bind h fun d S1 T1 H1 v st sim1 rel h1 => ?_⟩
    split at h1
    · rename_i hl
      refine ⟨isLoc_ty sim1 rel hl, T1, r, S1, rs.step st, sim1, Out.bind h1 fun y S2 T2 H2 w st2 sim2 rel2 h2 => ?_⟩
      unfold appD at h2
      split at h2
      · rename_i n
        split at h2
        · rename_i xs q
          split at h2
          · rename_i hz
            obtain ⟨a, rfl, hn, ys, q1, q2⟩ := loc_of sim2 (rel.step st2) q
            have hl' : ys.length < sizeLine := by rw [q2.length]; exact Nat.lt_of_lt_of_le hz (by decide)
            obtain ⟨st3, sim3⟩ := lst_set (xs := ys ++ [w]) (ds := xs ++ [y]) sim2 hn (by rw [List.length_append, List.length_singleton]; omega) (RepL.append q2 (.cons rel2 .nil))
            exact ⟨a, ys, w, rfl, rfl, q1, hl', h2 T2 _ _ st3 sim3 .non⟩
          · exact h2.elim
        · exact h2.elim
      · exact h2.elim
    · exact h1.elim
theorem RepL.dropLast {T : Tb} {H : Hp} {vs : List V} {ds : List D} (h : RepL K T H vs ds) : RepL K T H vs.dropLast ds.dropLast := by
  rw [List.dropLast_eq_take, List.dropLast_eq_take, h.length]
  exact h.take _
theorem j_pop (ho : PE X o (tD X.K X.mg Wx mo)) (hbase : attributeBase o "pop" X.env (eval o X.env) = eval o X.env := by rfl) (hline : (apos.endLine == pos.line) = true := by rfl) :
    PE X (.Call (.Attribute o "pop" apos) [] [] pos) (tD X.K X.mg Wx (mPop mo)) :=
  pe_imp (pe_bm0 PySem.F.plainAttrs_list PySem.F.slot_list_pop PySem.F.type_list_pop mt_pop ho hbase hline) fun g H Q h => by
    obtain ⟨T, r, S, rs, sim, h⟩ := h
    refine ⟨T, r, S, rs, sim, Out.bind h fun d S1 T1 H1 v st sim1 rel h1 => ?_⟩
    unfold popD at h1
    split at h1
    · rename_i n
      split at h1
      · rename_i xs q
        split at h1
        · rename_i y ey
          obtain ⟨a, rfl, hn, ys, q1, q2⟩ := loc_of sim1 rel q
          obtain ⟨w, e1, e2⟩ := q2.get ey
          have hz : ys.dropLast.length ≤ sizeLine := by
            have := sim1.hl a ys (.inl (.inl q1))
            rw [List.length_dropLast]
            omega
          obtain ⟨st3, sim3⟩ := lst_set sim1 hn hz q2.dropLast
          exact ⟨.inl ⟨rfl, ys, SqL.of q1⟩, a, ys, w, rfl, rfl, q1, by rw [q2.length]; exact e1, h1 T1 _ _ st3 sim3 (e2.step st3)⟩
        · exact h1.elim
      · exact h1.elim
    · exact h1.elim
theorem putD_ok {T : Tb} {S : Store} {H : Hp} {r : Env} {E : Ends} {g : St} {ov iv v : V} {o i d : D} (sim : Sim K mg T S H) (rs : RepSt K T H r g) (h1 : Rep K T H ov o) (h2 : Rep K T H iv i) (h3 : Rep K T H v d) (h : ZOut K mg Wx T H (putD o i d r S) E) :
    rSetL ov iv v H fun H4 => E.nx g H4 := by
  unfold putD at h
  split at h
  · rename_i n k
    split at h
    · rename_i xs q
      split at h
      · rename_i j ej
        obtain ⟨a, rfl, hn, ys, q1, q2⟩ := loc_of sim h1 q
        obtain ⟨st3, sim3⟩ := lst_set sim hn (by rw [List.length_set]; exact sim.hl a ys (.inl (.inl q1))) (q2.set h3 j)
        exact ⟨a, ys, k, j, rfl, h2.int_of, q1, by rw [q2.length]; exact ej, h T _ g st3 sim3 (rs.step st3)⟩
      · exact h.elim
    · exact h.elim
  · exact h.elim
theorem js_setIx {hv : Expr} {mv : EM} (he : PE X hv (tD X.K X.mg Wx mv)) (ho : PE X o (tD X.K X.mg Wx mo)) (hi : PE X i (tD X.K X.mg Wx mi))
    (ha : ∀ v, assign (.Subscript o i tpos) X.env v = (do
      let ov ← holding [v] (eval o X.env)
      let iv ← holding [v, ov] (eval i X.env)
      standAt tpos
      holding [v, ov, iv] (setItem ov iv v)
      release [v, ov, iv] []) := by intro _; rfl)
    (hs : swapsWithSole [.Subscript o i tpos] hv pos.line X.env = pure false := by rfl) (hw : swappedStores [.Subscript o i tpos] hv X.env = pure none := by rfl)
    (h1 : (assignEach [.Subscript o i tpos] X.env).map (·.2) = [assign (.Subscript o i tpos) X.env] := by rfl) : PS X (.Assign [.Subscript o i tpos] hv pos) (tDS X.K X.mg Wx (sSetIx mo mi mv)) :=
  ps_imp (ps_asg he (pg_sub ho hi set_list ha) hs hw h1) fun E g H h => by
    obtain ⟨T, r, S, rs, sim, h⟩ := h
    refine ⟨T, r, S, rs, sim, ZOut.bind h rs fun d S1 T1 H1 v st sim1 rel rs1 h1 => ?_⟩
    refine ⟨T1, r, S1, rs1, sim1, ZOut.bind h1 rs1 fun ov S2 T2 H2 x st2 sim2 rel2 rs2 h2 => ?_⟩
    refine ⟨T2, r, S2, rs2, sim2, ZOut.bind h2 rs2 fun iv S3 T3 H3 y st3 sim3 rel3 rs3 h3 => ?_⟩
    exact putD_ok sim3 rs3 (rel2.step st3) rel3 (rel.step (st2.trans st3)) h3
def rGetL (K : PySem.W.Frag) : V → V → Hp → VK → Prop := fun x y H Q => ∃ p xs k v, x = .ref p ∧ y = .int k ∧ SqL K H p xs ∧ 0 ≤ k ∧ xs[k.toNat]? = some v ∧ Q v H
theorem get_lst : PGet X (rGetL X.K) := fun pins s g H o i ov iv Q I r1 r2 h => by
  obtain ⟨p, xs, k, v, rfl, rfl, hq, h0, hx, q⟩ := h
  cases r1
  obtain ⟨t, rfl⟩ := r2
  obtain ⟨its, rv, pl, hz⟩ := I.list hq
  obtain ⟨u, e1, e2⟩ := rv.get hx
  have hk := (List.getElem?_eq_some_iff.mp hx).1
  have hl := line63
  exact wpAny_getItem_list pl.isList h0 (by omega) (by simpa using e1) ⟨v, H, I, e2, q⟩
theorem js_augIx {op : Operator} {f : Int → Int → Int} (hp : PIp X op (ipI f)) (ho : PE X o (tD X.K X.mg Wx mo)) (hi : PE X i (tD X.K X.mg Wx mi)) (he : PE X e (tD X.K X.mg Wx m))
    (ha : ∀ ov iv new, augStore i ov iv new = (do holding [new, ov, iv] (setItem ov iv new); release [new, ov, iv] []; pure .next) := by intros; rfl) :
    PS X (.AugAssign (.Subscript o i tpos) op e pos) (tDS X.K X.mg Wx (sAugIx f mo mi m)) :=
  ps_imp (ps_augS ho hi get_lst he hp set_list ha) fun E g H h => by
    obtain ⟨T, r, S, rs, sim, h⟩ := h
    refine ⟨T, r, S, rs, sim, ZOut.bind h rs fun ov S1 T1 H1 x st sim1 rel rs1 h1 => ?_⟩
    refine ⟨T1, r, S1, rs1, sim1, ZOut.bind h1 rs1 fun iv S2 T2 H2 y st2 sim2 rel2 rs2 h2 => ?_⟩
    have h2' := ZOut.bind (rel := Rep X.K) h2 rs2 (Q := fun z H3 => tD X.K X.mg Wx m g H3 fun w H4 => ipI f z w H4 fun u H5 => rSetL x y u H5 fun H6 => E.nx g H6) fun xd S3 T3 H3 z st3 sim3 rel3 rs3 h3 => by
      refine ⟨T3, r, S3, rs3, sim3, ZOut.bind h3 rs3 fun yd S4 T4 H4 w st4 sim4 rel4 rs4 h4 => ?_⟩
      have h4' := ZOut.bind (rel := Rep X.K) h4 rs4 (Q := fun u H5 => rSetL x y u H5 fun H6 => E.nx g H6) fun zd S5 T5 H5 u st5 sim5 rel5 rs5 h5 =>
        putD_ok sim5 rs5 (rel.step (((st2.trans st3).trans st4).trans st5)) (rel2.step ((st3.trans st4).trans st5)) rel5 h5
      refine Out.use h4' fun d ed kd => ?_
      cases xd <;> cases yd <;> cases ed
      rw [(rel3.step st4).int_of, rel4.int_of]
      exact ⟨_, _, rfl, rfl, kd T4 H4 _ (Step.refl T4 H4) sim4 (.int _)⟩
    refine Out.use h2' fun d ed kd => ?_
    unfold getL at ed
    split at ed
    · rename_i n k
      split at ed
      · rename_i xs q
        split at ed
        · rename_i h0
          obtain ⟨a, rfl, hn, ys, q1, q2⟩ := loc_of sim2 (rel.step st2) q
          obtain ⟨w, e1, e2⟩ := q2.get ed
          exact ⟨a, ys, k, w, rfl, rel2.int_of, SqL.of q1, h0, e1, kd T2 H2 w (Step.refl T2 H2) sim2 e2⟩
        · cases ed
      · cases ed
    · cases ed
end
end Dv
namespace Dv
open PySem L2
/-! ### own classes -/
def fldD (c f : Str) (d : D) (S : Store) : Option D := match d with
  | .loc n => match S[n]? with
    | some (.ins c' fs) => if c' = c then fs.lookup f else none
    | _ => none
  | _ => none
def mFld (c f : Str) (m : EM) : EM := mUn (fldD c f) m
def putFD (f : Str) (v : D) : List (Str × D) → List (Str × D)
  | [] => [(f, v)]
  | (g, w) :: r => if g = f then (g, v) :: r else (g, w) :: putFD f v r
def setFD (c f : Str) (o v : D) (r : Env) (S : Store) : Z := match o with
  | .loc n => match S[n]? with
    | some (.ins c' fs) => if c' = c ∧ fs.length < 900 then .ok .next r (S.set n (.ins c' (putFD f v fs))) else .bad
    | _ => .bad
  | _ => .bad
def sFldD (c f : Str) (mo m : EM) : SM := fun r S => bindS (m r S) r fun v S1 => bindS (mo r S1) r fun o S2 => setFD c f o v r S2
/-- o.f += e, whole numbers -/
def sFldAugD (c f : Str) (h : Int → Int → Int) (mo m : EM) : SM := fun r S => bindS (mo r S) r fun o S1 => bindS (ofO (fldD c f o S1) S1) r fun x S2 => bindS (m r S2) r fun y S3 => bindS (ofO (ipD h x y) S3) r fun z S4 => setFD c f o z r S4
section
variable {K : PySem.W.Frag} {mg : Str → Option Value} {T : Tb} {H : Hp}
theorem lookup_rep {f : Str} {d : D} : ∀ {fvs : List (Str × V)} {fs : List (Str × D)}, fvs.map (·.1) = fs.map (·.1) → RepL K T H (fvs.map (·.2)) (fs.map (·.2)) → fs.lookup f = some d → ∃ v, fvs.lookup f = some v ∧ Rep K T H v d
  | [], [], _, _, e => by cases e
  | [], _ :: _, q, _, _ => by cases q
  | _ :: _, [], q, _, _ => by cases q
  | (g, w) :: fvs, (g', d') :: fs, q, r, e => by
    injection q with q1 q2
    have q1 : g = g' := q1
    subst q1
    cases r with
    | cons r1 r2 =>
      rw [List.lookup_cons] at e ⊢
      cases hb : (f == g) with
      | true =>
        rw [hb] at e
        cases e
        exact ⟨w, rfl, r1⟩
      | false =>
        rw [hb] at e
        exact lookup_rep q2 r2 e
theorem lookup_none {f : Str} : ∀ {fvs : List (Str × V)} {fs : List (Str × D)}, fvs.map (·.1) = fs.map (·.1) → fs.lookup f = none → fvs.lookup f = none
  | [], _, _, _ => rfl
  | _ :: _, [], q, _ => by cases q
  | (g, w) :: fvs, (g', d') :: fs, q, e => by
    injection q with q1 q2
    have q1 : g = g' := q1
    subst q1
    rw [List.lookup_cons] at e ⊢
    cases hb : (f == g) with
    | true => rw [hb] at e; cases e
    | false =>
      rw [hb] at e
      exact lookup_none q2 e
theorem putF_rep {f : Str} {v : V} {d : D} (hv : Rep K T H v d) : ∀ {fvs : List (Str × V)} {fs : List (Str × D)}, fvs.map (·.1) = fs.map (·.1) → RepL K T H (fvs.map (·.2)) (fs.map (·.2)) →
    (putF f v fvs).map (·.1) = (putFD f d fs).map (·.1) ∧ RepL K T H ((putF f v fvs).map (·.2)) ((putFD f d fs).map (·.2))
  | [], [], _, _ => ⟨rfl, .cons hv .nil⟩
  | [], _ :: _, q, _ => by cases q
  | _ :: _, [], q, _ => by cases q
  | (g, w) :: fvs, (g', d') :: fs, q, r => by
    injection q with q1 q2
    have q1 : g = g' := q1
    subst q1
    cases r with
    | cons r1 r2 =>
      obtain ⟨h1, h2⟩ := putF_rep hv q2 r2
      show ((if g = f then (g, v) :: fvs else (g, w) :: putF f v fvs).map (·.1)) = ((if g = f then (g, d) :: fs else (g, d') :: putFD f d fs).map (·.1)) ∧ RepL K T H ((if g = f then (g, v) :: fvs else (g, w) :: putF f v fvs).map (·.2)) ((if g = f then (g, d) :: fs else (g, d') :: putFD f d fs).map (·.2))
      by_cases hg : g = f
      · rw [if_pos hg, if_pos hg]
        exact ⟨by rw [List.map_cons, List.map_cons, q2], .cons hv r2⟩
      · rw [if_neg hg, if_neg hg]
        exact ⟨by rw [List.map_cons, List.map_cons, h1], .cons r1 h2⟩
end
/-- what is known of a class: it stands at C, plain; its attributes are none of the class's own -/
structure ClsOk (K : PySem.W.Frag) (mg : Str → Option Value) (c : Str) (C : Addr) : Prop where
  at_ : mg c = some (.ref C)
  cls : Cls K C
section
variable {X : Cx} {Wx : WX} {o e : Expr} {c f : Str} {C : Addr} {mo m : EM} {pos pos' tpos : Pos}
theorem ins_of {K : PySem.W.Frag} {mg : Str → Option Value} {T : Tb} {S : Store} {H : Hp} {v : V} {n : Nat} {fs : List (Str × D)} (k : ClsOk K mg c C) (sim : Sim K mg T S H) (h : Rep K T H v (.loc n)) (e : S[n]? = some (.ins c fs)) :
    ∃ a dx fvs, v = .ref a ∧ T.loc[n]? = some a ∧ H a = some (.ins C dx fvs) ∧ fvs.map (·.1) = fs.map (·.1) ∧ RepL K T H (fvs.map (·.2)) (fs.map (·.2)) := by
  obtain ⟨a, rfl, hn, C', dx, fvs, h1, h2, h3, h4⟩ := loc_of sim h e
  rw [k.at_] at h1
  cases h1
  exact ⟨a, dx, fvs, rfl, hn, h2, h3, h4⟩
theorem j_fld (k : ClsOk X.K X.mg c C) (hn : NoAttr X.K C f) (he : PE X o (tD X.K X.mg Wx mo)) (hb : attributeBase o f X.env (eval o X.env) = eval o X.env := by rfl) : PE X (.Attribute o f pos) (tD X.K X.mg Wx (mFld c f mo)) :=
  pe_imp (pe_fld he hb) fun g H Q h => by
    obtain ⟨T, r, S, rs, sim, h⟩ := h
    refine ⟨T, r, S, rs, sim, Out.bind h fun d S1 T1 H1 v st sim1 rel h1 => ?_⟩
    refine Out.use h1 fun d' ed kd => ?_
    unfold fldD at ed
    split at ed
    · rename_i n
      split at ed
      · rename_i c' fs q
        split at ed
        · rename_i hc
          subst hc
          obtain ⟨a, dx, fvs, rfl, hn', h2, h3, h4⟩ := ins_of k sim1 rel q
          obtain ⟨w, e1, e2⟩ := lookup_rep h3 h4 ed
          exact ⟨a, C, dx, fvs, w, rfl, h2, k.cls, hn, e1, kd T1 H1 w (Step.refl T1 H1) sim1 e2⟩
        · cases ed
      · cases ed
    · cases ed
theorem setFD_ok {K : PySem.W.Frag} {mg : Str → Option Value} {T : Tb} {S : Store} {H : Hp} {r : Env} {E : Ends} {g : St} {ov v : V} {o d : D} (k : ClsOk K mg c C) (sim : Sim K mg T S H) (rs : RepSt K T H r g) (h1 : Rep K T H ov o) (h3 : Rep K T H v d) (h : ZOut K mg Wx T H (setFD c f o d r S) E) :
    ∃ a dx fvs, ov = .ref a ∧ H a = some (.ins C dx fvs) ∧ fvs.length < 1000 ∧ E.nx g (upd H a (.ins C dx (putF f v fvs))) := by
  unfold setFD at h
  split at h
  · rename_i n
    split at h
    · rename_i c' fs q
      split at h
      · rename_i hc
        obtain ⟨hc, hlen⟩ := hc
        subst hc
        obtain ⟨a, dx, fvs, rfl, hn, h2, h4, h5⟩ := ins_of k sim h1 q
        have hl : fvs.length = fs.length := by
          have := congrArg List.length h4
          rw [List.length_map, List.length_map] at this
          exact this
        have st := sim.stepSet (u := .ins C dx (putF f v fvs)) (List.mem_of_getElem? hn)
        obtain ⟨p1, p2⟩ := putF_rep (h3.step st) h4 (h5.step st)
        have sim' := sim.set (u := .ins C dx (putF f v fvs)) (o := .ins c' (putFD f d fs)) hn (hlen_oth sim.hl fun xs => ⟨nofun, nofun, fun _ => nofun, fun _ => nofun⟩) ⟨C, dx, _, k.at_, upd_same, p1, p2⟩
        exact ⟨a, dx, fvs, rfl, h2, by omega, h T _ g st sim' (rs.step st)⟩
      · exact h.elim
    · exact h.elim
  · exact h.elim
theorem js_fld (k : ClsOk X.K X.mg c C) (hn : NoAttr X.K C f) (ho : PE X o (tD X.K X.mg Wx mo)) (he : PE X e (tD X.K X.mg Wx m)) (hs : swapsWith e (some (.Attribute o f pos')) pos.line X.env = pure false := by rfl) :
    PS X (.Assign [.Attribute o f pos'] e pos) (tDS X.K X.mg Wx (sFldD c f mo m)) :=
  ps_imp (ps_fld ho he hs) fun E g H h => by
    obtain ⟨T, r, S, rs, sim, h⟩ := h
    refine ⟨T, r, S, rs, sim, ZOut.bind h rs fun d S1 T1 H1 v st sim1 rel rs1 h1 => ?_⟩
    refine ⟨T1, r, S1, rs1, sim1, ZOut.bind h1 rs1 fun od S2 T2 H2 x st2 sim2 rel2 rs2 h2 => ?_⟩
    obtain ⟨a, dx, fvs, e1, e2, e3, e4⟩ := setFD_ok k sim2 rs2 rel2 (rel.step st2) h2
    exact ⟨a, C, dx, fvs, e1, e2, k.cls, hn, e3, e4⟩
theorem js_fldAug {op : Operator} {hf : Int → Int → Int} (k : ClsOk X.K X.mg c C) (hn : NoAttr X.K C f) (hop : InOp X op fun x y H Q => ∃ i j, x = .int i ∧ y = .int j ∧ Q (.int (hf i j)) H) (ho : PE X o (tD X.K X.mg Wx mo)) (he : PE X e (tD X.K X.mg Wx m)) :
    PS X (.AugAssign (.Attribute o f tpos) op e pos) (tDS X.K X.mg Wx (sFldAugD c f hf mo m)) :=
  ps_imp (ps_fldaug ho he hop) fun E g H h => by
    obtain ⟨T, r, S, rs, sim, h⟩ := h
    refine ⟨T, r, S, rs, sim, ZOut.bind h rs fun od S1 T1 H1 x st sim1 rel rs1 h1 => ?_⟩
    have h1' := ZOut.bind (rel := Rep X.K) h1 rs1 (Q := fun z H2 => tD X.K X.mg Wx m g H2 fun w H3 => ∃ i j, z = .int i ∧ w = .int j ∧ ∃ a dx fvs, x = .ref a ∧ H3 a = some (.ins C dx fvs) ∧ fvs.length < 1000 ∧ E.nx g (upd H3 a (.ins C dx (putF f (.int (hf i j)) fvs)))) fun xd S2 T2 H2 z st2 sim2 rel2 rs2 h2 => by
      refine ⟨T2, r, S2, rs2, sim2, ZOut.bind h2 rs2 fun yd S3 T3 H3 w st3 sim3 rel3 rs3 h3 => ?_⟩
      cases xd with
      | int i =>
        cases yd with
        | int j =>
          rw [rel2.int_of, rel3.int_of]
          exact ⟨i, j, rfl, rfl, setFD_ok k sim3 rs3 (rel.step (st2.trans st3)) (.int _) h3⟩
        | _ => exact h3.elim
      | _ => cases yd <;> exact h3.elim
    refine Out.use h1' fun d' ed kd => ?_
    unfold fldD at ed
    split at ed
    · rename_i n
      split at ed
      · rename_i c' fs q
        split at ed
        · rename_i hc
          subst hc
          obtain ⟨a, dx, fvs, rfl, hn', h2, h3, h4⟩ := ins_of k sim1 rel q
          obtain ⟨w, e1, e2⟩ := lookup_rep h3 h4 ed
          obtain ⟨T5, r5, S5, q1, q2, q3⟩ := kd T1 H1 w (Step.refl T1 H1) sim1 e2
          refine ⟨a, C, dx, fvs, w, rfl, h2, k.cls, hn, e1, T5, r5, S5, q1, q2, ?_⟩
          revert q3
          cases m r5 S5 with
          | bad => exact fun h => h
          | exc n S => exact fun h => h
          | ok y S =>
            intro h T6 H6 v6 s6 m6 p6
            obtain ⟨i, j, e3, e4, a', dx', fvs', e5, e6, e7, e8⟩ := h T6 H6 v6 s6 m6 p6
            cases e5
            exact ⟨i, j, e3, e4, dx', fvs', e6, e7, e8⟩
        · cases ed
      · cases ed
    · cases ed
end
/-! ### methods -/
def isIns (c mth : Str) (o : D) (S : Store) : Bool := match o with
  | .loc n => match S[n]? with
    | some (.ins c' fs) => decide (c' = c) && (fs.lookup mth).isNone
    | _ => false
  | _ => false
def mMeth (c mth : Str) (n : Nat) (F : List D → Store → R D) (mo : EM) (ms : AM) : EM := fun r S => (mo r S).bind fun o S1 => if isIns c mth o S1 = true then (ms r S1).bind fun ds S2 => if (o :: ds).length = n then F (o :: ds) S2 else .bad else .bad
section
variable {X : Cx} {Wx : WX} {o e : Expr} {es : List Expr} {c mth : Str} {C f : Addr} {mo : EM} {ms : AM} {pos apos p : Pos} {k n : Nat} {fd : FuncData} {ps : List Str} {Fn : List D → Store → R D} {x : Str}
theorem isIns_ok {K : PySem.W.Frag} {mg : Str → Option Value} {T : Tb} {S : Store} {H : Hp} {v : V} {d : D} (kc : ClsOk K mg c C) (sim : Sim K mg T S H) (h : Rep K T H v d) (e : isIns c mth d S = true) : ∃ a dx fvs, v = .ref a ∧ H a = some (.ins C dx fvs) ∧ fvs.lookup mth = none := by
  unfold isIns at e
  split at e
  · rename_i n
    split at e
    · rename_i c' fs q
      rw [Bool.and_eq_true] at e
      have hc := of_decide_eq_true e.1
      subst hc
      obtain ⟨a, dx, fvs, rfl, hn', h2, h3, h4⟩ := ins_of kc sim h q
      exact ⟨a, dx, fvs, rfl, h2, lookup_none h3 (Option.isNone_iff_eq_none.mp e.2)⟩
    · cases e
  · cases e
theorem out_sp {K : PySem.W.Frag} {mg : Str → Option Value} {T : Tb} {g : St} {H : Hp} {x : R D} {Q : VK} (h : Out K mg Wx (Rep K) T g H x Q) : Out K mg (fun c d _ H => WE Wx g c d H) (Rep K) T [] H x Q := by
  cases x with
  | bad => exact h
  | exc n S => exact h
  | ok d S => exact h
theorem j_meth {pl : Sem Bool} (kc : ClsOk X.K X.mg c C) (hm : Meth X.K C mth f) (F : FnOk X.prog X.w X.K X.mg X.base (L2.CX X.prog X.w) k f fd ps (spD X.K X.mg n Fn)) (hr : Room k X.A) (hb : Binds X.K fd ps []) (tk : Takes X Wx)
    (ho : PE X o (tD X.K X.mg Wx mo)) (ha : PA X (e :: es) (tDA X.K X.mg Wx ms))
    (hst : starEach (e :: es) X.env = (false, eval e X.env) :: starEach es X.env := by rfl) (hpl : (backTo pos (starEach es X.env)).any (·.1) = false := by rfl)
    (ht : eval (.Call (.Attribute o mth apos) (e :: es) [] pos) X.env = (do
      let ov ← eval o X.env
      standAt apos.atName
      let (f, first) ← holding [ov] (getMethod ov mth pl)
      callWith pos f first (backTo pos (starEach (e :: es) X.env)) (backToKw pos (keywordEach [] X.env))) := by rfl) :
    PE X (.Call (.Attribute o mth apos) (e :: es) [] pos) (tD X.K X.mg Wx (mMeth c mth n Fn mo ms)) := by
  refine ⟨fun pins s g H Q I h => PySem.W.methodCall_KW (pl := pl) ?_ ht⟩
  obtain ⟨T, r, S, rs, sim, h⟩ := h
  refine thn (ho.run pins s g H (fun v H1 => ∃ a dx fvs, v = .ref a ∧ H1 a = some (.ins C dx fvs) ∧ fvs.lookup mth = none ∧ tDA X.K X.mg Wx ms g H1 fun vs H2 => spD X.K X.mg n Fn (v :: vs) H2 Q (WE Wx g)) I ⟨T, r, S, rs, sim, Out.bind h fun d S1 T1 H1 v st sim1 rel h1 => ?_⟩) fun u s1 hu => ?_
  · split at h1
    · rename_i hi
      obtain ⟨a, dx, fvs, rfl, e2, e3⟩ := isIns_ok kc sim1 rel hi
      refine ⟨a, dx, fvs, rfl, e2, e3, T1, r, S1, rs.step st, sim1, Out.bind h1 fun ds S2 T2 H2 vs st2 sim2 rel2 h2 => ?_⟩
      split at h2
      · rename_i hn
        exact ⟨by rw [List.length_cons, rel2.length]; exact hn, T2, S2, d :: ds, .cons (rel.step st2) rel2, sim2, out_sp h2⟩
      · exact h2.elim
    · exact h1.elim
  · obtain ⟨v, H1, I1, rv, a, dx, fvs, ev, ea, el, q⟩ := hu
    subst ev
    obtain rfl : u = Value.ref a := rv
    refine getmeth_ok I1 ea kc.cls hm el ?_
    refine PySem.W.callWith_K (first := [.ref a]) (h₀ := X.base) I.ok.mod.kin hm.kp (thn (ha.run pos pins s1 g H1 _ I1 q) fun us s2 hq => ?_) hst hpl
    obtain ⟨vs, H2, I2, rr, q2⟩ := hq
    exact ⟨I2.kIn, run_fnSD (us := .ref a :: us) (vs := .ref a :: vs) (E := WE Wx) (dvs := []) F hr hb .nil (passAt tk g) I2 (.cons rfl rr) (by rw [List.append_nil]; exact q2)⟩
theorem j_meth0 {pl : Sem Bool} (kc : ClsOk X.K X.mg c C) (hm : Meth X.K C mth f) (F : FnOk X.prog X.w X.K X.mg X.base (L2.CX X.prog X.w) k f fd ps (spD X.K X.mg n Fn)) (hr : Room k X.A) (hb : Binds X.K fd ps []) (tk : Takes X Wx)
    (ho : PE X o (tD X.K X.mg Wx mo))
    (ht : eval (.Call (.Attribute o mth apos) [] [] pos) X.env = (do
      let ov ← eval o X.env
      standAt apos.atName
      let (f, first) ← holding [ov] (getMethod ov mth pl)
      callWith pos f first (backTo pos (starEach [] X.env)) (backToKw pos (keywordEach [] X.env))) := by rfl) :
    PE X (.Call (.Attribute o mth apos) [] [] pos) (tD X.K X.mg Wx (mMeth c mth n Fn mo mNil)) := by
  refine ⟨fun pins s g H Q I h => PySem.W.methodCall_KW (pl := pl) ?_ ht⟩
  obtain ⟨T, r, S, rs, sim, h⟩ := h
  refine thn (ho.run pins s g H (fun v H1 => ∃ a dx fvs, v = .ref a ∧ H1 a = some (.ins C dx fvs) ∧ fvs.lookup mth = none ∧ spD X.K X.mg n Fn [v] H1 Q (WE Wx g)) I ⟨T, r, S, rs, sim, Out.bind h fun d S1 T1 H1 v st sim1 rel h1 => ?_⟩) fun u s1 hu => ?_
  · split at h1
    · rename_i hi
      obtain ⟨a, dx, fvs, rfl, e2, e3⟩ := isIns_ok kc sim1 rel hi
      have h1 : Out X.K X.mg Wx (Rep X.K) T1 g H1 (if [d].length = n then Fn [d] S1 else .bad) Q := h1
      split at h1
      · rename_i hn
        exact ⟨a, dx, fvs, rfl, e2, e3, hn, T1, S1, [d], .cons rel .nil, sim1, out_sp h1⟩
      · exact h1.elim
    · exact h1.elim
  · obtain ⟨v, H1, I1, rv, a, dx, fvs, ev, ea, el, q⟩ := hu
    subst ev
    obtain rfl : u = Value.ref a := rv
    refine getmeth_ok I1 ea kc.cls hm el ?_
    exact PySem.W.callWith_K0 (first := [.ref a]) I1.kIn hm.kp (run_fnSD (us := [.ref a]) (vs := [.ref a]) (E := WE Wx) (dvs := []) F hr hb .nil (passAt tk g) I1 (.cons rfl .nil) q)
/-! ### making an instance -/
def mMake (c : Str) (n : Nat) (F : List D → Store → R D) (ms : AM) : EM := fun r S => (ms r S).bind fun ds S1 => if (ds.length + 1) = n then (nox (F (.loc S1.length :: ds) (S1 ++ [.ins c []]))).bind fun d S2 => match d with
  | .non => .ok (.loc S1.length) S2
  | _ => .bad else .bad
theorem make_ok {K : PySem.W.Frag} {mg : Str → Option Value} {T : Tb} {S : Store} {H : Hp} {g : St} {ds : List D} {vs : List V} {Q : VK} (kc : ClsOk K mg c C) (sim : Sim K mg T S H) (rel : RepL K T H vs ds) (hn : ds.length + 1 = n)
    (h : Out K mg Wx (Rep K) T g H ((nox (Fn (.loc S.length :: ds) (S ++ [.ins c []]))).bind fun d S2 => match d with
      | .non => .ok (.loc S.length) S2
      | _ => .bad) Q) : ∀ x dx, H x = none → H dx = none → dx ≠ x → spD K mg n Fn (.ref x :: vs) (upd (upd H dx (.own x)) x (.ins C dx [])) (fun v H2 => v = .non ∧ Q (.ref x) H2) E0 := by
  intro x dx hx hdx ne
  have nl : ∀ (a : Addr) (o : HO), (∀ xs, o ≠ .lst xs ∧ o ≠ .tup xs ∧ (∀ y, o ≠ .frz y (.lst xs)) ∧ ∀ y, o ≠ .frz y (.tup xs)) → ∀ {H : Hp}, HLen H → HLen (upd H a o) := fun a o ho H hh => hlen_oth hh ho
  have st1 := sim.stepNew (o := .own x) hdx
  have sim1 := sim.new (o := .own x) hdx (nl dx (.own x) (fun xs => ⟨nofun, nofun, fun _ => nofun, fun _ => nofun⟩) sim.hl)
  have hx1 : (upd H dx (.own x)) x = none := by rw [upd_ne ne.symm]; exact hx
  have st2 := sim1.stepAlloc (o := .ins C dx []) hx1
  have sim2 := sim1.alloc (u := .ins C dx []) (o := .ins c []) hx1 (nl x (.ins C dx []) (fun xs => ⟨nofun, nofun, fun _ => nofun, fun _ => nofun⟩) sim1.hl) ⟨C, dx, [], kc.at_, upd_same, rfl, .nil⟩
  refine ⟨by rw [List.length_cons, rel.length]; exact hn, T.add x, S ++ [.ins c []], .loc S.length :: ds, .cons (.loc sim.newGet) ((rel.step st1).step st2), sim2, ?_⟩
  revert h
  cases Fn (.loc S.length :: ds) (S ++ [.ins c []]) with
  | bad => exact fun h => h
  | exc m S2 => exact fun h => h.elim
  | ok d S2 =>
    intro h T' H' v s m rep
    cases d with
    | non => exact ⟨rep.non_of, h T' H' _ ((st1.trans st2).trans s) m (.loc (s.get sim.newGet))⟩
    | _ => exact h.elim
theorem j_make (kc : ClsOk X.K X.mg c C) (M : Mk X.K C f) (F : FnOk X.prog X.w X.K X.mg X.base (L2.CX X.prog X.w) k f fd ps (spD X.K X.mg n Fn)) (hr : Room (k + 1) X.A) (hg : Gl X c) (hb : Binds X.K fd ps [])
    (ha : PA X (e :: es) (tDA X.K X.mg Wx ms)) (hdb : (c == ("__debug__" : Str)) = false := by decide) (he : starEach (e :: es) X.env = (false, eval e X.env) :: starEach es X.env := by rfl) (hpl : (backTo pos (starEach es X.env)).any (·.1) = false := by rfl) :
    PE X (.Call (.Name c p) (e :: es) [] pos) (tD X.K X.mg Wx (mMake c n Fn ms)) :=
  pe_imp (pe_make (E := E0) M F hr hg kc.at_ hb .nil passL ha hdb he hpl) fun g H Q h => by
    obtain ⟨T, r, S, rs, sim, h⟩ := h
    refine ⟨T, r, S, rs, sim, Out.bind h fun ds S1 T1 H1 vs st sim1 rel h1 => ?_⟩
    split at h1
    · rename_i hn
      rw [List.append_nil]
      exact make_ok kc sim1 rel hn h1
    · exact h1.elim
end
end Dv
set_option maxHeartbeats 1000000
namespace Dv
open PySem L2
/-! ### a sort of plain lists -/
section
variable {α : Type}
def insL (lt : α → α → Bool) (x : α) : List α → List α
  | [] => [x]
  | y :: ys => if lt y x = true then y :: insL lt x ys else x :: y :: ys
def sortL (lt : α → α → Bool) : List α → List α
  | [] => []
  | x :: xs => insL lt x (sortL lt xs)
variable {lt : α → α → Bool}
theorem insL_perm (x : α) : ∀ l : List α, (insL lt x l).Perm (x :: l)
  | [] => List.Perm.refl _
  | y :: ys => by
    unfold insL
    split
    · exact ((insL_perm x ys).cons y).trans (List.Perm.swap x y ys)
    · exact List.Perm.refl _
theorem sortL_perm : ∀ l : List α, (sortL lt l).Perm l
  | [] => List.Perm.refl _
  | x :: xs => (insL_perm x _).trans ((sortL_perm xs).cons x)
theorem insL_srtd (O : SrtO.Swo lt) (x : α) : ∀ {l : List α}, SrtO.Srtd lt l → SrtO.Srtd lt (insL lt x l)
  | [], _ => List.pairwise_singleton _ _
  | y :: ys, h => by
    unfold insL
    split
    · rename_i hy
      refine List.pairwise_cons.mpr ⟨fun z hz => ?_, insL_srtd O x (List.pairwise_cons.mp h).2⟩
      rcases List.mem_cons.mp ((insL_perm x ys).mem_iff.mp hz) with e | e
      · rw [e]
        exact O.asym _ _ hy
      · exact (List.pairwise_cons.mp h).1 z e
    · rename_i hy
      refine List.pairwise_cons.mpr ⟨fun z hz => ?_, h⟩
      have hy : lt y x = false := by simpa using hy
      rcases List.mem_cons.mp hz with e | e
      · rw [e]
        exact hy
      · exact O.tr x y z hy ((List.pairwise_cons.mp h).1 z e)
theorem sortL_srtd (O : SrtO.Swo lt) : ∀ l : List α, SrtO.Srtd lt (sortL lt l)
  | [] => List.Pairwise.nil
  | x :: xs => insL_srtd O x (sortL_srtd O xs)
theorem insL_cls (O : SrtO.Swo lt) (x z : α) : ∀ l : List α, (insL lt x l).filter (SrtO.eqv lt z) = (x :: l).filter (SrtO.eqv lt z)
  | [] => rfl
  | y :: ys => by
    unfold insL
    split
    · rename_i hy
      have ih := insL_cls O x z ys
      by_cases hz : SrtO.eqv lt z y = true
      · have hx : SrtO.eqv lt z x = false := by
          by_cases q : SrtO.eqv lt z x = true
          · have h1 := SrtO.eqv_iff.mp hz
            have h2 := SrtO.eqv_iff.mp q
            have : lt y x = false := O.tr x z y h2.1 h1.2
            rw [hy] at this
            cases this
          · simpa using q
        rw [List.filter_cons_of_pos hz, ih, List.filter_cons_of_neg (by rw [hx]; exact Bool.false_ne_true), List.filter_cons_of_neg (by rw [hx]; exact Bool.false_ne_true), List.filter_cons_of_pos hz]
      · rw [List.filter_cons_of_neg hz, ih]
        by_cases hx : SrtO.eqv lt z x = true
        · rw [List.filter_cons_of_pos hx, List.filter_cons_of_pos hx, List.filter_cons_of_neg hz]
        · rw [List.filter_cons_of_neg hx, List.filter_cons_of_neg hx, List.filter_cons_of_neg hz]
    · rfl
theorem sortL_stb (O : SrtO.Swo lt) : ∀ l : List α, SrtO.Stb lt (sortL lt l) l
  | [] => SrtO.Stb.refl _
  | x :: xs => ⟨sortL_perm _, fun z => by
    show (insL lt x (sortL lt xs)).filter (SrtO.eqv lt z) = (x :: xs).filter (SrtO.eqv lt z)
    rw [insL_cls O]
    by_cases hx : SrtO.eqv lt z x = true
    · rw [List.filter_cons_of_pos hx, List.filter_cons_of_pos hx, (sortL_stb O xs).cls z]
    · rw [List.filter_cons_of_neg hx, List.filter_cons_of_neg hx, (sortL_stb O xs).cls z]⟩
theorem sortL_uniq (O : SrtO.Swo lt) {l m : List α} (h1 : SrtO.Srtd lt m) (h2 : SrtO.Stb lt m l) : m = sortL lt l :=
  SrtO.stb_uniq O h1 (sortL_srtd O l) (h2.trans ⟨(sortL_stb O l).perm.symm, fun z => ((sortL_stb O l).cls z).symm⟩)
theorem sortL_len (l : List α) : (sortL lt l).length = l.length := (sortL_perm l).length_eq
end
def ltI (a b : Int) : Bool := decide (a < b)
theorem ltI_swo : SrtO.Swo ltI := ⟨fun x y h => decide_eq_false (by have := of_decide_eq_true h; omega), fun x y z h1 h2 => decide_eq_false (by have := of_decide_eq_false h1; have := of_decide_eq_false h2; omega)⟩
abbrev ltR : List Int → List Int → Bool := HT.lexLt
theorem ltR_asym : ∀ x y : List Int, ltR x y = true → ltR y x = false
  | [], [], h => by cases h
  | [], _ :: _, _ => rfl
  | _ :: _, [], h => by cases h
  | a :: x, b :: y, h => by
    have h : (if a = b then HT.lexLt x y else decide (a < b)) = true := h
    show (if b = a then HT.lexLt y x else decide (b < a)) = false
    by_cases e : a = b
    · subst e
      rw [if_pos rfl] at h ⊢
      exact ltR_asym x y h
    · rw [if_neg e] at h
      rw [if_neg (Ne.symm e)]
      have := of_decide_eq_true h
      exact decide_eq_false (by omega)
theorem ltR_tr : ∀ x y z : List Int, ltR y x = false → ltR z y = false → ltR z x = false
  | [], [], z, _, h => h
  | [], b :: y, [], _, _ => rfl
  | [], b :: y, c :: z, _, _ => rfl
  | a :: x, [], z, h, _ => by cases h
  | a :: x, b :: y, [], _, h => by cases h
  | a :: x, b :: y, c :: z, g1, g2 => by
    have h1 : (if b = a then HT.lexLt y x else decide (b < a)) = false := g1
    have h2 : (if c = b then HT.lexLt z y else decide (c < b)) = false := g2
    clear g1 g2
    show (if c = a then HT.lexLt z x else decide (c < a)) = false
    by_cases e1 : b = a
    · subst e1
      rw [if_pos rfl] at h1
      by_cases e2 : c = b
      · subst e2
        rw [if_pos rfl] at h2 ⊢
        exact ltR_tr x y z h1 h2
      · rw [if_neg e2] at h2 ⊢
        exact h2
    · rw [if_neg e1] at h1
      have h3 := of_decide_eq_false h1
      by_cases e2 : c = b
      · subst e2
        rw [if_neg e1]
        exact h1
      · rw [if_neg e2] at h2
        have h4 := of_decide_eq_false h2
        rw [if_neg (by omega)]
        exact decide_eq_false (by omega)
theorem ltR_swo : SrtO.Swo ltR := ⟨ltR_asym, ltR_tr⟩
/-! ### tuples of whole numbers, sorted -/
section
variable {prog : Program} {w : World} {A : Around} {s : Shared} {Q : Bool → Shared → Prop}
theorem lexI {b fin : Bool} : ∀ {xs ys : List Value} {ns ms : List Int} (i : Nat), PyProof.Rows.IntsAre xs ns → PyProof.Rows.IntsAre ys ms → fin = decide (ns.length < ms.length) → Q (ltR ns ms) s → PySem.W.KatLex prog w A b fin Q (xs.zip ys) i s
  | _, _, _, _, i, .nil, .nil, hf, h => by
    rw [hf]
    exact h
  | _, _, _, _, i, .nil, .cons q u hy, hf, h => by
    rw [hf]
    exact h
  | _, _, _, _, i, .cons p t hx, .nil, hf, h => by
    rw [hf]
    exact h
  | _, _, _, _, i, @PyProof.Rows.IntsAre.cons p t xs ns hx, @PyProof.Rows.IntsAre.cons q u ys ms hy, hf, h => by
    show PySem.W.KatLex prog w A b fin Q ((Value.int p t, Value.int q u) :: xs.zip ys) i s
    refine PySem.W.kat_cons (wpAny_eqBool_int ?_)
    have h : Q (if p = q then HT.lexLt ns ms else decide (p < q)) s := h
    by_cases e : p = q
    · subst e
      rw [if_pos rfl] at h
      rw [beq_self_eq_true]
      refine PySem.W.kat_yes (lexI (i + 1) hx hy ?_ h)
      rw [hf]
      simp only [List.length_cons, Nat.add_lt_add_iff_right]
    · rw [if_neg e] at h
      rw [show (p == q) = false from beq_eq_false_iff_ne.mpr e]
      exact PySem.W.kat_no (TS.oneLt_ints _ h)
/-- rows that are not empty -/
def RowsIn (h : Heap) (vs : List Value) : Prop := ∀ v ∈ vs, ∃ ns, TS.TupInts h v ns ∧ ns ≠ []
theorem rows_firsts {h : Heap} : ∀ vs : List Value, RowsIn h vs → ∃ fs, PySem.W.KatTups h vs fs ∧ fs.length = vs.length ∧ ∀ f ∈ fs, ∃ n t, f = Value.int n t
  | [], _ => ⟨[], PySem.W.KatTups.nil, rfl, fun f hf => by cases hf⟩
  | v :: vs, x => by
    obtain ⟨fs, k, hl, hi⟩ := rows_firsts vs fun u hu => x u (List.mem_cons_of_mem _ hu)
    obtain ⟨ns, ⟨a, xs, ev, ⟨o, ho, hc, n, hdt⟩, ii⟩, hne⟩ := x v List.mem_cons_self
    subst ev
    cases q : xs.toList with
    | nil =>
      rw [q] at ii
      cases ii
      exact absurd rfl hne
    | cons y ys =>
      have hy : ∃ m t, y = Value.int m t := by
        rw [q] at ii
        cases ii
        exact ⟨_, _, rfl⟩
      obtain ⟨m, t, hy⟩ := hy
      refine ⟨y :: fs, PySem.W.KatTups.cons ho hc hdt ?_ k, by rw [List.length_cons, List.length_cons, hl], fun f hf => ?_⟩
      · have z := congrArg (fun l : List Value => l[0]?) q
        simpa using z
      · rcases List.mem_cons.mp hf with e | e
        · exact ⟨m, t, e.trans hy⟩
        · exact hi f e
theorem rows_sortable {h0 : Heap} {a : Addr} {vs : List Value} (x : RowsIn s.heap vs) (h2 : 2 ≤ vs.length) (ha : ∀ o, s.heap.get? a = some o → o.cls ≠ .type "tuple") (hf : ∀ v ∈ vs, ∀ ns, TS.TupInts s.heap v ns → TS.intsOf h0 v = ns) :
    SrtO.SortableO prog w A s a vs fun v u => ltR (TS.intsOf h0 v) (TS.intsOf h0 u) := by
  intro h' keep
  have kp : ∀ {v : Value} {ns : List Int}, TS.TupInts s.heap v ns → TS.TupInts h' v ns := fun q => q.keeps fun b o e c => keep b o (fun z => by subst z; exact ha o e c) e
  have x' : RowsIn h' vs := fun v hv => by
    obtain ⟨ns, h1, h2⟩ := x v hv
    exact ⟨ns, kp h1, h2⟩
  obtain ⟨fs, k1, k2, k3⟩ := rows_firsts vs x'
  refine ⟨PyProof.Rows.tuples' true, fun Q E hq => ?_, fun p q hp hq => ?_⟩
  · refine PySem.W.kat_kind (T := .type "int") k1 (by omega) (fun f hm => ?_) (by rfl) ?_
    · obtain ⟨m, t, e⟩ := k3 f hm
      subst e
      exact PySem.W.Looks.now
    · have e : (Value.type "int" != Value.type "tuple") = true := by first | decide +kernel | rfl | decide
      rw [e]
      exact hq
  · obtain ⟨ns, t1, _⟩ := x p.1 hp
    obtain ⟨ms, t2, _⟩ := x q.1 hq
    have e1 := hf _ hp _ t1
    have e2 := hf _ hq _ t2
    show wpAny (model prog w) A (PyProof.Rows.keyLt' (PyProof.Rows.tuples' true) p.1 q.1) (fun r s' => s' = { s with heap := h' } ∧ r = ltR (TS.intsOf h0 p.1) (TS.intsOf h0 q.1)) (fun _ _ => False) _
    rw [e1, e2]
    obtain ⟨a1, xs, f1, ⟨o1, ho1, hc1, n1, hd1⟩, i1⟩ := kp t1
    obtain ⟨a2, ys, f2, ⟨o2, ho2, hc2, n2, hd2⟩, i2⟩ := kp t2
    rw [f1, f2]
    refine PySem.W.kat_lt ho1 hd1 ho2 hd2 (lexI 0 i1 i2 ?_ ⟨rfl, rfl⟩)
    have l1 := i1.length
    have l2 := i2.length
    rw [Array.length_toList] at l1 l2
    rw [l1, l2]
end
def RowV (K : PySem.W.Frag) (H : Hp) (x : V) (ns : List Int) : Prop := ns ≠ [] ∧ ∃ t, x = .ref t ∧ SqT K H t (ns.map V.int)
def rSortR (K : PySem.W.Frag) : List V → Hp → VK → Prop := fun vs H Q => ∃ (a : Addr) (xs : List V) (rows : List (List Int)) (Pr : V → List Int → Prop), vs = [V.ref a] ∧ SqL K H a xs ∧ (∀ x ns, Pr x ns → RowV K H x ns) ∧ Paired Pr xs rows ∧
  ∀ ys p, Paired Pr ys (sortL ltR rows) → H p = none → Q (.ref p) (upd H p (.lst ys))
theorem paired_mem {α β : Type} {Pr : α → β → Prop} : ∀ {xs : List α} {ys : List β} {i : Nat} {x : α}, Paired Pr xs ys → xs[i]? = some x → ∃ y, ys[i]? = some y ∧ Pr x y
  | _, _, i, _, .nil, e => by simp at e
  | _, _, 0, _, .cons r _, e => by simp at e; subst e; exact ⟨_, rfl, r⟩
  | _, _, i + 1, x, .cons _ t, e => by
    obtain ⟨v, h1, h2⟩ := paired_mem (i := i) (x := x) t (by simpa using e)
    exact ⟨v, by simpa using h1, h2⟩
theorem paired_of_map {α β γ : Type} {Pr : β → γ → Prop} {f : α → β} {g : α → γ} : ∀ {l : List α}, (∀ u ∈ l, Pr (f u) (g u)) → Paired Pr (l.map f) (l.map g)
  | [], _ => .nil
  | u :: l, h => .cons (h u List.mem_cons_self) (paired_of_map fun v hv => h v (List.mem_cons_of_mem _ hv))
theorem cr_sortR {X : Cx} : CallR X (.builtin "sorted") (rSortR X.K) := by
  intro pins s g H vs us Q I r h
  obtain ⟨a, xs, rows, Pr, rfl, hs, hP, pr, q⟩ := h
  obtain ⟨its, rv, hl, hz⟩ := I.list hs
  rw [Vals.ref1 r]
  have rowOf : ∀ (i : Nat) (u : Value), its[i]? = some u → ∃ t ns, u = .ref t ∧ rows[i]? = some ns ∧ Pr (.ref t) ns ∧ TS.TupInts s.heap u ns ∧ ns ≠ [] := fun i u hu => by
    have hi : i < xs.length := by
      rw [rv.length]
      exact (List.getElem?_eq_some_iff.mp hu).1
    obtain ⟨ns, h1, h2⟩ := paired_mem pr (List.getElem?_eq_getElem hi)
    obtain ⟨u', h3, h4⟩ := rv.get (List.getElem?_eq_getElem hi)
    rw [hu] at h3
    cases h3
    obtain ⟨hne, t, et, hT⟩ := hP _ _ h2
    rw [et] at h4 h2
    cases h4
    exact ⟨t, ns, rfl, h1, h2, tupI_raw I hT, hne⟩
  have mem : ∀ u ∈ its, ∃ t ns, u = .ref t ∧ Pr (.ref t) ns ∧ TS.TupInts s.heap u ns ∧ ns ≠ [] := fun u hu => by
    obtain ⟨i, hi, e⟩ := List.mem_iff_getElem.mp hu
    obtain ⟨t, ns, h1, _, h2, h3, h4⟩ := rowOf i u (by rw [List.getElem?_eq_getElem hi, e])
    exact ⟨t, ns, h1, h2, h3, h4⟩
  have erow : its.map (TS.intsOf s.heap) = rows := by
    refine List.ext_getElem? fun i => ?_
    rw [List.getElem?_map]
    cases e : its[i]? with
    | none =>
      have h1 : its.length ≤ i := List.getElem?_eq_none_iff.mp e
      rw [List.getElem?_eq_none (by rw [← Paired.length pr, rv.length]; exact h1)]
      rfl
    | some u =>
      obtain ⟨t, ns, _, h1, _, h3, _⟩ := rowOf i u e
      rw [h1, ← h3.ints]
      rfl
  have rin : RowsIn s.heap its := fun u hu => by
    obtain ⟨t, ns, _, _, h3, h4⟩ := mem u hu
    exact ⟨ns, h3, h4⟩
  refine SrtO.sorted_ord (ltv := fun v u => ltR (TS.intsOf s.heap v) (TS.intsOf s.heap u)) ⟨fun x y => ltR_swo.asym _ _, fun x y z => ltR_swo.tr _ _ _⟩ hl.isList (by rw [← rv.length]; exact hz) (fun h2 h1 b hb kk => ?_) fun out h1 h2 => ?_
  · refine rows_sortable (s := { s with heap := h1 }) (h0 := s.heap) (fun v hv => ?_) h2 (fun o e => ?_) fun v hv ns t => ?_
    · obtain ⟨ns, t, hne⟩ := rin v hv
      exact ⟨ns, t.keeps fun b o e _ => (kk b o e).2, hne⟩
    · have e' : some o = some (PyProof.Rows.seqObj "list" its.toArray 0) := e.symm.trans hb
      cases e'
      intro c
      exact absurd (Value.type.inj c) (by decide)
    · obtain ⟨ms, t', _⟩ := rin v hv
      have t2 := t'.keeps (h' := h1) fun b o e _ => (kk b o e).2
      rw [t'.ints, ← t2.ints]
      exact t.ints
  · obtain ⟨n, hn⟩ := PyProof.Rows.sortedAll_at s.heap its out.toArray
    have mo : ∀ u ∈ out, ∃ t ns, u = .ref t ∧ Pr (.ref t) ns ∧ TS.TupInts s.heap u ns ∧ ns ≠ [] := fun u hu => mem u (h2.perm.mem_iff.mp hu)
    have eo : out.map (TS.intsOf s.heap) = sortL ltR rows := by
      rw [← erow]
      exact sortL_uniq ltR_swo (SrtO.srtd_map h1) (SrtO.Stb.map ltR_swo _ h2)
    have hp : Paired Pr (out.map backV) (sortL ltR rows) := by
      rw [← eo]
      exact paired_of_map fun u hu => by
        obtain ⟨t, ns, e, h3, h4, _⟩ := mo u hu
        rw [h4.ints, e]
        exact h3
    refine ⟨.ref _, upd H (s.heap.objs.size + 1) (.lst (out.map backV)), I.laid (t' := s.toks) (fun _ _ => PyProof.Rows.sortedAll_old) (Nat.le_succ _) ⟨?_, out, n, vals_back fun u hu => ?_, hn⟩, rfl, q _ _ hp (I.hok.fresh (Nat.le_succ _))⟩
    · rw [List.length_map, h2.len, ← rv.length]
      exact hz
    · obtain ⟨t, ns, e, _⟩ := mo u hu
      exact ⟨t, e⟩
/-! ### sorted, by values -/
def rowD (ns : List Int) : D := .tup (ns.map D.int)
def rowsOf : List D → Option (List (List Int))
  | [] => some []
  | .tup xs :: ds => (intsOf xs).bind fun ns => if ns = [] then none else (rowsOf ds).map (ns :: ·)
  | _ :: _ => none
theorem rowsOf_some : ∀ {ds : List D} {rows : List (List Int)}, rowsOf ds = some rows → ds = rows.map rowD ∧ ∀ ns ∈ rows, ns ≠ []
  | [], _, e => by cases e; exact ⟨rfl, fun _ h => by cases h⟩
  | d :: ds, rows, e => by
    cases d <;> try cases e
    rename_i xs
    simp only [rowsOf] at e
    cases q : intsOf xs with
    | none => rw [q] at e; cases e
    | some ns =>
      rw [q] at e
      have e : (if ns = [] then none else (rowsOf ds).map (ns :: ·)) = some rows := e
      split at e
      · cases e
      · rename_i hne
        cases q2 : rowsOf ds with
        | none => rw [q2] at e; cases e
        | some rs =>
          rw [q2] at e
          cases e
          obtain ⟨h1, h2⟩ := rowsOf_some q2
          refine ⟨by rw [h1, intsOf_some q]; rfl, fun m hm => (List.mem_cons.mp hm).elim (fun e => by rw [e]; exact hne) (h2 m)⟩
theorem rowsOf_map : ∀ {rows : List (List Int)}, (∀ ns ∈ rows, ns ≠ []) → rowsOf (rows.map rowD) = some rows
  | [], _ => rfl
  | ns :: rows, h => by
    show (intsOf (ns.map D.int)).bind (fun ns => if ns = [] then none else (rowsOf (rows.map rowD)).map (ns :: ·)) = _
    rw [intsOf_map, rowsOf_map fun m hm => h m (List.mem_cons_of_mem _ hm)]
    show (if ns = [] then none else some (ns :: rows)) = _
    rw [if_neg (h ns List.mem_cons_self)]
def sortD (ds : List D) (_ : Store) : Option D := match ds with
  | [.lst xs] => match intsOf xs with
    | some ns => some (.lst ((sortL ltI ns).map D.int))
    | none => (rowsOf xs).map fun rows => .lst ((sortL ltR rows).map rowD)
  | _ => none
section
variable {X : Cx} {K : PySem.W.Frag} {mg : Str → Option Value}
def rSortA (K : PySem.W.Frag) : List V → Hp → VK → Prop := fun vs H Q => rSortedI K vs H Q ∨ rSortR K vs H Q
theorem cr_sortA : CallR X (.builtin "sorted") (rSortA X.K) := cr_sortedI.or cr_sortR
theorem sortI_uniq {ns ms : List Int} (h1 : ms.Perm ns) (h2 : ms.Pairwise (· ≤ ·)) : ms = sortL ltI ns := by
  refine sortL_uniq ltI_swo (h2.imp fun {x y} h => decide_eq_false (by omega)) ⟨h1, fun z => ?_⟩
  have e : SrtO.eqv ltI z = fun y => decide (y = z) := funext fun y => by
    unfold SrtO.eqv ltI
    by_cases q : y = z
    · subst q
      simp
    · rw [decide_eq_false q]
      by_cases q2 : z < y
      · simp [q2]
      · have q3 : y < z := by omega
        simp [q3]
  rw [e]
  have h3 := h1.filter (fun y => decide (y = z))
  have h4 : ∀ l : List Int, l.filter (fun y => decide (y = z)) = List.replicate (l.filter (fun y => decide (y = z))).length z := fun l => List.eq_replicate_iff.mpr ⟨rfl, fun y hy => of_decide_eq_true (List.mem_filter.mp hy).2⟩
  rw [h4 ms, h4 ns, h3.length_eq]
theorem RepL.pr {T : Tb} {H : Hp} : ∀ {vs : List V} {rows : List (List Int)}, RepL K T H vs (rows.map rowD) → (∀ ns ∈ rows, ns ≠ []) → Paired (fun x ns => ns ≠ [] ∧ Rep K T H x (rowD ns)) vs rows
  | _, [], .nil, _ => .nil
  | _, ns :: rows, .cons h r, hn => .cons ⟨hn ns List.mem_cons_self, h⟩ (RepL.pr r fun m hm => hn m (List.mem_cons_of_mem _ hm))
theorem RepL.of_pr {T : Tb} {H : Hp} : ∀ {vs : List V} {rows : List (List Int)}, Paired (fun x ns => ns ≠ [] ∧ Rep K T H x (rowD ns)) vs rows → RepL K T H vs (rows.map rowD)
  | _, _, .nil => .nil
  | _, _, .cons h r => .cons h.2 (RepL.of_pr r)
theorem pok_sort : POk K mg (rSortA K) sortD := fun T S H vs ds d Q sim rep e k => by
  unfold sortD at e
  split at e
  · rename_i xs
    obtain ⟨v, rfl, r⟩ := rep.one
    cases r with
    | @lst a ys _ h n r =>
      split at e
      · rename_i ns q
        cases e
        have e3 := intsOf_some q
        subst e3
        rw [r.of_ints] at h
        refine .inl ⟨a, ns, rfl, SqL.of h, fun ms p h1 h2 hp => ?_⟩
        have e4 := sortI_uniq h1 h2
        subst e4
        have st := sim.stepNew (o := .lst ((sortL ltI ns).map V.int)) hp
        refine k _ _ st (sim.new hp (hlen_lst sim.hl ?_)) (.lst upd_same (sim.off hp) (RepL.ints _))
        have := sim.hl _ _ (.inl (.inl h))
        rw [List.length_map] at this ⊢
        rw [sortL_len]
        exact this
      · rename_i q
        cases q2 : rowsOf xs with
        | none => rw [q2] at e; cases e
        | some rows =>
          rw [q2] at e
          cases e
          obtain ⟨e3, hne⟩ := rowsOf_some q2
          subst e3
          refine .inr ⟨a, ys, rows, fun x ns => ns ≠ [] ∧ Rep K T H x (rowD ns), rfl, SqL.of h, fun x ns hx => ⟨hx.1, ?_⟩, r.pr hne, fun zs p hz hp => ?_⟩
          · obtain ⟨_, hx⟩ := hx
            cases hx with
            | tup h1 h2 h3 =>
              rw [h3.of_ints] at h1
              exact ⟨_, rfl, SqT.of h1⟩
          · have rz := RepL.of_pr hz
            have st := sim.stepNew (o := .lst zs) hp
            refine k _ _ st (sim.new hp (hlen_lst sim.hl ?_)) (.lst upd_same (sim.off hp) (rz.step st))
            have h1 := sim.hl _ _ (.inl (.inl h))
            have h2 := rz.length
            rw [List.length_map, sortL_len] at h2
            have h3 := r.length
            rw [List.length_map] at h3
            omega
  · cases e
end
theorem room65 {k : Nat} {A : Around} (r : Room k A) : A.units + 65 < cLine := by
  have := r.un
  omega
end Dv
namespace Dv
open PySem L2
theorem hlen_of {P : Program} {w : World} {H : Hp} {h : Heap} (x : HOk P w H h) : HLen H := fun a xs q => by
  rcases q with q | q
  · obtain ⟨z, _⟩ := q.ok x
    exact z
  · obtain ⟨z, _⟩ := q.ok x
    exact z
def spLaw (K : PySem.W.Frag) : Sp := fun vs H Q _ => ∃ (a : Addr) (ns : List Int), vs = [.ref a] ∧ SqL K H a (ns.map V.int) ∧ ns.length ≤ 63 ∧ ∀ H', Q (.bl true) H'
theorem law_fn {P : Program} {w : World} {K : PySem.W.Frag} {mg : Str → Option Value} {base : Heap} {CX : CXT} {k : Nat} {f : Addr} {fd : FuncData} {F : Nat → List D → Store → R D} (h : ∀ fu, FnOk P w K mg base CX k f fd ["script"] (spD K mg 1 (F fu)))
    (ht : ∀ ns : List Int, ns.length ≤ 63 → ∃ fu S, F fu [.scr ns] [] = .ok (.bl true) S) : FnOk P w K mg base CX k f fd ["script"] (spLaw K) := by
  refine ⟨fun vs H Q E q => ?_, fun A outer s H args us vs Q E hr he hb hv hs => ?_⟩
  · obtain ⟨a, ns, rfl, _⟩ := q
    rfl
  · obtain ⟨a, ns, rfl, hq, hl, q⟩ := hs
    obtain ⟨fu, S', e⟩ := ht ns hl
    refine (h fu).run A outer s H args us _ Q E hr he hb hv ⟨rfl, ⟨[], []⟩, [], [.scr ns], .cons (.scr ?_) .nil, ⟨rfl, List.nodup_nil, fun i a o h1 => ?_, fun a h1 => ?_, hlen_of he.hok⟩, ?_⟩
    · rcases hq with hq | hq
      · exact .inl ⟨hq, (by intro z; cases z), (by intro z; cases z)⟩
      · exact .inr (.inr hq)
    · cases h1
    · cases h1
    · rw [e]
      intro T' H' v _ _ r
      rw [r.bl_of]
      exact q H'
theorem sp_start {K : PySem.W.Frag} {H : Hp} {a : Addr} {ns : List Int} (hl : ns.length ≤ 63) (hS : SqL K H a (ns.map V.int)) : spLaw K [.ref a] H (fun v _ => v = .bl true) fun _ _ _ => False := ⟨a, ns, rfl, hS, hl, fun _ => rfl⟩
theorem no_exc {P : Program} {w : World} {l : List PySem.Env} {H : Hp} {s : Shared} {e : Value} {s' : Shared} (h : L2.CX P w l H s (fun _ _ _ => False) e s') : False := by
  obtain ⟨_, _, _, _, _, _, _, _, _, _, _, _, z⟩ := h
  exact z
end Dv
/-! what the parts come to, for the simplifier -/
namespace Dv
open PySem L2
section
variable {r : Env} {S : Store} {ma mb mc m mo mi : EM} {ms : AM} {ta tb : BM} {sa sb : SM}
@[simp] theorem rb_ok {α β : Type} (a : α) (S : Store) (f : α → Store → R β) : (R.ok a S).bind f = f a S := rfl
@[simp] theorem rb_exc {α β : Type} (n : Str) (S : Store) (f : α → Store → R β) : (R.exc n S : R α).bind f = .exc n S := rfl
@[simp] theorem rb_bad {α β : Type} (f : α → Store → R β) : (R.bad : R α).bind f = .bad := rfl
@[simp] theorem ofO_some {α : Type} (a : α) : ofO (some a) S = .ok a S := rfl
@[simp] theorem ofO_none {α : Type} : ofO (none : Option α) S = .bad := rfl
@[simp] theorem mVar_ap (i : Nat) : mVar i r S = (match r[i]? with | some (some d) => .ok d S | _ => .bad) := rfl
@[simp] theorem mC_ap (d : D) : mC d r S = .ok d S := rfl
@[simp] theorem mNil_ap : mNil r S = .ok [] S := rfl
@[simp] theorem mCons_ap : mCons m ms r S = (m r S).bind fun d S1 => (ms r S1).bind fun ds S2 => .ok (d :: ds) S2 := rfl
@[simp] theorem mTup_ap : mTup ms r S = (ms r S).bind fun ds S1 => if ds.length ≤ 100000 then .ok (.tup ds) S1 else .bad := rfl
@[simp] theorem mLst_ap : mLst ms r S = (ms r S).bind fun ds S1 => if ds.length ≤ 100000 then .ok (.lst ds) S1 else .bad := rfl
@[simp] theorem mNewL_ap : mNewL ms r S = (ms r S).bind fun ds S1 => if ds.length ≤ 100000 then .ok (.loc S1.length) (S1 ++ [.lst ds]) else .bad := rfl
@[simp] theorem mBin_ap (f : D → D → Store → Option D) : mBin f ma mb r S = (ma r S).bind fun a S1 => (mb r S1).bind fun b S2 => ofO (f a b S2) S2 := rfl
@[simp] theorem mUn_ap (f : D → Store → Option D) : mUn f ma r S = (ma r S).bind fun a S1 => ofO (f a S1) S1 := rfl
@[simp] theorem mCall_ap (f : List D → Store → Option D) : mCall f ms r S = (ms r S).bind fun ds S1 => ofO (f ds S1) S1 := rfl
@[simp] theorem mT_ap : mT m r S = (m r S).bind fun d S1 => ofO (asB d) S1 := rfl
@[simp] theorem asB_bl (b : Bool) : asB (.bl b) = some b := rfl
@[simp] theorem mTru_ap : mTru m r S = (m r S).bind fun d S1 => ofO (truD d S1) S1 := rfl
@[simp] theorem mNotT_ap : mNotT ta r S = (ta r S).bind fun b S1 => .ok (!b) S1 := rfl
@[simp] theorem mAndT_ap : mAndT ta tb r S = (ta r S).bind fun b S1 => if b = true then tb r S1 else .ok false S1 := rfl
@[simp] theorem mOrT_ap : mOrT ta tb r S = (ta r S).bind fun b S1 => if b = true then .ok true S1 else tb r S1 := rfl
@[simp] theorem mAnd_ap : mAnd ma mb r S = (ma r S).bind fun d S1 => match d with
  | .bl true => mb r S1
  | .bl false => .ok (.bl false) S1
  | _ => .bad := rfl
@[simp] theorem mOr_ap : mOr ma mb r S = (ma r S).bind fun d S1 => match d with
  | .bl true => .ok (.bl true) S1
  | .bl false => mb r S1
  | _ => .bad := rfl
@[simp] theorem mNot_ap : mNot ma r S = (ma r S).bind fun d S1 => match d with
  | .bl b => .ok (.bl (!b)) S1
  | _ => .bad := rfl
@[simp] theorem mIf_ap : mIf ta ma mb r S = (ta r S).bind fun b S1 => if b = true then ma r S1 else mb r S1 := rfl
@[simp] theorem mChain_ap (f f' : D → D → Store → Option D) : mChain f f' ma mb mc r S = (ma r S).bind fun a S1 => (mb r S1).bind fun b S2 => (ofO (f a b S2) S2).bind fun d S3 => match d with
  | .bl true => (mc r S3).bind fun c S4 => ofO (f' b c S4) S4
  | .bl false => .ok (.bl false) S3
  | _ => .bad := rfl
@[simp] theorem bs_ok {α : Type} (a : α) (f : α → Store → Z) : bindS (.ok a S) r f = f a S := rfl
@[simp] theorem bs_exc {α : Type} (n : Str) (f : α → Store → Z) : bindS (.exc n S : R α) r f = .exc n r S := rfl
@[simp] theorem bs_bad {α : Type} (f : α → Store → Z) : bindS (.bad : R α) r f = .bad := rfl
@[simp] theorem sNil_ap : sNil r S = .ok .next r S := rfl
@[simp] theorem sSeq_ap : sSeq sa sb r S = (match sa r S with | .ok .next r1 S1 => sb r1 S1 | z => z) := rfl
@[simp] theorem sSet_ap (i : Nat) : sSet i m r S = bindS (m r S) r fun d S1 => .ok .next (r.set i (some d)) S1 := rfl
@[simp] theorem sDrop_ap : sDrop m r S = bindS (m r S) r fun _ S1 => .ok .next r S1 := rfl
@[simp] theorem sRet_ap : sRet m r S = bindS (m r S) r fun d S1 => .ok (.ret d) r S1 := rfl
@[simp] theorem sRetN_ap : sRetN r S = .ok (.ret .non) r S := rfl
@[simp] theorem sIf_ap : sIf ta sa sb r S = bindS (ta r S) r fun k S1 => if k = true then sa r S1 else sb r S1 := rfl
@[simp] theorem sBrk_ap : sBrk r S = .ok .brk r S := rfl
@[simp] theorem sCont_ap : sCont r S = .ok .cont r S := rfl
@[simp] theorem sNever_ap : sNever r S = .bad := rfl
@[simp] theorem sForget_ap (i : Nat) : sForget i sa r S = sa (r.set i none) S := rfl
@[simp] theorem sAug_ap (i : Nat) (f : Int → Int → Int) : sAug i f m r S = (match r[i]? with
  | some (some (.int a)) => bindS (m r S) r fun d S1 => match d with
    | .int b => .ok .next (r.set i (some (.int (f a b)))) S1
    | _ => .bad
  | _ => .bad) := rfl
@[simp] theorem sPar_ap (i j : Nat) : sPar i j ms r S = bindS (ms r S) r fun ds S1 => match ds with
  | [a, b] => .ok .next ((r.set i (some a)).set j (some b)) S1
  | _ => .bad := rfl
@[simp] theorem tgN_ap (i : Nat) (d : D) : tgN i d r = some (r.set i (some d)) := rfl
@[simp] theorem tgsNil_ap : tgsNil [] r = some r := rfl
@[simp] theorem tgsCons_ap (a : D → Env → Option Env) (b : List D → Env → Option Env) (d : D) (ds : List D) : tgsCons a b (d :: ds) r = (a d r).bind fun r1 => b ds r1 := rfl
@[simp] theorem tgT_ap (n : Nat) (b : List D → Env → Option Env) (ds : List D) : tgT n b (.tup ds) r = if ds.length = n then b ds r else none := rfl
@[simp] theorem sAsg_ap (gm : D → Env → Option Env) : sAsg m gm r S = bindS (m r S) r fun d S1 => match gm d r with
  | some r1 => .ok .next r1 S1
  | none => .bad := rfl
@[simp] theorem sFor_ap (im : IM) (gm : D → Env → Option Env) : sFor im gm sb r S = bindS (im r S) r fun ds S1 => sLoop gm sb ds r S1 := rfl
@[simp] theorem mIter_ap : mIter m r S = (m r S).bind fun d S1 => ofO (seqD d) S1 := rfl
@[simp] theorem mRng1_ap : mRng1 ms r S = (ms r S).bind fun ds S1 => ofO (rng1 ds) S1 := rfl
@[simp] theorem mRng2_ap : mRng2 ms r S = (ms r S).bind fun ds S1 => ofO (rng2 ds) S1 := rfl
@[simp] theorem mZip_ap : mZip ms r S = (ms r S).bind fun ds S1 => ofO (zipD ds) S1 := rfl
@[simp] theorem mLc_ap (im : IM) (vs : List Nat) (gm : D → Env → Option Env) (te : EM) : mLc im vs gm ta te r S = (im r S).bind fun ds S1 => (lcL gm ta te (wipeE r vs) ds S1).bind fun ys S2 => .ok (.lst ys) S2 := rfl
@[simp] theorem mYes_ap : mYes r S = .ok true S := rfl
@[simp] theorem nox_ok {α : Type} (a : α) : nox (.ok a S) = .ok a S := rfl
@[simp] theorem mApp_ap (n : Nat) (F : List D → Store → R D) : mApp n F ms r S = (ms r S).bind fun ds S1 => if ds.length = n then F ds S1 else .bad := rfl
@[simp] theorem mNoP_ap : mNoP r S = .ok none S := rfl
@[simp] theorem mP_ap : mP m r S = (m r S).bind fun d S1 => match d with
  | .int i => .ok (some i) S1
  | _ => .bad := rfl
@[simp] theorem mSl_ap (ml mh : OM) : mSl m ml mh r S = (m r S).bind fun d S1 => (ml r S1).bind fun lo S2 => (mh r S2).bind fun hi S3 => ofO (slD d lo hi S3) S3 := rfl
@[simp] theorem mAppend_ap : mAppend mo m r S = (mo r S).bind fun o S1 => if isLoc o S1 = true then (m r S1).bind fun d S2 => appD o d S2 else .bad := rfl
@[simp] theorem isLoc_ap (n : Nat) : isLoc (.loc n) S = (match S[n]? with | some (.lst _) => true | _ => false) := rfl
@[simp] theorem appD_ap (n : Nat) (d : D) : appD (.loc n) d S = (match S[n]? with
    | some (.lst xs) => if xs.length < 100000 then .ok .non (S.set n (.lst (xs ++ [d]))) else .bad
    | _ => .bad) := rfl
@[simp] theorem mPop_ap : mPop mo r S = (mo r S).bind fun o S1 => popD o S1 := rfl
@[simp] theorem popD_ap (n : Nat) : popD (.loc n) S = (match S[n]? with
    | some (.lst xs) => match xs[xs.length - 1]? with
      | some d => .ok d (S.set n (.lst xs.dropLast))
      | none => .bad
    | _ => .bad) := rfl
@[simp] theorem sSetIx_ap : sSetIx mo mi m r S = bindS (m r S) r fun d S1 => bindS (mo r S1) r fun o S2 => bindS (mi r S2) r fun i S3 => putD o i d r S3 := rfl
@[simp] theorem putD_ap (n : Nat) (k : Int) (d : D) : putD (.loc n) (.int k) d r S = (match S[n]? with
    | some (.lst xs) => match ixN xs.length k with
      | some j => .ok .next r (S.set n (.lst (xs.set j d)))
      | none => .bad
    | _ => .bad) := rfl
@[simp] theorem sAugIx_ap (f : Int → Int → Int) : sAugIx f mo mi m r S = bindS (mo r S) r fun o S1 => bindS (mi r S1) r fun i S2 => bindS (ofO (getL o i S2) S2) r fun x S3 => bindS (m r S3) r fun y S4 => bindS (ofO (ipD f x y) S4) r fun z S5 => putD o i z r S5 := rfl
@[simp] theorem getL_ap (n : Nat) (k : Int) : getL (.loc n) (.int k) S = (match S[n]? with
    | some (.lst xs) => if 0 ≤ k then xs[k.toNat]? else none
    | _ => none) := rfl
@[simp] theorem ipD_ap (f : Int → Int → Int) (a b : Int) : ipD f (.int a) (.int b) = some (.int (f a b)) := rfl
@[simp] theorem mFld_ap (c f : Str) : mFld c f m r S = (m r S).bind fun a S1 => ofO (fldD c f a S1) S1 := rfl
@[simp] theorem fldD_ap (c f : Str) (n : Nat) : fldD c f (.loc n) S = (match S[n]? with
    | some (.ins c' fs) => if c' = c then fs.lookup f else none
    | _ => none) := rfl
@[simp] theorem sFldD_ap (c f : Str) : sFldD c f mo m r S = bindS (m r S) r fun v S1 => bindS (mo r S1) r fun o S2 => setFD c f o v r S2 := rfl
@[simp] theorem setFD_ap (c f : Str) (n : Nat) (v : D) : setFD c f (.loc n) v r S = (match S[n]? with
    | some (.ins c' fs) => if c' = c ∧ fs.length < 900 then .ok .next r (S.set n (.ins c' (putFD f v fs))) else .bad
    | _ => .bad) := rfl
@[simp] theorem sFldAugD_ap (c f : Str) (h : Int → Int → Int) : sFldAugD c f h mo m r S = bindS (mo r S) r fun o S1 => bindS (ofO (fldD c f o S1) S1) r fun x S2 => bindS (m r S2) r fun y S3 => bindS (ofO (ipD h x y) S3) r fun z S4 => setFD c f o z r S4 := rfl
@[simp] theorem isIns_ap (c mth : Str) (n : Nat) : isIns c mth (.loc n) S = (match S[n]? with
    | some (.ins c' fs) => decide (c' = c) && (fs.lookup mth).isNone
    | _ => false) := rfl
@[simp] theorem mMeth_ap (c mth : Str) (n : Nat) (F : List D → Store → R D) : mMeth c mth n F mo ms r S = (mo r S).bind fun o S1 => if isIns c mth o S1 = true then (ms r S1).bind fun ds S2 => if (o :: ds).length = n then F (o :: ds) S2 else .bad else .bad := rfl
@[simp] theorem mMake_ap (c : Str) (n : Nat) (F : List D → Store → R D) : mMake c n F ms r S = (ms r S).bind fun ds S1 => if (ds.length + 1) = n then (nox (F (.loc S1.length :: ds) (S1 ++ [.ins c []]))).bind fun d S2 => match d with
  | .non => .ok (.loc S1.length) S2
  | _ => .bad else .bad := rfl
@[simp] theorem sLoop_nil (gm : D → Env → Option Env) : sLoop gm sb [] r S = .ok .next r S := rfl
/-! by values -/
@[simp] theorem subD_int (i j : Int) : subD (.int i) (.int j) S = some (.int (i - j)) := rfl
@[simp] theorem addD_int (i j : Int) : addD (.int i) (.int j) S = some (.int (i + j)) := rfl
@[simp] theorem addD_lst (xs ys : List D) : addD (.lst xs) (.lst ys) S = if xs.length + ys.length ≤ 100000 then some (.lst (xs ++ ys)) else none := rfl
@[simp] theorem addD_tup (xs ys : List D) : addD (.tup xs) (.tup ys) S = if xs.length + ys.length ≤ 100000 then some (.tup (xs ++ ys)) else none := rfl
@[simp] theorem fdivD_int (i j : Int) : fdivD (.int i) (.int j) S = if 0 < j ∧ j < 1073741824 then some (.int (i / j)) else none := rfl
@[simp] theorem modD_int (i j : Int) : modD (.int i) (.int j) S = if 0 < j then some (.int (i % j)) else none := rfl
@[simp] theorem negD_int (i : Int) : negD (.int i) S = some (.int (-i)) := rfl
@[simp] theorem mulD_int (i j : Int) : mulD (.int i) (.int j) S = if (-(2 ^ 64) < i ∧ i < 2 ^ 64) ∨ (-(2 ^ 64) < j ∧ j < 2 ^ 64) then some (.int (i * j)) else none := rfl
@[simp] theorem mulD_lst (xs : List D) (k : Int) : mulD (.lst xs) (.int k) S = if -100000 ≤ k ∧ k ≤ 100000 ∧ xs.length * k.toNat ≤ 100000 then some (.lst (List.replicate k.toNat xs).flatten) else none := rfl
@[simp] theorem ltD_int (i j : Int) : ltD (.int i) (.int j) S = some (.bl (decide (i < j))) := rfl
@[simp] theorem leD_int (i j : Int) : leD (.int i) (.int j) S = some (.bl (decide (i ≤ j))) := rfl
@[simp] theorem gtD_int (i j : Int) : gtD (.int i) (.int j) S = some (.bl (decide (j < i))) := rfl
@[simp] theorem geD_int (i j : Int) : geD (.int i) (.int j) S = some (.bl (decide (j ≤ i))) := rfl
@[simp] theorem eqD_int (i j : Int) : eqD (.int i) (.int j) S = some (.bl (decide (i = j))) := rfl
@[simp] theorem neD_int (i j : Int) : neD (.int i) (.int j) S = some (.bl (!decide (i = j))) := rfl
@[simp] theorem lenD_lst (xs : List D) : lenD [.lst xs] S = some (.int xs.length) := rfl
@[simp] theorem lenD_tup (xs : List D) : lenD [.tup xs] S = some (.int xs.length) := rfl
@[simp] theorem lenD_scr (xs : List Int) : lenD [.scr xs] S = some (.int xs.length) := rfl
@[simp] theorem lenD_loc (n : Nat) : lenD [.loc n] S = (match S[n]? with
    | some (.lst xs) => some (.int xs.length)
    | _ => none) := rfl
@[simp] theorem absD_int (i : Int) : absD [.int i] S = some (.int (if i < 0 then -i else i)) := rfl
@[simp] theorem intD_bl (b : Bool) : intD [.bl b] S = some (.int (if b = true then 1 else 0)) := rfl
@[simp] theorem tupD_lst (xs : List D) : tupD [.lst xs] S = some (.tup xs) := rfl
@[simp] theorem tupD_loc (n : Nat) : tupD [.loc n] S = (match S[n]? with
    | some (.lst xs) => some (.tup xs)
    | _ => none) := rfl
@[simp] theorem maxD_ints (ns : List Int) : maxD [.lst (ns.map D.int)] S = (maxI ns).map D.int := by
  show ((intsOf (ns.map D.int)).bind maxI).map D.int = _
  rw [intsOf_map]
  rfl
@[simp] theorem sumD_ints (ns : List Int) : sumD [.lst (ns.map D.int)] S = some (.int ns.sum) := by
  show (intsOf (ns.map D.int)).map _ = _
  rw [intsOf_map]
  rfl
@[simp] theorem allD_bls (bs : List Bool) : allD [.lst (bs.map D.bl)] S = some (.bl (bs.all id)) := by
  show (blsOf (bs.map D.bl)).map _ = _
  rw [blsOf_map]
  rfl
@[simp] theorem truD_bl (b : Bool) : truD (.bl b) S = some b := rfl
@[simp] theorem truD_int (i : Int) : truD (.int i) S = some (i != 0) := rfl
@[simp] theorem truD_tup (xs : List D) : truD (.tup xs) S = some (!xs.isEmpty) := rfl
@[simp] theorem truD_lst (xs : List D) : truD (.lst xs) S = some (!xs.isEmpty) := rfl
@[simp] theorem truD_scr (xs : List Int) : truD (.scr xs) S = some (!xs.isEmpty) := rfl
@[simp] theorem truD_loc (n : Nat) : truD (.loc n) S = (match S[n]? with
    | some (.lst xs) => some (!xs.isEmpty)
    | _ => none) := rfl
@[simp] theorem ixD_lst (xs : List D) (i : Int) : ixD (.lst xs) (.int i) S = atI xs i := rfl
@[simp] theorem ixD_tup (xs : List D) (i : Int) : ixD (.tup xs) (.int i) S = atI xs i := rfl
@[simp] theorem ixD_scr (xs : List Int) (i : Int) : ixD (.scr xs) (.int i) S = (atI xs i).map .int := rfl
@[simp] theorem ixD_loc (n : Nat) (i : Int) : ixD (.loc n) (.int i) S = (match S[n]? with
    | some (.lst xs) => atI xs i
    | _ => none) := rfl
@[simp] theorem seqD_lst (xs : List D) : seqD (.lst xs) = some xs := rfl
@[simp] theorem seqD_tup (xs : List D) : seqD (.tup xs) = some xs := rfl
@[simp] theorem seqD_scr (xs : List Int) : seqD (.scr xs) = some (xs.map D.int) := rfl
@[simp] theorem rng1_int (j : Int) : rng1 [.int j] = if -100000 ≤ j ∧ j ≤ 100000 then some (rng 0 j.toNat) else none := rfl
@[simp] theorem rng2_int (i j : Int) : rng2 [.int i, .int j] = if (-100000 ≤ i ∧ i ≤ 100000) ∧ (-100000 ≤ j ∧ j ≤ 100000) then some (rng i (j - i).toNat) else none := rfl
@[simp] theorem slD_lst (xs : List D) (lo hi : Option Int) : slD (.lst xs) lo hi S = some (.lst (cutL xs lo hi)) := rfl
@[simp] theorem slD_tup (xs : List D) (lo hi : Option Int) : slD (.tup xs) lo hi S = some (.tup (cutL xs lo hi)) := rfl
@[simp] theorem wipeE_nil : wipeE r [] = r := rfl
@[simp] theorem wipeE_cons (v : Nat) (vs : List Nat) : wipeE r (v :: vs) = (wipeE r vs).set v none := rfl
@[simp] theorem isND_non : isND .non .non S = some (.bl true) := rfl
end
theorem atI_zero {α : Type} (x : α) (xs : List α) : atI (x :: xs) 0 = some x := atI_nat (j := 0) rfl
theorem atI_neg1 {α : Type} (xs : List α) (x : α) : atI (xs ++ [x]) (-1) = some x := atI_last xs x
theorem ixN_nat {n j : Nat} (h : j < n) : ixN n (j : Int) = some j := by
  unfold ixN
  rw [if_pos (by omega), if_pos (by omega)]
  simp
theorem ixN_zero {n : Nat} (h : 0 < n) : ixN n 0 = some 0 := ixN_nat (j := 0) h
end Dv
/-! what a draw comes to -/
namespace Dv
open PySem L2
def mDraw2 : SM :=
    (sSeq (sDrop (mAppend (mVar 1) (mC (.int 0))))
    (sSeq (sSet 3 (mCall lenD (mCons (mVar 1) mNil)))
    (sSeq (sSet 4 (mIf (mTru (mVar 0)) (mBin ixD (mVar 0) (mBin modD (mVar 3) (mCall lenD (mCons (mVar 0) mNil)))) (mC (.int 0))))
    (sSeq (sSet 5 (mBin modD (mBin ixD (mVar 1) (mC (.int 0))) (mC (.int 65536))))
    (sSeq (sSetIx (mVar 1) (mC (.int 0)) (mBin fdivD (mBin ixD (mVar 1) (mC (.int 0))) (mC (.int 65536))))
    (sSeq (sSet 6 (mBin modD (mBin addD (mBin addD (mVar 4) (mBin mulD (mC (.int 40503)) (mVar 5))) (mBin mulD (mC (.int 104729)) (mVar 3))) (mC (.int 4294967291))))
    (sSeq (sSet 6 (mBin modD (mBin mulD (mBin modD (mBin mulD (mVar 6) (mVar 6)) (mC (.int 4294967279))) (mC (.int 48271))) (mC (.int 4294967291))))
    (sSeq (sSet 7 (mBin modD (mBin mulD (mBin modD (mBin mulD (mVar 6) (mVar 6)) (mC (.int 4294967279))) (mC (.int 69621))) (mC (.int 4294967291))))
    (sRet (mBin modD (mBin addD (mBin mulD (mBin fdivD (mVar 6) (mC (.int 64))) (mC (.int 67108864))) (mBin fdivD (mVar 7) (mC (.int 64)))) (mVar 2)))))))))))
def mDraw : SM :=
    (sSeq (sIf (mNotT (mTru (mVar 1))) (sDrop (mAppend (mVar 1) (mCall maxD (mCons (mBin addD (mLc (mIter (mVar 0)) [4] (tgN 4) mYes (mCall absD (mCons (mVar 4) mNil))) (mLst (mCons (mC (.int 0)) mNil))) mNil)))) sNil)
    mDraw2)
noncomputable def FDraw : List D → Store → R D := runT 8 mDraw
def absI (i : Int) : Int := if i < 0 then -i else i
theorem lc_abs (r0 : Env) (h4 : 4 < r0.length) (S : Store) : ∀ ns : List Int, lcL (tgN 4) mYes (mCall absD (mCons (mVar 4) mNil)) r0 (ns.map D.int) S = .ok ((ns.map absI).map D.int) S
  | [] => rfl
  | n :: ns => by
    have e : (r0.set 4 (some (D.int n)))[4]? = some (some (D.int n)) := List.getElem?_set_self h4
    rw [List.map_cons, lcL]
    simp [lc_abs r0 h4 S ns, absI, h4]
theorem maxI_cons : ∀ (x : Int) (xs : List Int), ∃ m, maxI (x :: xs) = some m
  | x, [] => ⟨x, rfl⟩
  | x, y :: ys => by
    obtain ⟨m, e⟩ := maxI_cons y ys
    show ∃ m, (maxI (y :: ys)).map (fun m => if m < x then x else m) = some m
    rw [e]
    exact ⟨_, rfl⟩
theorem maxI_app : ∀ (xs : List Int) (x : Int), ∃ m, maxI (xs ++ [x]) = some m
  | [], x => ⟨x, rfl⟩
  | y :: ys, x => maxI_cons y (ys ++ [x])
theorem atI_mod {α : Type} (x : α) (xs : List α) (k : Int) : ∃ y, atI (x :: xs) (k % ((xs.length : Int) + 1)) = some y := by
  have h1 : 0 ≤ k % ((xs.length : Int) + 1) := Int.emod_nonneg _ (by omega)
  have h2 : k % ((xs.length : Int) + 1) < xs.length + 1 := Int.emod_lt_of_pos _ (by omega)
  obtain ⟨j, ej⟩ : ∃ j : Nat, k % ((xs.length : Int) + 1) = j := ⟨_, (Int.toNat_of_nonneg h1).symm⟩
  rw [ej] at h2 ⊢
  have h3 : j < (x :: xs).length := by rw [List.length_cons]; omega
  exact ⟨(x :: xs)[j], atI_nat (List.getElem?_eq_getElem h3)⟩
theorem small_mod (a m : Int) (h0 : 0 < m) (h : m ≤ 9223372036854775808) : -(2 ^ 64) < a % m ∧ a % m < 2 ^ 64 := by
  have h1 := Int.emod_nonneg a (show m ≠ 0 by omega)
  have h2 := Int.emod_lt_of_pos a h0
  constructor <;> omega
theorem gs {S : Store} {t : Nat} {o : O} (h : S[t]? = some o) (o' : O) : (List.set S t o')[t]? = some o' := List.getElem?_set_self (List.getElem?_eq_some_iff.mp h).1
/-- what a draw tells, and what is left of the town -/
theorem draw_tail (ns ts : List Int) (t0 many : Int) (S : Store) (t : Nat) (hS : S[t]? = some (.lst ((t0 :: ts).map D.int))) (hl : ts.length < 99990) (hm : 0 < many) (y4 : Option D) : ∃ (r : Int) (ts' : List Int) (rho : Env), 0 ≤ r ∧ r < many ∧ ts'.length = ts.length + 2 ∧
    mDraw2 [some (.scr ns), some (.loc t), some (.int many), none, y4, none, none, none] S =
      .ok (.ret (.int r)) rho (S.set t (.lst (ts'.map D.int))) := by
  have ht : t < S.length := (List.getElem?_eq_some_iff.mp hS).1
  obtain ⟨c, hc⟩ : ∃ c, ∀ S' : Store, (mIf (mTru (mVar 0)) (mBin ixD (mVar 0) (mBin modD (mVar 3) (mCall lenD (mCons (mVar 0) mNil)))) (mC (.int 0))) [some (.scr ns), some (.loc t), some (.int many), some (.int ((ts.length : Int) + 1 + 1)), y4, none, none, none] S' = .ok (.int c) S' := by
    cases ns with
    | nil => exact ⟨0, fun _ => rfl⟩
    | cons n ns =>
      obtain ⟨x, ex⟩ := atI_mod n ns ((ts.length : Int) + 1 + 1)
      refine ⟨x, fun S' => ?_⟩
      have hp : (0 : Int) < (ns.length : Int) + 1 := by omega
      simp [hp, ex]
  have hlt : ts.length + 1 < 100000 := by omega
  have e1 : atI (D.int t0 :: (List.map D.int ts ++ [D.int 0])) 0 = some (D.int t0) := atI_zero _ _
  have e2 : ixN (ts.length + 1 + 1) 0 = some 0 := ixN_zero (by omega)
  have sm : ∀ a : Int, (-18446744073709551616 < a % 4294967291 ∧ a % 4294967291 < 18446744073709551616) := fun a => by omega
  have h : ∃ (a : Int) (rho : Env), mDraw2 [some (.scr ns), some (.loc t), some (.int many), none, y4, none, none, none] S = .ok (.ret (.int (a % many))) rho (S.set t (.lst (((t0 / 65536) :: (ts ++ [0])).map D.int))) := by
    unfold mDraw2
    simp [hS, gs hS, hlt, hc, e1, e2, sm, hm, -mIf_ap]
    exact ⟨_, rfl⟩
  obtain ⟨a, rho, e⟩ := h
  exact ⟨a % many, _, rho, Int.emod_nonneg _ (by omega), Int.emod_lt_of_pos _ hm, by simp, e⟩
theorem start_draw (ns : List Int) (t : Nat) (many : Int) : frame 8 [.scr ns, .loc t, .int many] = [some (.scr ns), some (.loc t), some (.int many), none, none, none, none, none] := rfl
section
variable {S S1 : Store} {rho : Env} {d d' : D}
open Classical in
theorem finT_ret (tr : Tr S S1) (e : fzD S.length S1 d = some d') : finT S (.ok (.ret d) rho S1) = .ok d' (S1.take S.length) := by
  simp only [finT, if_pos tr, e]
open Classical in
theorem finT_next (tr : Tr S S1) : finT S (.ok .next rho S1) = .ok .non (S1.take S.length) := by
  simp only [finT, if_pos tr]
theorem take_app (E : Store) : (S ++ E).take S.length = S := by simp
theorem take_set (n : Nat) (o : O) (E : Store) : (List.set S n o ++ E).take S.length = List.set S n o := by simp
theorem fz_clo (h : clo S.length d = true) : fzD S.length S1 d = some d := by
  cases d with
  | loc m =>
    have : m < S.length := of_decide_eq_true h
    show (if m < S.length then _ else _) = _
    rw [if_pos this]
  | _ => exact (if_pos h : (if clo S.length _ = true then some _ else none) = some _)
/-- a body that leaves the store -/
theorem fin_ret0 (h : clo S.length d = true) : finT S (.ok (.ret d) rho S) = .ok d S := by
  have t := Tr.app S []
  rw [List.append_nil] at t
  rw [finT_ret t (fz_clo h), List.take_length]
theorem fin_next0 : finT S (.ok .next rho S) = .ok .non S := by
  have t := Tr.app S []
  rw [List.append_nil] at t
  rw [finT_next t, List.take_length]
theorem fin_ret_app (E : Store) (h : fzD S.length (S ++ E) d = some d') : finT S (.ok (.ret d) rho (S ++ E)) = .ok d' S := by
  rw [finT_ret (Tr.app S E) h, take_app]
theorem fin_next_app (E : Store) : finT S (.ok .next rho (S ++ E)) = .ok .non S := by
  rw [finT_next (Tr.app S E), take_app]
theorem fin_ret_set (n : Nat) (o : O) (ho : cloO S.length o = true) (h : clo S.length d = true) : finT S (.ok (.ret d) rho (List.set S n o)) = .ok d (List.set S n o) := by
  have t := Tr.set S [] n o ho
  rw [List.append_nil] at t
  rw [finT_ret t (fz_clo h), List.take_of_length_le (by rw [List.length_set]; exact Nat.le_refl _)]
theorem fin_next_set (n : Nat) (o : O) (ho : cloO S.length o = true) : finT S (.ok .next rho (List.set S n o)) = .ok .non (List.set S n o) := by
  have t := Tr.set S [] n o ho
  rw [List.append_nil] at t
  rw [finT_next t, List.take_of_length_le (by rw [List.length_set]; exact Nat.le_refl _)]
theorem fin_ret_set_app (n : Nat) (o : O) (E : Store) (ho : cloO S.length o = true) (h : fzD S.length (List.set S n o ++ E) d = some d') : finT S (.ok (.ret d) rho (List.set S n o ++ E)) = .ok d' (List.set S n o) := by
  rw [finT_ret (Tr.set S E n o ho) h, take_set]
theorem fin_next_set_app (n : Nat) (o : O) (E : Store) (ho : cloO S.length o = true) : finT S (.ok .next rho (List.set S n o ++ E)) = .ok .non (List.set S n o) := by
  rw [finT_next (Tr.set S E n o ho), take_set]
end
theorem draw_ok (ns ts : List Int) (many : Int) (S : Store) (t : Nat) (hS : S[t]? = some (.lst (ts.map D.int))) (h63 : ns.length ≤ 63) (hl : ts.length < 99990) (hm : 0 < many) : ∃ (r : Int) (ts' : List Int), 0 ≤ r ∧ r < many ∧ ts'.length ≤ ts.length + 2 ∧
    FDraw [.scr ns, .loc t, .int many] S = .ok (.int r) (S.set t (.lst (ts'.map D.int))) := by
  have ht : t < S.length := (List.getElem?_eq_some_iff.mp hS).1
  obtain ⟨r, ts', rho, h0, h1, h2, e⟩ : ∃ (r : Int) (ts' : List Int) (rho : Env), 0 ≤ r ∧ r < many ∧ ts'.length ≤ ts.length + 2 ∧ mDraw (frame 8 [.scr ns, .loc t, .int many]) S = .ok (.ret (.int r)) rho (S.set t (.lst (ts'.map D.int))) := by
    rw [start_draw]
    unfold mDraw
    cases ts with
    | nil =>
      obtain ⟨m, em⟩ := maxI_app (ns.map absI) 0
      have hS' : (S.set t (.lst ([m].map D.int)))[t]? = some (.lst ([m].map D.int)) := gs hS _
      obtain ⟨r, ts', rho, h0, h1, h2, e⟩ := draw_tail ns [] m many (S.set t (.lst ([m].map D.int))) t hS' (by simp) hm none
      refine ⟨r, ts', rho, h0, h1, by simp at h2; simp [h2], ?_⟩
      rw [List.set_set] at e
      have hx : ns.length + 1 ≤ 100000 := by omega
      have em' : maxD [D.lst (List.map D.int (List.map absI ns) ++ [D.int 0])] S = some (.int m) := by
        rw [show List.map D.int (List.map absI ns) ++ [D.int 0] = (ns.map absI ++ [0]).map D.int by simp, maxD_ints, em]
        rfl
      rw [← e]
      simp only [List.map_nil] at hS
      have hlc := lc_abs [some (D.scr ns), some (D.loc t), some (D.int many), none, none, none, none, none] (by simp) S ns
      simp [hS, hlc, hx, em', -List.map_map]
    | cons t0 ts =>
      obtain ⟨r, ts', rho, h0, h1, h2, e⟩ := draw_tail ns ts t0 many S t hS (by simp at hl; omega) hm none
      refine ⟨r, ts', rho, h0, h1, by simp [h2], ?_⟩
      rw [← e]
      simp only [List.map_cons] at hS
      simp [hS]
  refine ⟨r, ts', h0, h1, h2, ?_⟩
  show finT S (mDraw (frame 8 _) S) = _
  rw [e]
  exact fin_ret_set t _ (cloL_ints _ _) rfl
end Dv
/-! equality of plain data is equality -/
namespace Dv
open PySem L2
noncomputable instance : DecidableEq D := fun a b => Classical.propDecidable (a = b)
/-- data without bools, not deeper than so -/
def pl : Nat → D → Bool
  | _, .non => true
  | _, .int _ => true
  | _, .str x => PyData.strOk x
  | k + 1, .tup xs => xs.all (pl k)
  | k + 1, .lst xs => xs.all (pl k)
  | _, _ => false
theorem pl_dat : ∀ (k : Nat) (d : D), pl k d = true → dat d = true ∧ (pyD d).canLay0 = true ∧ (pyD d).depth ≤ k
  | _, .non, _ => ⟨rfl, rfl, Nat.zero_le _⟩
  | _, .int _, _ => ⟨rfl, rfl, Nat.zero_le _⟩
  | _, .str x, h => ⟨rfl, by cases ‹Nat› <;> exact h, Nat.zero_le _⟩
  | 0, .tup _, h => by cases h
  | 0, .lst _, h => by cases h
  | 0, .bl _, h => by cases h
  | _ + 1, .bl _, h => by cases h
  | 0, .scr _, h => by cases h
  | _ + 1, .scr _, h => by cases h
  | 0, .dct _, h => by cases h
  | _ + 1, .dct _, h => by cases h
  | 0, .loc _, h => by cases h
  | _ + 1, .loc _, h => by cases h
  | 0, .ty _, h => by cases h
  | _ + 1, .ty _, h => by cases h
  | k + 1, .tup xs, h => by
    have h : xs.all (pl k) = true := h
    have r : ∀ ys : List D, ys.all (pl k) = true → dats ys = true ∧ PyData.canLayAll0 (pyDs ys) = true ∧ PyData.depthAll (pyDs ys) ≤ k := fun ys => by
      induction ys with
      | nil => exact fun _ => ⟨rfl, rfl, Nat.zero_le _⟩
      | cons y ys ih =>
        intro h
        rw [List.all_cons, Bool.and_eq_true] at h
        obtain ⟨a, b, c⟩ := pl_dat k y h.1
        obtain ⟨a', b', c'⟩ := ih h.2
        refine ⟨by show (dat y && dats ys) = true; rw [a, a']; rfl, by show (PyData.canLay0 (pyD y) && PyData.canLayAll0 (pyDs ys)) = true; rw [b, b']; rfl, ?_⟩
        show max (PyData.depth (pyD y)) (PyData.depthAll (pyDs ys)) ≤ k
        omega
    obtain ⟨a, b, c⟩ := r xs h
    exact ⟨a, b, by show PyData.depthAll (pyDs xs) + 1 ≤ _; omega⟩
  | k + 1, .lst xs, h => by
    have h : xs.all (pl k) = true := h
    have r : ∀ ys : List D, ys.all (pl k) = true → dats ys = true ∧ PyData.canLayAll0 (pyDs ys) = true ∧ PyData.depthAll (pyDs ys) ≤ k := fun ys => by
      induction ys with
      | nil => exact fun _ => ⟨rfl, rfl, Nat.zero_le _⟩
      | cons y ys ih =>
        intro h
        rw [List.all_cons, Bool.and_eq_true] at h
        obtain ⟨a, b, c⟩ := pl_dat k y h.1
        obtain ⟨a', b', c'⟩ := ih h.2
        refine ⟨by show (dat y && dats ys) = true; rw [a, a']; rfl, by show (PyData.canLay0 (pyD y) && PyData.canLayAll0 (pyDs ys)) = true; rw [b, b']; rfl, ?_⟩
        show max (PyData.depth (pyD y)) (PyData.depthAll (pyDs ys)) ≤ k
        omega
    obtain ⟨a, b, c⟩ := r xs h
    exact ⟨a, b, by show PyData.depthAll (pyDs xs) + 1 ≤ _; omega⟩
theorem pl_ok {k : Nat} {d : D} (h : pl k d = true) (hk : k ≤ 64) : okD d = true := by
  obtain ⟨a, b, c⟩ := pl_dat k d h
  unfold okD SeqAt.shaped
  rw [a, b, decide_eq_true (show (pyD d).depth ≤ 64 by omega)]
  rfl
theorem pl_all_eqv (k : Nat) (ih : ∀ a b : D, pl k a = true → pl k b = true → (PyData.eqv (pyD a) (pyD b) = true ↔ a = b)) : ∀ xs ys : List D, xs.all (pl k) = true → ys.all (pl k) = true → (PyData.eqvAll (pyDs xs) (pyDs ys) = true ↔ xs = ys)
  | [], [], _, _ => ⟨fun _ => rfl, fun _ => rfl⟩
  | [], y :: ys, _, _ => ⟨(by intro h; cases h), (by intro h; cases h)⟩
  | x :: xs, [], _, _ => ⟨(by intro h; cases h), (by intro h; cases h)⟩
  | x :: xs, y :: ys, h1, h2 => by
    rw [List.all_cons, Bool.and_eq_true] at h1 h2
    show (PyData.eqv (pyD x) (pyD y) && PyData.eqvAll (pyDs xs) (pyDs ys)) = true ↔ _
    rw [Bool.and_eq_true, ih x y h1.1 h2.1, pl_all_eqv k ih xs ys h1.2 h2.2, List.cons.injEq]
theorem pl_eqv : ∀ (k : Nat) (a b : D), pl k a = true → pl k b = true → (PyData.eqv (pyD a) (pyD b) = true ↔ a = b) := fun k => by
  induction k with
  | zero =>
    intro a b ha hb
    cases a <;> cases b <;> first | (simp [pl] at ha; done) | (simp [pl] at hb; done) | simp [pyD, PyData.eqv]
  | succ k ih =>
    intro a b ha hb
    cases a <;> cases b <;> first | (simp [pl] at ha; done) | (simp [pl] at hb; done) | simp [pyD, PyData.eqv]
    · exact pl_all_eqv k ih _ _ ha hb
    · exact pl_all_eqv k ih _ _ ha hb
theorem pl_eqvD {k : Nat} {a b : D} (ha : pl k a = true) (hb : pl k b = true) : eqvD a b = decide (a = b) := by
  by_cases h : a = b
  · rw [decide_eq_true h]
    exact (pl_eqv k a b ha hb).mpr h
  · rw [decide_eq_false h]
    cases q : eqvD a b with
    | false => rfl
    | true => exact absurd ((pl_eqv k a b ha hb).mp q) h
theorem eqO_pl {k : Nat} {a b : D} (ha : pl k a = true) (hb : pl k b = true) (hk : k ≤ 64) : eqO a b = some (decide (a = b)) := by
  have h : (if okD a = true ∧ okD b = true then some (eqvD a b) else none) = some (decide (a = b)) := by
    rw [if_pos ⟨pl_ok ha hk, pl_ok hb hk⟩, pl_eqvD ha hb]
  unfold eqO
  split
  · congr 1
    simp
  · congr 1
    simp
  · congr 1
    simp
  · exact h
theorem eqD_pl {k : Nat} {a b : D} {S : Store} (ha : pl k (now a S) = true) (hb : pl k (now b S) = true) (hk : k ≤ 64) : eqD a b S = some (.bl (decide (now a S = now b S))) := by
  unfold eqD
  rw [eqO_pl ha hb hk]
  rfl
theorem neD_pl {k : Nat} {a b : D} {S : Store} (ha : pl k (now a S) = true) (hb : pl k (now b S) = true) (hk : k ≤ 64) : neD a b S = some (.bl (!decide (now a S = now b S))) := by
  unfold neD
  rw [eqO_pl ha hb hk]
  rfl
theorem any_pl {k : Nat} {a : D} (ha : pl k a = true) : ∀ xs : List D, xs.all (pl k) = true → (xs.any fun z => eqvD z a) = decide (a ∈ xs)
  | [], _ => by simp
  | x :: xs, h => by
    rw [List.all_cons, Bool.and_eq_true] at h
    rw [List.any_cons, any_pl ha xs h.2, pl_eqvD h.1 ha]
    by_cases e : a = x
    · subst e; simp
    · have : ¬ x = a := fun z => e z.symm
      simp [e, this]
theorem inO_pl {k : Nat} {a : D} {xs : List D} (ha : pl k a = true) (hb : xs.all (pl k) = true) (hk : k + 1 ≤ 64) : inO a (.lst xs) = some (decide (a ∈ xs)) := by
  show (if okD a = true ∧ okD (.lst xs) = true then some (xs.any fun z => eqvD z a) else none) = _
  rw [if_pos ⟨pl_ok ha (by omega), pl_ok (k := k + 1) hb hk⟩, any_pl ha xs hb]
theorem pl_rowD (k : Nat) (ns : List Int) : pl (k + 1) (rowD ns) = true := by
  show (ns.map D.int).all (pl k) = true
  rw [List.all_map, List.all_eq_true]
  intro n _
  cases k <;> rfl
theorem pl_rows (k : Nat) (rows : List (List Int)) : (rows.map rowD).all (pl (k + 1)) = true := by
  rw [List.all_map, List.all_eq_true]
  intro n _
  exact pl_rowD k n
theorem map_int_inj {a b : List Int} (h : a.map D.int = b.map D.int) : a = b := by
  induction a generalizing b with
  | nil => cases b with
    | nil => rfl
    | cons => cases h
  | cons x xs ih => cases b with
    | nil => cases h
    | cons y ys =>
      rw [List.map_cons, List.map_cons, List.cons.injEq, D.int.injEq] at h
      rw [h.1, ih h.2]
theorem rowD_inj {a b : List Int} (h : rowD a = rowD b) : a = b := by
  unfold rowD at h
  injection h with h
  exact map_int_inj h
theorem rowD_iff {a b : List Int} : rowD a = rowD b ↔ a = b := ⟨rowD_inj, fun h => by rw [h]⟩
theorem eqD_row {S : Store} (a b : List Int) : eqD (rowD a) (rowD b) S = some (.bl (decide (a = b))) := by
  have := eqD_pl (k := 1) (a := rowD a) (b := rowD b) (S := S) (by exact pl_rowD 0 a) (by exact pl_rowD 0 b) (by decide)
  rw [this]
  congr 2
  exact decide_eq_decide.mpr rowD_iff
theorem neD_row {S : Store} (a b : List Int) : neD (rowD a) (rowD b) S = some (.bl (!decide (a = b))) := by
  have := neD_pl (k := 1) (a := rowD a) (b := rowD b) (S := S) (by exact pl_rowD 0 a) (by exact pl_rowD 0 b) (by decide)
  rw [this]
  congr 3
  exact decide_eq_decide.mpr rowD_iff
theorem mem_rowD {a : List Int} {rows : List (List Int)} : rowD a ∈ rows.map rowD ↔ a ∈ rows := by
  constructor
  · intro h
    obtain ⟨b, hb, e⟩ := List.mem_map.mp h
    rw [← rowD_inj e]
    exact hb
  · exact fun h => List.mem_map.mpr ⟨a, h, rfl⟩
end Dv
/-! loops by invariants; drawn rows -/
namespace Dv
open PySem L2
theorem sLoop_cons (gm : D → Env → Option Env) (b : SM) (d : D) (ds : List D) (r : Env) (S : Store) : sLoop gm b (d :: ds) r S = (match gm d r with
    | none => .bad
    | some r1 => match b r1 S with
      | .ok .next r2 S2 => sLoop gm b ds r2 S2
      | .ok .cont r2 S2 => sLoop gm b ds r2 S2
      | .ok .brk r2 S2 => .ok .next r2 S2
      | .ok (.ret d) r2 S2 => .ok (.ret d) r2 S2
      | .exc x r2 S2 => .exc x r2 S2
      | .bad => .bad) := rfl
/-- a loop that goes through -/
theorem loop_inv {gm : D → Env → Option Env} {b : SM} (I : Nat → Env → Store → Prop) : ∀ (ds : List D) (k : Nat) (r : Env) (S : Store),
    (∀ i d r S, ds[i]? = some d → I (k + i) r S → ∃ r1 r2 S2, gm d r = some r1 ∧ (b r1 S = .ok .next r2 S2 ∨ b r1 S = .ok .cont r2 S2) ∧ I (k + i + 1) r2 S2) →
    I k r S → ∃ r' S', sLoop gm b ds r S = .ok .next r' S' ∧ I (k + ds.length) r' S'
  | [], k, r, S, _, h => ⟨r, S, rfl, h⟩
  | d :: ds, k, r, S, st, h => by
    obtain ⟨r1, r2, S2, e1, e2, h2⟩ := st 0 d r S rfl h
    obtain ⟨r', S', e3, h3⟩ := loop_inv I ds (k + 1) r2 S2 (fun i d' r S q h => by
      have := st (i + 1) d' r S q
      rw [show k + (i + 1) = k + 1 + i by omega] at this
      exact this h) h2
    refine ⟨r', S', ?_, by rw [List.length_cons, show k + (ds.length + 1) = k + 1 + ds.length by omega]; exact h3⟩
    rw [sLoop_cons, e1]
    rcases e2 with e2 | e2 <;> simp only [e2] <;> exact e3
theorem lcL_cons (gm : D → Env → Option Env) (tt : BM) (te : EM) (r0 : Env) (d : D) (ds : List D) (S : Store) : lcL gm tt te r0 (d :: ds) S = (match gm d r0 with
    | none => .bad
    | some r1 => (nox (tt r1 S)).bind fun b S1 => if b = true then (nox (te r1 S1)).bind fun y S2 => (lcL gm tt te r0 ds S2).bind fun ys S3 => .ok (y :: ys) S3 else lcL gm tt te r0 ds S1) := rfl
/-- a comprehension that does things -/
theorem lc_inv {gm : D → Env → Option Env} {te : EM} {r0 : Env} (I : Nat → List D → Store → Prop) : ∀ (ds : List D) (k : Nat) (zs : List D) (S : Store),
    (∀ i d zs S, ds[i]? = some d → I (k + i) zs S → ∃ r1 y S2, gm d r0 = some r1 ∧ te r1 S = .ok y S2 ∧ I (k + i + 1) (zs ++ [y]) S2) →
    I k zs S → ∃ ys S', lcL gm mYes te r0 ds S = .ok ys S' ∧ I (k + ds.length) (zs ++ ys) S'
  | [], k, zs, S, _, h => ⟨[], S, rfl, by rw [List.append_nil]; exact h⟩
  | d :: ds, k, zs, S, st, h => by
    obtain ⟨r1, y, S2, e1, e2, h2⟩ := st 0 d zs S rfl h
    obtain ⟨ys, S', e3, h3⟩ := lc_inv I ds (k + 1) (zs ++ [y]) S2 (fun i d' zs S q h => by
      have := st (i + 1) d' zs S q
      rw [show k + (i + 1) = k + 1 + i by omega] at this
      exact this h) h2
    refine ⟨y :: ys, S', ?_, by rw [List.length_cons, show k + (ds.length + 1) = k + 1 + ds.length by omega]; rwa [List.append_assoc] at h3⟩
    rw [lcL_cons, e1]
    simp [e2, e3]
/-- a comprehension that only tells -/
theorem lc_pure {gm : D → Env → Option Env} {tt : BM} {te : EM} {r0 : Env} {S : Store} (p : D → Bool) (f : D → D) : ∀ ds : List D,
    (∀ d ∈ ds, ∃ r1, gm d r0 = some r1 ∧ tt r1 S = .ok (p d) S ∧ (p d = true → te r1 S = .ok (f d) S)) → lcL gm tt te r0 ds S = .ok ((ds.filter p).map f) S
  | [], _ => rfl
  | d :: ds, h => by
    obtain ⟨r1, e1, e2, e3⟩ := h d List.mem_cons_self
    have ih := lc_pure p f ds fun d h' => h d (List.mem_cons_of_mem _ h')
    rw [lcL_cons, e1]
    cases q : p d with
    | false => simp [e2, q, ih]
    | true => simp [e2, q, e3 q, ih]
theorem lc_map {gm : D → Env → Option Env} {te : EM} {r0 : Env} {S : Store} (f : D → D) (ds : List D)
    (h : ∀ d ∈ ds, ∃ r1, gm d r0 = some r1 ∧ te r1 S = .ok (f d) S) : lcL gm mYes te r0 ds S = .ok (ds.map f) S := by
  have := lc_pure (gm := gm) (tt := mYes) (te := te) (r0 := r0) (S := S) (fun _ => true) f ds fun d hd => by
    obtain ⟨r1, a, b⟩ := h d hd
    exact ⟨r1, a, rfl, fun _ => b⟩
  rw [this, List.filter_eq_self.mpr fun _ _ => rfl]
theorem rng_get {lo : Int} {n i : Nat} {d : D} (h : (rng lo n)[i]? = some d) : i < n ∧ d = .int (lo + i) := by
  unfold rng at h
  rw [List.getElem?_map] at h
  by_cases hi : i < n
  · rw [List.getElem?_range hi] at h
    cases h
    exact ⟨hi, rfl⟩
  · rw [List.getElem?_eq_none (by rw [List.length_range]; omega)] at h
    cases h
theorem rng0_get {n i : Nat} {d : D} (h : (rng 0 n)[i]? = some d) : i < n ∧ d = .int i := by
  obtain ⟨a, b⟩ := rng_get h
  exact ⟨a, by rw [b, Int.zero_add]⟩
/-! ### the town -/
/-- the list at t holds numbers, so many at most -/
def Twn (t n : Nat) (S : Store) : Prop := ∃ ts : List Int, ts.length ≤ n ∧ S[t]? = some (.lst (ts.map D.int))
/-- the two differ by the town alone -/
def Dif (t : Nat) (S S' : Store) : Prop := ∃ ts : List Int, S' = List.set S t (.lst (ts.map D.int))
theorem Twn.mono {t n m : Nat} {S : Store} (h : Twn t n S) (hm : n ≤ m) : Twn t m S := by
  obtain ⟨ts, a, b⟩ := h
  exact ⟨ts, by omega, b⟩
theorem Dif.trans {t : Nat} {S S' S'' : Store} (h : Dif t S S') (h' : Dif t S' S'') : Dif t S S'' := by
  obtain ⟨a, rfl⟩ := h
  obtain ⟨b, rfl⟩ := h'
  exact ⟨b, by rw [List.set_set]⟩
theorem Twn.dif {t n : Nat} {S : Store} (h : Twn t n S) : Dif t S S := by
  obtain ⟨ts, _, b⟩ := h
  refine ⟨ts, ?_⟩
  obtain ⟨h1, h2⟩ := List.getElem?_eq_some_iff.mp b
  rw [← h2, List.set_getElem_self]
theorem Dif.len {t : Nat} {S S' : Store} (h : Dif t S S') : S'.length = S.length := by
  obtain ⟨a, rfl⟩ := h
  exact List.length_set
theorem Dif.other {t i : Nat} {S S' : Store} (h : Dif t S S') (hi : i ≠ t) : S'[i]? = S[i]? := by
  obtain ⟨a, rfl⟩ := h
  exact List.getElem?_set_ne (fun e => hi e.symm)
theorem Dif.fin {t : Nat} {S S' : Store} {rho : Env} {d : D} (h : Dif t S S') (hd : clo S.length d = true) : finT S (.ok (.ret d) rho S') = .ok d S' := by
  obtain ⟨a, rfl⟩ := h
  exact fin_ret_set t _ (cloL_ints _ _) hd
theorem Dif.fin0 {t : Nat} {S S' : Store} {rho : Env} (h : Dif t S S') : finT S (.ok .next rho S') = .ok .non S' := by
  obtain ⟨a, rfl⟩ := h
  exact fin_next_set t _ (cloL_ints _ _)
theorem draw_tw {ns : List Int} {many : Int} {S : Store} {t n : Nat} (h63 : ns.length ≤ 63) (h : Twn t n S) (hn : n < 99990) (hm : 0 < many) : ∃ (r : Nat) (S' : Store), (r : Int) < many ∧ Twn t (n + 2) S' ∧ Dif t S S' ∧ FDraw [.scr ns, .loc t, .int many] S = .ok (.int r) S' := by
  obtain ⟨ts, h1, h2⟩ := h
  obtain ⟨r, ts', a, b, c, e⟩ := draw_ok ns ts many S t h2 h63 (by omega) hm
  refine ⟨r.toNat, _, ?_, ⟨ts', ?_, ?_⟩, ⟨ts', rfl⟩, ?_⟩
  · omega
  · omega
  · exact gs h2 _
  · rw [Int.toNat_of_nonneg a]
    exact e
/-! ### sorting -/
theorem ltR_tri : ∀ a b : List Int, ltR a b = false → ltR b a = false → a = b
  | [], [], _, _ => rfl
  | [], _ :: _, h, _ => by cases h
  | _ :: _, [], _, h => by cases h
  | x :: xs, y :: ys, h1, h2 => by
    rw [ltR, HT.lexLt_cons] at h1 h2
    by_cases e : x = y
    · subst e
      simp only [if_true] at h1 h2
      rw [ltR_tri xs ys h1 h2]
    · rw [if_neg e] at h1
      rw [if_neg (fun z => e z.symm)] at h2
      have := of_decide_eq_false h1
      have := of_decide_eq_false h2
      omega
theorem sortL_strict {α : Type} {lt : α → α → Bool} (O : SrtO.Swo lt) (tri : ∀ a b, lt a b = false → lt b a = false → a = b) {l : List α} (nd : l.Nodup) : (sortL lt l).Pairwise fun a b => lt a b = true := by
  have h1 : (sortL lt l).Pairwise fun a b => lt b a = false := sortL_srtd O l
  have h2 : (sortL lt l).Nodup := (sortL_perm l).nodup_iff.mpr nd
  refine (h1.and h2).imp fun {a b} h => ?_
  cases q : lt a b with
  | true => rfl
  | false => exact absurd (tri a b q h.1) h.2
theorem intsOf_row (r : List Int) (rs : List (List Int)) : intsOf ((r :: rs).map rowD) = none := rfl
theorem sortD_rows {S : Store} (rows : List (List Int)) (h : ∀ r ∈ rows, r ≠ []) : sortD [.lst (rows.map rowD)] S = some (.lst ((sortL ltR rows).map rowD)) := by
  cases rows with
  | nil => rfl
  | cons r rs =>
    show (match intsOf ((r :: rs).map rowD) with
      | some ns => some (D.lst ((sortL ltI ns).map D.int))
      | none => (rowsOf ((r :: rs).map rowD)).map fun rows => D.lst ((sortL ltR rows).map rowD)) = _
    rw [intsOf_row, rowsOf_map h]
    rfl
theorem sortD_ints {S : Store} (ns : List Int) : sortD [.lst (ns.map D.int)] S = some (.lst ((sortL ltI ns).map D.int)) := by
  show (match intsOf (ns.map D.int) with
    | some ns => some (D.lst ((sortL ltI ns).map D.int))
    | none => (rowsOf (ns.map D.int)).map fun rows => D.lst ((sortL ltR rows).map rowD)) = _
  rw [intsOf_map]
theorem cloL_rows (n : Nat) (rows : List (List Int)) : cloL n (rows.map rowD) = true := (cloL_iff n _).mpr fun d hd => by
  obtain ⟨r, _, rfl⟩ := List.mem_map.mp hd
  exact cloL_ints n r
/-! ### drawn rows -/
noncomputable def mRowsB : SM := (sSeq (sSet 7 (mCall tupD (mCons (mLc (mRng1 (mCons (mVar 2) mNil)) [8] (tgN 8) mYes (mApp 3 FDraw (mCons (mVar 0) (mCons (mVar 1) (mCons (mVar 4) mNil))))) mNil)))
    (sSet 5 (mBin addD (mVar 5) (mBin mulD (mLst (mCons (mVar 7) mNil)) (mCall intD (mCons (mBin ninD (mVar 7) (mVar 5)) mNil))))))
noncomputable def mRows : SM :=
    (sSeq (sSet 5 (mLst mNil))
    (sSeq (sFor (mRng1 (mCons (mApp 3 FDraw (mCons (mVar 0) (mCons (mVar 1) (mCons (mBin addD (mVar 3) (mC (.int 1))) mNil)))) mNil)) (tgN 6) mRowsB)
    (sRet (mCall tupD (mCons (mCall sortD (mCons (mVar 5) mNil)) mNil)))))
noncomputable def FRows : List D → Store → R D := runT 9 mRows
/-- a row of such width, of numbers below -/
def Row (width : Nat) (far : Int) (r : List Int) : Prop := r.length = width ∧ ∀ x ∈ r, 0 ≤ x ∧ x < far
theorem rowsB_ok {ns : List Int} {t n width : Nat} {most far : Int} {S : Store} {rows : List (List Int)} (h63 : ns.length ≤ 63) (hw : width ≤ 1000) (hf : 0 < far) (ht : Twn t n S) (hn : n + 2 * width < 99000) (hr : rows.length < 90000) (y6 y7 y8 : Option D) :
    ∃ (row : List Int) (S' : Store) (y7' y8' : Option D), Row width far row ∧ Twn t (n + 2 * width) S' ∧ Dif t S S' ∧
    mRowsB [some (.scr ns), some (.loc t), some (.int width), some (.int most), some (.int far), some (.lst (rows.map rowD)), y6, y7, y8] S =
      .ok .next [some (.scr ns), some (.loc t), some (.int width), some (.int most), some (.int far), some (.lst ((if row ∈ rows then rows else rows ++ [row]).map rowD)), y6, y7', y8'] S' := by
  obtain ⟨ys, S', e, row, h0, h1, h2, h3, h4⟩ := lc_inv (gm := tgN 8) (te := mApp 3 FDraw (mCons (mVar 0) (mCons (mVar 1) (mCons (mVar 4) mNil))))
    (r0 := [some (.scr ns), some (.loc t), some (.int width), some (.int most), some (.int far), some (.lst (rows.map rowD)), y6, y7, none])
    (fun i zs S' => ∃ row : List Int, i ≤ width ∧ zs = row.map D.int ∧ Row i far row ∧ Twn t (n + 2 * i) S' ∧ Dif t S S') (rng 0 width) 0 [] S (fun i d zs S1 hd hi => by
      obtain ⟨hi2, rfl⟩ := rng_get hd
      obtain ⟨row, h0, h1, h2, h3, h4⟩ := hi
      obtain ⟨x, S2, a, b, c, e⟩ := draw_tw h63 h3 (by omega) hf
      refine ⟨_, .int x, S2, rfl, ?_, row ++ [(x : Int)], by omega, ?_, ⟨?_, ?_⟩, b.mono (by omega), h4.trans c⟩
      · simp
        exact e
      · rw [h1]; simp
      · simp [h2.1]
      · intro z hz
        rw [List.mem_append] at hz
        rcases hz with hz | hz
        · exact h2.2 z hz
        · rw [List.mem_singleton] at hz
          subst hz
          omega) ⟨[], Nat.zero_le _, rfl, ⟨rfl, by intro x hx; cases hx⟩, ht.mono (by omega), ht.dif⟩
  rw [rng_len, Nat.zero_add] at h0 h2 h3
  have hin : inO (rowD row) (.lst (rows.map rowD)) = some (decide (row ∈ rows)) := by
    rw [inO_pl (k := 1) (pl_rowD 0 row) (pl_rows 0 rows) (by decide)]
    congr 1
    exact decide_eq_decide.mpr mem_rowD
  have hnin : ninD (rowD row) (.lst (rows.map rowD)) S' = some (.bl (!decide (row ∈ rows))) := by
    show (inO (rowD row) (.lst (rows.map rowD))).map (fun k => D.bl (!k)) = _
    rw [hin]
    rfl
  have hys : ys = row.map D.int := by simpa using h1
  subst hys
  refine ⟨row, S', some (rowD row), y8, h2, h3, h4, ?_⟩
  have hw' : -100000 ≤ (width : Int) ∧ (width : Int) ≤ 100000 := by omega
  have hr' : rows.length ≤ 100000 := by omega
  have hr2 : rows.length + 1 ≤ 100000 := by omega
  unfold mRowsB
  have e' : D.tup (row.map D.int) = rowD row := rfl
  by_cases hm : row ∈ rows
  · simp [hw', e, e', hnin, hm, hr']
  · simp [hw', e, e', hnin, hm, hr', hr2]
theorem rows_ok {ns : List Int} {t n width most : Nat} {far : Int} {S : Store} (h63 : ns.length ≤ 63) (hw0 : 0 < width) (hw : width ≤ 1000) (hf : 0 < far) (ht : Twn t n S) (hn : n + 2 + 2 * width * most < 99000) (hr : most < 90000) :
    ∃ (rows : List (List Int)) (S' : Store), rows.length ≤ most ∧ (∀ r ∈ rows, Row width far r) ∧ (rows.Pairwise fun a b => ltR a b = true) ∧ Twn t (n + 2 + 2 * width * most) S' ∧ Dif t S S' ∧
    FRows [.scr ns, .loc t, .int width, .int most, .int far] S = .ok (.tup (rows.map rowD)) S' := by
  obtain ⟨m, S1, hm, t1, d1, e1⟩ := draw_tw (many := (most : Int) + 1) h63 ht (by omega) (by omega)
  have hmm : m ≤ most := by omega
  obtain ⟨r', S', e, rows, y6, y7, y8, rfl, h0, h1, h2, h3, h4⟩ := loop_inv (gm := tgN 6) (b := mRowsB)
    (fun i r S' => ∃ (rows : List (List Int)) (y6 y7 y8 : Option D), r = [some (.scr ns), some (.loc t), some (.int width), some (.int most), some (.int far), some (.lst (rows.map rowD)), y6, y7, y8] ∧
      rows.length ≤ i ∧ rows.Nodup ∧ (∀ r ∈ rows, Row width far r) ∧ Twn t (n + 2 + 2 * width * i) S' ∧ Dif t S S') (rng 0 m) 0 [some (.scr ns), some (.loc t), some (.int width), some (.int most), some (.int far), some (.lst (([] : List (List Int)).map rowD)), none, none, none] S1 (fun i d r S2 hd hi => by
      obtain ⟨hi2, rfl⟩ := rng_get hd
      obtain ⟨rows, y6, y7, y8, rfl, h0, h1, h2, h3, h4⟩ := hi
      have hle : 2 * width * (0 + i + 1) ≤ 2 * width * most := Nat.mul_le_mul_left _ (by omega)
      have hsu : 2 * width * (0 + i + 1) = 2 * width * (0 + i) + 2 * width := Nat.mul_succ _ _
      obtain ⟨row, S3, y7', y8', a, b, c, e⟩ := rowsB_ok (most := (most : Int)) h63 hw hf h3 (by omega) (show rows.length < 90000 by omega) (some (.int (0 + (i : Int)))) y7 y8
      refine ⟨_, _, S3, rfl, .inl e, (if row ∈ rows then rows else rows ++ [row]), _, _, _, rfl, ?_, ?_, ?_, b.mono (by omega), h4.trans c⟩
      · split
        · omega
        · rw [List.length_append, List.length_singleton]; omega
      · split
        · exact h1
        · rename_i q
          rw [List.nodup_append]
          refine ⟨h1, by simp, fun x hx y hy => ?_⟩
          rw [List.mem_singleton] at hy
          subst hy
          intro e
          subst e
          exact q hx
      · intro z hz
        split at hz
        · exact h2 z hz
        · rw [List.mem_append] at hz
          rcases hz with hz | hz
          · exact h2 z hz
          · rw [List.mem_singleton] at hz
            subst hz
            exact a) ⟨[], none, none, none, rfl, Nat.zero_le _, List.nodup_nil, (by intro x hx; cases hx), t1.mono (by omega), d1⟩
  rw [rng_len, Nat.zero_add] at h0 h3
  have hle : 2 * width * m ≤ 2 * width * most := Nat.mul_le_mul_left _ hmm
  have hne : ∀ r ∈ rows, r ≠ [] := fun r hr e => by
    have := (h2 r hr).1
    rw [e, List.length_nil] at this
    omega
  refine ⟨sortL ltR rows, S', by rw [sortL_len]; omega, fun r hr => h2 r ((sortL_perm rows).mem_iff.mp hr), sortL_strict ltR_swo ltR_tri h1, h3.mono (by omega), h4, ?_⟩
  show finT S (mRows (frame 9 _) S) = _
  have hmr : -100000 ≤ (m : Int) ∧ (m : Int) ≤ 100000 := by omega
  have ef : frame 9 [.scr ns, .loc t, .int width, .int most, .int far] = [some (.scr ns), some (.loc t), some (.int width), some (.int most), some (.int far), none, none, none, none] := rfl
  have eb : ∃ rho, mRows (frame 9 [.scr ns, .loc t, .int width, .int most, .int far]) S = .ok (.ret (.tup ((sortL ltR rows).map rowD))) rho S' := by
    rw [ef]
    unfold mRows
    simp only [List.map_nil] at e
    simp [e1, hmr, e, sortD_rows rows hne]
  obtain ⟨rho, eb⟩ := eb
  rw [eb]
  refine h4.fin ?_
  show cloL _ _ = true
  exact cloL_rows _ _
end Dv
/-! first_at -/
namespace Dv
open PySem L2
def mFirstC : BM := (mT (mBin ltD (mVar 3) (mVar 4)))
def mFirstB : SM := (sSeq (sSet 5 (mBin fdivD (mBin addD (mVar 3) (mVar 4)) (mC (.int 2))))
    (sIf (mT (mBin ltD (mBin ixD (mVar 0) (mVar 5)) (mVar 2))) (sSet 3 (mBin addD (mVar 5) (mC (.int 1)))) (sSet 4 (mVar 5))))
def mFirst (fu : Nat) : SM :=
    (sSeq (sPar 3 4 (mCons (mVar 1) (mCons (mCall lenD (mCons (mVar 0) mNil)) mNil)))
    (sSeq (sWhile mFirstC mFirstB fu)
    (sRet (mVar 3))))
noncomputable def FFirst (fu : Nat) : List D → Store → R D := runT 6 (mFirst fu)
theorem first_loop {seq : D} {row : List Int} {S : Store} {b : Nat} {v : Int} (hix : ∀ i x, row[i]? = some x → ixD seq (.int (i : Nat)) S = some (.int x)) : ∀ (fu lo hi : Nat) (y5 : Option D), lo ≤ hi → hi ≤ row.length → b ≤ lo → hi - lo < fu → (∀ x, b < lo → row[lo - 1]? = some x → x < v) → (∀ x, row[hi]? = some x → v ≤ x) →
    ∃ (p : Nat) (y4 y5' : Option D), b ≤ p ∧ p ≤ row.length ∧ (∀ x, b < p → row[p - 1]? = some x → x < v) ∧ (∀ x, row[p]? = some x → v ≤ x) ∧
    sWhile mFirstC mFirstB fu [some seq, some (.int b), some (.int v), some (.int lo), some (.int hi), y5] S = .ok .next [some seq, some (.int b), some (.int v), some (.int p), y4, y5'] S
  | 0, lo, hi, y5, _, _, _, h, _, _ => by omega
  | fu + 1, lo, hi, y5, h1, h2, h3, h4, h5, h6 => by
    by_cases hlt : lo < hi
    · have e0 : ((lo : Int) + (hi : Int)) / 2 = ((lo + hi) / 2 : Nat) := by omega
      have hm : (lo + hi) / 2 < row.length := by omega
      have ex := hix ((lo + hi) / 2) _ (List.getElem?_eq_getElem hm)
      have ex' : ixD seq (D.int (((lo : Int) + (hi : Int)) / 2)) S = some (.int row[(lo + hi) / 2]) := by
        rw [e0]
        exact ex
      by_cases hx : row[(lo + hi) / 2] < v
      · obtain ⟨p, y4, y5', a1, a2, a3, a4, a5⟩ := first_loop (b := b) (v := v) hix fu ((lo + hi) / 2 + 1) hi (some (.int (((lo + hi) / 2 : Nat) : Int))) (by omega) h2 (by omega) (by omega) (fun x _ q => by
          rw [Nat.add_sub_cancel, List.getElem?_eq_getElem hm] at q
          cases q
          exact hx) h6
        refine ⟨p, y4, y5', a1, a2, a3, a4, ?_⟩
        rw [← a5]
        conv => lhs; unfold sWhile
        have e1 : (((lo + hi) / 2 : Nat) : Int) + 1 = (((lo + hi) / 2 + 1 : Nat) : Int) := by omega
        simp [mFirstC, mFirstB, hlt, ex', hx]
      · obtain ⟨p, y4, y5', a1, a2, a3, a4, a5⟩ := first_loop (b := b) (v := v) hix fu lo ((lo + hi) / 2) (some (.int (((lo + hi) / 2 : Nat) : Int))) (by omega) (by omega) h3 (by omega) h5 (fun x q => by
          rw [List.getElem?_eq_getElem hm] at q
          cases q
          omega)
        refine ⟨p, y4, y5', a1, a2, a3, a4, ?_⟩
        rw [← a5]
        conv => lhs; unfold sWhile
        simp [mFirstC, mFirstB, hlt, ex', hx]
    · have : hi = lo := by omega
      subst this
      refine ⟨hi, some (.int hi), y5, h3, h2, h5, h6, ?_⟩
      unfold sWhile
      simp [mFirstC]
theorem first_ok {seq : D} {row : List Int} {S : Store} {b fu : Nat} {v : Int} (hlen : lenD [seq] S = some (.int row.length)) (hix : ∀ i x, row[i]? = some x → ixD seq (.int (i : Nat)) S = some (.int x)) (hb : b ≤ row.length) (hfu : row.length < fu) :
    ∃ p : Nat, b ≤ p ∧ p ≤ row.length ∧ (∀ x, b < p → row[p - 1]? = some x → x < v) ∧ (∀ x, row[p]? = some x → v ≤ x) ∧ FFirst fu [seq, .int b, .int v] S = .ok (.int p) S := by
  obtain ⟨p, y4, y5', a1, a2, a3, a4, a5⟩ := first_loop (b := b) (v := v) hix fu b row.length none hb (Nat.le_refl _) (Nat.le_refl _) (by omega) (fun x h => by omega) (fun x h => by
    rw [List.getElem?_eq_none (Nat.le_refl _)] at h
    cases h)
  refine ⟨p, a1, a2, a3, a4, ?_⟩
  show finT S (mFirst fu (frame 6 _) S) = _
  have ef : frame 6 [seq, .int b, .int v] = [some seq, some (.int b), some (.int v), none, none, none] := rfl
  have eb : ∃ rho, mFirst fu (frame 6 [seq, .int b, .int v]) S = .ok (.ret (.int p)) rho S := by
    rw [ef]
    unfold mFirst
    simp [hlen, a5]
  obtain ⟨rho, eb⟩ := eb
  rw [eb]
  exact fin_ret0 rfl
end Dv
/-! lists that are made anew and may change -/
namespace Dv
open PySem L2
section
variable (K : PySem.W.Frag) (mg : Str → Option Value)
def POk2N (r : R2) (f : D → D → Store → Option (List D)) : Prop := ∀ T S H x y a b ds (Q : VK), Sim K mg T S H → Rep K T H x a → Rep K T H y b → f a b S = some ds →
  (∀ vs p, RepL K T H vs ds → vs.length ≤ sizeLine → H p = none → Q (.ref p) (upd H p (.lst vs))) → r x y H Q
def POkN (r : List V → Hp → VK → Prop) (f : List D → Store → Option (List D)) : Prop := ∀ T S H xs es ds (Q : VK), Sim K mg T S H → RepL K T H xs es → f es S = some ds →
  (∀ vs p, RepL K T H vs ds → vs.length ≤ sizeLine → H p = none → Q (.ref p) (upd H p (.lst vs))) → r xs H Q
end
def newO (o : Option (List D)) (S : Store) : R D := match o with
  | some ds => .ok (.loc S.length) (S ++ [.lst ds])
  | none => .bad
def mBinN (f : D → D → Store → Option (List D)) (ma mb : EM) : EM := fun r S => (ma r S).bind fun a S1 => (mb r S1).bind fun b S2 => newO (f a b S2) S2
def mCallN (f : List D → Store → Option (List D)) (ms : AM) : EM := fun r S => (ms r S).bind fun ds S1 => newO (f ds S1) S1
@[simp] theorem newO_some (ds : List D) (S : Store) : newO (some ds) S = .ok (.loc S.length) (S ++ [.lst ds]) := rfl
@[simp] theorem mBinN_ap {f : D → D → Store → Option (List D)} {ma mb : EM} {r : Env} {S : Store} : mBinN f ma mb r S = (ma r S).bind fun a S1 => (mb r S1).bind fun b S2 => newO (f a b S2) S2 := rfl
@[simp] theorem mCallN_ap {f : List D → Store → Option (List D)} {ms : AM} {r : Env} {S : Store} : mCallN f ms r S = (ms r S).bind fun ds S1 => newO (f ds S1) S1 := rfl
section
variable {X : Cx} {Wx : WX} {a b : Expr} {es : List Expr} {pos : Pos} {ma mb : EM} {ms : AM}
theorem newO_use {K : PySem.W.Frag} {mg : Str → Option Value} {T : Tb} {S : Store} {H : Hp} {g : St} {o : Option (List D)} {Q : VK} (sim : Sim K mg T S H) (h : Out K mg Wx (Rep K) T g H (newO o S) Q) : ∃ ds, o = some ds ∧ ∀ vs p, RepL K T H vs ds → vs.length ≤ sizeLine → H p = none → Q (.ref p) (upd H p (.lst vs)) := by
  cases o with
  | none => exact h.elim
  | some ds =>
    refine ⟨ds, rfl, fun vs p rl hz hp => ?_⟩
    have st : Step T H (T.add p) (upd H p (.lst vs)) := sim.stepAlloc hp
    exact h (T.add p) _ _ st (sim.alloc hp (hlen_lst sim.hl hz) ⟨vs, upd_same, rl.step st⟩) (.loc sim.newGet)
theorem j_binN {op : Operator} {r : R2} {f : D → D → Store → Option (List D)} (ho : OpR X (binaryOp op) r) (hf : POk2N X.K X.mg r f) (ha : PE X a (tD X.K X.mg Wx ma)) (hb : PE X b (tD X.K X.mg Wx mb)) : PE X (.BinOp a op b pos) (tD X.K X.mg Wx (mBinN f ma mb)) := by
  refine pe_imp (pe_op ho ha hb) fun g H Q h => ?_
  obtain ⟨T, r, S, rs, sim, h⟩ := h
  refine ⟨T, r, S, rs, sim, Out.bind h fun x S1 T1 H1 v st sim1 rel h1 => ?_⟩
  refine ⟨T1, r, S1, rs.step st, sim1, Out.bind h1 fun y S2 T2 H2 w st2 sim2 rel2 h2 => ?_⟩
  obtain ⟨ds, e, k⟩ := newO_use sim2 h2
  exact hf T2 S2 H2 v w x y ds Q sim2 (rel.step st2) rel2 e k
theorem j_callTN {x : Str} {p : Pos} {e : Expr} {id : String} {r : List V → Hp → VK → Prop} {f : List D → Store → Option (List D)} (hc : CallR X (.type id) r) (hf : POkN X.K X.mg r f) (hg : Gl X x) (hm : X.mg x = none) (hv : bootBuiltins x = some (.type id)) (ha : PA X (e :: es) (tDA X.K X.mg Wx ms))
    (hn : x ≠ "__name__" := by decide) (hdb : (x == ("__debug__" : Str)) = false := by decide) (he : starEach (e :: es) X.env = (false, eval e X.env) :: starEach es X.env := by rfl) (hpl : (backTo pos (starEach es X.env)).any (·.1) = false := by rfl) :
    PE X (.Call (.Name x p) (e :: es) [] pos) (tD X.K X.mg Wx (mCallN f ms)) := pe_imp (pe_callTy hc hg hm hv ha hn hdb he hpl) fun g H Q h => by
  obtain ⟨T, r, S, rs, sim, h⟩ := h
  refine ⟨T, r, S, rs, sim, Out.bind h fun x S1 T1 H1 v st sim1 rel h1 => ?_⟩
  obtain ⟨ds, e, k⟩ := newO_use sim1 h1
  exact hf T1 S1 H1 v x ds Q sim1 rel e k
end
/-- what a list holds -/
def lstAt (d : D) (S : Store) : Option (List D) := match d with
  | .lst xs => some xs
  | .loc n => match S[n]? with
    | some (.lst xs) => some xs
    | _ => none
  | _ => none
@[simp] theorem lstAt_lst (xs : List D) (S : Store) : lstAt (.lst xs) S = some xs := rfl
@[simp] theorem lstAt_loc (n : Nat) (S : Store) : lstAt (.loc n) S = (match S[n]? with
    | some (.lst xs) => some xs
    | _ => none) := rfl
section
variable {K : PySem.W.Frag} {mg : Str → Option Value} {T : Tb} {S : Store} {H : Hp}
theorem lstAt_rep {v : V} {d : D} {ds : List D} (sim : Sim K mg T S H) (r : Rep K T H v d) (e : lstAt d S = some ds) : ∃ a xs, v = .ref a ∧ H a = some (.lst xs) ∧ RepL K T H xs ds ∧ xs.length ≤ sizeLine := by
  cases r with
  | lst h n r =>
    cases e
    exact ⟨_, _, rfl, h, r, sim.hl _ _ (.inl (.inl h))⟩
  | @loc a n h =>
    simp only [lstAt] at e
    split at e
    · rename_i ys hs
      cases e
      obtain ⟨xs, h1, h2⟩ := sim.obj n a _ h hs
      exact ⟨a, xs, rfl, h1, h2, sim.hl _ _ (.inl (.inl h1))⟩
    · cases e
  | _ => cases e
end
def catN (a b : D) (S : Store) : Option (List D) := match lstAt a S, lstAt b S with
  | some xs, some ys => if xs.length + ys.length ≤ 100000 then some (xs ++ ys) else none
  | _, _ => none
def repN (a b : D) (S : Store) : Option (List D) := match lstAt a S, b with
  | some xs, .int k => if -100000 ≤ k ∧ k ≤ 100000 ∧ xs.length * k.toNat ≤ 100000 then some (List.replicate k.toNat xs).flatten else none
  | _, _ => none
section
variable {K : PySem.W.Frag} {mg : Str → Option Value}
theorem pok_catN : POk2N K mg (rAddA K) catN := fun T S H x y a b ds Q sim rx ry e k => by
  unfold catN at e
  split at e
  · rename_i xs ys h1 h2
    split at e
    · rename_i hz
      cases e
      obtain ⟨p, us, rfl, hp, r1, _⟩ := lstAt_rep sim rx h1
      obtain ⟨q, vs, rfl, hq, r2, _⟩ := lstAt_rep sim ry h2
      have hz' : us.length + vs.length ≤ sizeLine := by rw [r1.length, r2.length]; exact sz5 hz
      exact .inr (.inr (.inr ⟨p, q, us, vs, rfl, rfl, hp, hq, hz', fun o ho => k _ o (RepL.append r1 r2) (by rw [List.length_append]; exact hz') ho⟩))
    · cases e
  · cases e
theorem pok_repN : POk2N K mg rMulA repN := fun T S H x y a b ds Q sim rx ry e k => by
  unfold repN at e
  split at e
  · rename_i xs j h1
    split at e
    · rename_i hz
      cases e
      obtain ⟨p, us, rfl, hp, r1, _⟩ := lstAt_rep sim rx h1
      cases ry
      have hz' : us.length * j.toNat ≤ sizeLine := by rw [r1.length]; exact sz5 hz.2.2
      exact .inr ⟨p, j, us, rfl, rfl, hp, by omega, by omega, hz', fun o ho => k _ o (r1.rep j.toNat) (by rw [flat_len]; exact hz') ho⟩
    · cases e
  · cases e
/-- a + b of lists, either of which may be one that changes -/
def addL (a b : D) (S : Store) : Option D := (catN a b S).map .lst
theorem pok_addL : POk2 K mg (rAddA K) addL := fun T S H x y a b d Q sim rx ry e k => by
  unfold addL at e
  cases q : catN a b S with
  | none => rw [q] at e; cases e
  | some ds =>
    rw [q] at e
    cases e
    refine pok_catN T S H x y a b ds Q sim rx ry q fun vs p rl hz hp => ?_
    have st := sim.stepNew (o := .lst vs) hp
    exact k _ _ st (sim.new hp (hlen_lst sim.hl hz)) (.lst upd_same (sim.off hp) (rl.step st))
/-- list(xs) -/
def lstN (ds : List D) (S : Store) : Option (List D) := match ds with
  | [.tup xs] => some xs
  | [d] => lstAt d S
  | _ => none
theorem pok_lstN : POkN K mg (fun xs H Q => ∃ p ys, xs = [.ref p] ∧ (SqL K H p ys ∨ SqT K H p ys) ∧ ∀ l, H l = none → Q (.ref l) (upd H l (.lst ys))) lstN := fun T S H vs es ds Q sim rep e k => by
  unfold lstN at e
  split at e
  · cases e
    obtain ⟨v, rfl, r⟩ := rep.one
    cases r with
    | tup h n r => exact ⟨_, _, rfl, .inr (SqT.of h), fun l hl => k _ l r (sim.hl _ _ (.inr (.inl h))) hl⟩
  · obtain ⟨v, rfl, r⟩ := rep.one
    obtain ⟨p, us, rfl, hp, r1, hz⟩ := lstAt_rep sim r e
    exact ⟨p, us, rfl, .inl (SqL.of hp), fun l hl => k _ l r1 hz hl⟩
  · cases e
theorem fn_bad {P : Program} {w : World} {base : Heap} {CX : CXT} {k : Nat} {f : Addr} {fd : FuncData} {ps : List Str} : FnOk P w K mg base CX k f fd ps (spD K mg ps.length fun _ _ => .bad) := by
  refine ⟨fun vs H Q E q => q.1, fun A outer s H args us vs Q E hr he hb hv hs => ?_⟩
  obtain ⟨hl, T, S, ds, rep, sim, out⟩ := hs
  exact out.elim
end
end Dv
/-! _law_same is equality -/
namespace Dv
open PySem L2
def mSame (self : List D → Store → R D) : SM :=
    (sSeq (sIf (mT (mBin isND (mVar 1) (mC .non))) (sRet (mBin isND (mVar 0) (mC .non))) sNil)
    (sSeq (sIf (mTru (mCall isiD (mCons (mVar 1) (mCons (mC (.ty "bool")) mNil)))) (sRet (mAnd (mCall isiD (mCons (mVar 0) (mCons (mC (.ty "bool")) mNil))) (mBin eqD (mVar 0) (mVar 1)))) sNil)
    (sSeq (sIf (mTru (mCall isiD (mCons (mVar 1) (mCons (mC (.ty "tuple")) mNil)))) (sSeq (sIf (mOrT (mNotT (mTru (mCall isiD (mCons (mVar 0) (mCons (mC (.ty "tuple")) mNil))))) (mT (mBin neD (mCall lenD (mCons (mVar 0) mNil)) (mCall lenD (mCons (mVar 1) mNil))))) (sRet (mC (.bl false))) sNil)
    (sRet (mCall allD (mCons (mLc (mZip (mCons (mVar 0) (mCons (mVar 1) mNil))) [2, 3] (tgT 2 (tgsCons (tgN 2) (tgsCons (tgN 3) tgsNil))) mYes (mApp 2 self (mCons (mVar 2) (mCons (mVar 3) mNil)))) mNil)))) sNil)
    (sSeq (sIf (mTru (mCall isiD (mCons (mVar 1) (mCons (mC (.ty "str")) mNil)))) (sRet (mAnd (mCall isiD (mCons (mVar 0) (mCons (mC (.ty "str")) mNil))) (mBin eqD (mVar 0) (mVar 1)))) sNil)
    (sRet (mAnd (mCall isiD (mCons (mVar 0) (mCons (mC (.ty "int")) mNil))) (mAnd (mNot (mCall isiD (mCons (mVar 0) (mCons (mC (.ty "bool")) mNil)))) (mBin eqD (mVar 0) (mVar 1)))))))))
noncomputable def FSame : Nat → List D → Store → R D
  | 0 => fun _ _ => .bad
  | n + 1 => runT 4 (mSame (FSame n))
/-- data of tuples, not deeper than so -/
def pt : Nat → D → Bool
  | _, .non => true
  | _, .bl _ => true
  | _, .int _ => true
  | _, .str _ => true
  | k + 1, .tup xs => xs.all (pt k)
  | _, _ => false
theorem same_zip {S : Store} (f : List D → Store → R D) (k : Nat) (ih : ∀ a b, pt k a = true → pt k b = true → f [a, b] S = .ok (.bl (decide (a = b))) S) (r0 : Env) (h0 : r0.length = 4) : ∀ xs ys : List D, xs.all (pt k) = true → ys.all (pt k) = true →
    lcL (tgT 2 (tgsCons (tgN 2) (tgsCons (tgN 3) tgsNil))) mYes (mApp 2 f (mCons (mVar 2) (mCons (mVar 3) mNil))) r0 (List.zipWith (fun a b => D.tup [a, b]) xs ys) S = .ok ((List.zipWith (fun a b => decide (a = b)) xs ys).map D.bl) S
  | [], _, _, _ => by simp [lcL]
  | x :: xs, [], _, _ => by simp [lcL]
  | x :: xs, y :: ys, h1, h2 => by
    rw [List.all_cons, Bool.and_eq_true] at h1 h2
    rw [List.zipWith_cons_cons, lcL_cons]
    have e := same_zip f k ih r0 h0 xs ys h1.2 h2.2
    have e2 := ih x y h1.1 h2.1
    simp [h0, e, e2]
theorem zip_all : ∀ xs ys : List D, xs.length = ys.length → ((List.zipWith (fun a b => decide (a = b)) xs ys).all id) = decide (xs = ys)
  | [], [], _ => by simp
  | x :: xs, y :: ys, h => by
    rw [List.zipWith_cons_cons, List.all_cons, zip_all xs ys (by simpa using h)]
    by_cases e : x = y
    · subst e; simp
    · simp [e]
theorem same_ok {S : Store} : ∀ (n k : Nat), k < n → ∀ a b, pt k a = true → pt k b = true → FSame n [a, b] S = .ok (.bl (decide (a = b))) S
  | 0, k, h, _, _, _, _ => absurd h (Nat.not_lt_zero _)
  | n + 1, k, h, a, b, ha, hb => by
    have eb : ∃ rho, mSame (FSame n) (frame 4 [a, b]) S = .ok (.ret (.bl (decide (a = b)))) rho S := by
      rw [show frame 4 [a, b] = [some a, some b, none, none] from rfl]
      unfold mSame
      have i1 : ∀ d, pt k d = true → ∀ S, isiD [d, .ty "bool"] S = some (.bl (match d with | .bl _ => true | _ => false)) := fun d hd S => by
        cases d <;> first | rfl | (cases k <;> cases hd)
      have i2 : ∀ d, pt k d = true → ∀ S, isiD [d, .ty "tuple"] S = some (.bl (match d with | .tup _ => true | _ => false)) := fun d hd S => by
        cases d <;> first | rfl | (cases k <;> cases hd)
      have i3 : ∀ d, pt k d = true → ∀ S, isiD [d, .ty "str"] S = some (.bl (match d with | .str _ => true | _ => false)) := fun d hd S => by
        cases d <;> first | rfl | (cases k <;> cases hd)
      have i4 : ∀ d, pt k d = true → ∀ S, isiD [d, .ty "int"] S = some (.bl (match d with | .int _ => true | .bl _ => true | _ => false)) := fun d hd S => by
        cases d <;> first | rfl | (cases k <;> cases hd)
      have j1 : ∀ d, pt k d = true → ∀ S, isND d .non S = some (.bl (match d with | .non => true | _ => false)) := fun d hd S => by
        cases d <;> rfl
      have q1 : ∀ x y : Bool, ∀ S, eqD (.bl x) (.bl y) S = some (.bl (decide (x = y))) := fun _ _ _ => rfl
      have q2 : ∀ x y : Str, ∀ S, eqD (.str x) (.str y) S = some (.bl (decide (x = y))) := fun _ _ _ => rfl
      cases b with
      | tup ys =>
        cases a with
        | tup xs =>
          cases k with
          | zero => cases ha
          | succ k =>
            have z := same_zip (S := S) (FSame n) k (fun a b h1 h2 => same_ok n k (by omega) a b h1 h2) [some (.tup xs), some (.tup ys), none, none] rfl xs ys ha hb
            by_cases hl : xs.length = ys.length
            · have hz := zip_all xs ys hl
              have e1 : ((xs.length : Int) = (ys.length : Int)) := by rw [hl]
              have e2 : zipD [.tup xs, .tup ys] = some (List.zipWith (fun a b => D.tup [a, b]) xs ys) := rfl
              have e3 := allD_bls (S := S) (List.zipWith (fun a b => decide (a = b)) xs ys)
              simp [i1 _ ha, i1 _ hb, i2 _ ha, i2 _ hb, j1 _ hb, e1, e2, z, e3, hz, -List.map_zipWith]
            · have e1 : ¬ ((xs.length : Int) = (ys.length : Int)) := by omega
              have e2 : ¬ xs = ys := fun e => hl (by rw [e])
              simp [i1 _ ha, i1 _ hb, i2 _ ha, i2 _ hb, j1 _ hb, e1, e2]
        | _ => simp [i1 _ ha, i1 _ hb, i2 _ ha, i2 _ hb, j1 _ hb]
      | _ => cases a <;> simp [i1 _ ha, i1 _ hb, i2 _ ha, i2 _ hb, i3 _ ha, i3 _ hb, i4 _ ha, j1 _ hb, j1 _ ha, q1, q2] <;> (first | done | (cases k <;> cases hb) | (cases k <;> cases ha))
    obtain ⟨rho, eb⟩ := eb
    show finT S (mSame (FSame n) (frame 4 _) S) = _
    rw [eb]
    exact fin_ret0 rfl
theorem pt_rowD (k : Nat) (ns : List Int) : pt (k + 1) (rowD ns) = true := by
  show (ns.map D.int).all (pt k) = true
  rw [List.all_map, List.all_eq_true]
  intro n _
  cases k <;> rfl
theorem pt_rows (k : Nat) (rows : List (List Int)) : pt (k + 2) (.tup (rows.map rowD)) = true := by
  show (rows.map rowD).all (pt (k + 1)) = true
  rw [List.all_map, List.all_eq_true]
  intro n _
  exact pt_rowD k n
end Dv
namespace Dv
open PySem L2
noncomputable def mPick : SM := (sRet (mBin ixD (mVar 2) (mApp 3 FDraw (mCons (mVar 0) (mCons (mVar 1) (mCons (mCall lenD (mCons (mVar 2) mNil)) mNil))))))
noncomputable def FPick : List D → Store → R D := runT 3 mPick
theorem pick_tw {ns : List Int} {S : Store} {t n : Nat} {seq : D} {xs : List D} (h63 : ns.length ≤ 63) (h : Twn t n S) (hn : n < 99990) (hs : seq = .lst xs ∨ seq = .tup xs) (hne : xs ≠ []) (hc : ∀ m, cloL m xs = true) : ∃ (i : Nat) (d : D) (S' : Store), xs[i]? = some d ∧ Twn t (n + 2) S' ∧ Dif t S S' ∧ FPick [.scr ns, .loc t, seq] S = .ok d S' := by
  have hl : 0 < xs.length := List.length_pos_iff.mpr hne
  obtain ⟨r, S', a, b, c, e⟩ := draw_tw (many := (xs.length : Int)) h63 h hn (by omega)
  have hr : r < xs.length := by omega
  refine ⟨r, xs[r], S', List.getElem?_eq_getElem hr, b, c, ?_⟩
  have eb : ∃ rho, mPick (frame 3 [.scr ns, .loc t, seq]) S = .ok (.ret xs[r]) rho S' := by
    rw [show frame 3 [.scr ns, .loc t, seq] = [some (.scr ns), some (.loc t), some seq] from rfl]
    unfold mPick
    have ea : atI xs (r : Int) = some xs[r] := atI_nat (List.getElem?_eq_getElem hr)
    rcases hs with rfl | rfl
    · simp [e, ea]
    · simp [e, ea]
  obtain ⟨rho, eb⟩ := eb
  show finT S (mPick (frame 3 _) S) = _
  rw [eb]
  exact c.fin ((cloL_iff _ _).mp (hc _) _ (List.getElem_mem hr))
/-- a loop that may return -/
theorem loop_ret {gm : D → Env → Option Env} {b : SM} (I : Nat → Env → Store → Prop) (Rt : D → Env → Store → Prop) : ∀ (ds : List D) (k : Nat) (r : Env) (S : Store),
    (∀ i d r S, ds[i]? = some d → I (k + i) r S → ∃ r1, gm d r = some r1 ∧ ((∃ r2 S2, b r1 S = .ok .next r2 S2 ∧ I (k + i + 1) r2 S2) ∨ ∃ x r2 S2, b r1 S = .ok (.ret x) r2 S2 ∧ Rt x r2 S2)) →
    I k r S → (∃ r' S', sLoop gm b ds r S = .ok .next r' S' ∧ I (k + ds.length) r' S') ∨ ∃ x r' S', sLoop gm b ds r S = .ok (.ret x) r' S' ∧ Rt x r' S'
  | [], k, r, S, _, h => .inl ⟨r, S, rfl, h⟩
  | d :: ds, k, r, S, st, h => by
    obtain ⟨r1, e1, e2⟩ := st 0 d r S rfl h
    rw [sLoop_cons, e1]
    rcases e2 with ⟨r2, S2, e2, h2⟩ | ⟨x, r2, S2, e2, h2⟩
    · have := loop_ret I Rt ds (k + 1) r2 S2 (fun i d' r S q h => by
        have := st (i + 1) d' r S q
        rw [show k + (i + 1) = k + 1 + i by omega] at this
        exact this h) h2
      simp only [e2]
      rw [List.length_cons, show k + (ds.length + 1) = k + 1 + ds.length by omega]
      exact this
    · simp only [e2]
      exact .inr ⟨x, r2, S2, rfl, h2⟩
/-- the store but for the town, and what is new -/
structure Tq (S S1 : Store) : Prop where
  len : S.length ≤ S1.length
  oth : ∀ i, i < S.length → i ≠ 0 → S1[i]? = S[i]?
theorem Tq.fin {S S1 : Store} {n : Nat} {rho : Env} {d : D} (h0 : 0 < S.length) (h : Tq S S1) (tw : Twn 0 n S1) (hd : clo S.length d = true) : ∃ S', finT S (.ok (.ret d) rho S1) = .ok d S' ∧ Twn 0 n S' ∧ Dif 0 S S' := by
  obtain ⟨ts, t1, t2⟩ := tw
  have tr : Tr S S1 := by
    refine ⟨h.len, fun i o hi e => ?_⟩
    by_cases e0 : i = 0
    · subst e0
      rw [t2] at e
      cases e
      exact .inr (cloL_ints _ _)
    · rw [h.oth i hi e0] at e
      exact .inl e
  have et : S1.take S.length = List.set S 0 (.lst (ts.map D.int)) := by
    refine List.ext_getElem? fun i => ?_
    by_cases hi : i < S.length
    · rw [List.getElem?_take_of_lt hi]
      by_cases e0 : i = 0
      · subst e0
        rw [t2, List.getElem?_set_self hi]
      · rw [h.oth i hi e0, List.getElem?_set_ne (fun e => e0 e.symm)]
    · rw [List.getElem?_eq_none (by rw [List.length_take]; omega), List.getElem?_eq_none (by rw [List.length_set]; omega)]
  refine ⟨_, ?_, ⟨ts, t1, ?_⟩, ⟨ts, et⟩⟩
  · rw [finT_ret tr (fz_clo hd)]
  · rw [et]
    exact List.getElem?_set_self h0
theorem eqv_self {d : D} (h : okD d = true) : eqvD d d = true := by
  unfold okD SeqAt.shaped at h
  rw [Bool.and_eq_true, Bool.and_eq_true] at h
  exact SeqAt.eqv_refl _ h.2.1
end Dv
/-! comprehensions of two fors -/
namespace Dv
open PySem L2
def lcL2 (gm : D → Env → Option Env) (tt : BM) (mi1 : IM) (vs1 : List Nat) (gm1 : D → Env → Option Env) (tt1 : BM) (te : EM) (r0 : Env) : List D → Store → R (List D)
  | [], S => .ok [] S
  | d :: ds, S => match gm d r0 with
    | none => .bad
    | some r1 => (nox (tt r1 S)).bind fun b S1 => if b = true then (nox (mi1 r1 S1)).bind fun es S2 => (lcL gm1 tt1 te (wipeE r1 vs1) es S2).bind fun ys S3 => (lcL2 gm tt mi1 vs1 gm1 tt1 te r0 ds S3).bind fun zs S4 => .ok (ys ++ zs) S4
      else lcL2 gm tt mi1 vs1 gm1 tt1 te r0 ds S1
def lcFin (zs : List D) (S : Store) : R D := if zs.length ≤ 100000 then .ok (.lst zs) S else .bad
def mLc2 (mi : IM) (vs : List Nat) (gm : D → Env → Option Env) (tt : BM) (mi1 : IM) (vs1 : List Nat) (gm1 : D → Env → Option Env) (tt1 : BM) (te : EM) : EM := fun r S => (mi r S).bind fun ds S1 => (lcL2 gm tt mi1 vs1 gm1 tt1 te (wipeE r vs) ds S1).bind fun ys S2 => lcFin ys S2
/-! never raised -/
def noE {α : Type} (x : R α) : Prop := ∀ n S, x ≠ .exc n S
theorem noE_nox {α : Type} (x : R α) : noE (nox x) := by
  cases x <;> intro n S h <;> cases h
theorem noE_bind {α β : Type} {x : R α} {f : α → Store → R β} (hx : noE x) (hf : ∀ a S, noE (f a S)) : noE (x.bind f) := by
  cases x with
  | ok a S => exact hf a S
  | exc n S => exact absurd rfl (hx n S)
  | bad => intro n S h; cases h
theorem noE_ok {α : Type} (a : α) (S : Store) : noE (R.ok a S) := fun n S h => by cases h
theorem noE_lcL {gm : D → Env → Option Env} {tt : BM} {te : EM} {r0 : Env} : ∀ (ds : List D) (S : Store), noE (lcL gm tt te r0 ds S)
  | [], S => noE_ok _ _
  | d :: ds, S => by
    rw [lcL_cons]
    split
    · intro n S h; cases h
    · refine noE_bind (noE_nox _) fun b S1 => ?_
      split
      · exact noE_bind (noE_nox _) fun y S2 => noE_bind (noE_lcL ds S2) fun _ _ => noE_ok _ _
      · exact noE_lcL ds S1
theorem lcL2_cons {gm : D → Env → Option Env} {tt : BM} {mi1 : IM} {vs1 : List Nat} {gm1 : D → Env → Option Env} {tt1 : BM} {te : EM} {r0 : Env} (d : D) (ds : List D) (S : Store) : lcL2 gm tt mi1 vs1 gm1 tt1 te r0 (d :: ds) S = (match gm d r0 with
    | none => .bad
    | some r1 => (nox (tt r1 S)).bind fun b S1 => if b = true then (nox (mi1 r1 S1)).bind fun es S2 => (lcL gm1 tt1 te (wipeE r1 vs1) es S2).bind fun ys S3 => (lcL2 gm tt mi1 vs1 gm1 tt1 te r0 ds S3).bind fun zs S4 => .ok (ys ++ zs) S4
      else lcL2 gm tt mi1 vs1 gm1 tt1 te r0 ds S1) := rfl
theorem noE_lcL2 {gm : D → Env → Option Env} {tt : BM} {mi1 : IM} {vs1 : List Nat} {gm1 : D → Env → Option Env} {tt1 : BM} {te : EM} {r0 : Env} : ∀ (ds : List D) (S : Store), noE (lcL2 gm tt mi1 vs1 gm1 tt1 te r0 ds S)
  | [], S => noE_ok _ _
  | d :: ds, S => by
    rw [lcL2_cons]
    split
    · intro n S h; cases h
    · refine noE_bind (noE_nox _) fun b S1 => ?_
      split
      · exact noE_bind (noE_nox _) fun es S2 => noE_bind (noE_lcL es S2) fun _ S3 => noE_bind (noE_lcL2 ds S3) fun _ _ => noE_ok _ _
      · exact noE_lcL2 ds S1
section
variable {K : PySem.W.Frag} {mg : Str → Option Value} {Wx : WX} {T : Tb} {H : Hp} {g : L2.St}
theorem fin_bound {x : R (List D)} {ys : List D} {Q : VK} (hx : noE x) (h : Out K mg Wx (Rep K) T g H (x.bind fun zs S2 => lcFin (ys ++ zs) S2) Q) : ∃ zs S2, x = .ok zs S2 ∧ ys.length + zs.length ≤ 100000 := by
  cases x with
  | bad => exact h.elim
  | exc n S => exact absurd rfl (hx n S)
  | ok zs S =>
    refine ⟨zs, S, rfl, ?_⟩
    by_cases q : (ys ++ zs).length ≤ 100000
    · rw [List.length_append] at q
      exact q
    · have h : Out K mg Wx (Rep K) T g H (lcFin (ys ++ zs) S) Q := h
      unfold lcFin at h
      rw [if_neg q] at h
      exact h.elim
end
section
variable {X : Cx} {Wx : WX} {elt tg iter tg1 iter1 : Expr} {ifs ifs1 : List Expr} {scope : Scope} {own : List (Str × Nat)} {pos : Pos} {mi mi1 : IM} {sl sl1 vs1 : List Nat} {gm gm1 : D → Env → Option Env} {tt tt1 : BM} {te : EM}
theorem tLc2_of {K : PySem.W.Frag} {mg : Str → Option Value} {vs : List Nat} (hsl : ∀ i ∈ sl, i ∈ vs) (hsl1 : ∀ i ∈ sl1, i ∈ vs1) : ∀ g H Q, tD K mg Wx (mLc2 mi vs gm tt mi1 vs1 gm1 tt1 te) g H Q →
    tLc2 (iD K mg Wx mi) (gD K mg sl gm) (tDT K mg W0 tt) (iD K mg W0 mi1) (gD K mg sl1 gm1) (tDT K mg W0 tt1) (tD K mg W0 te) vs vs1 g H Q := by
  intro g H Q h
  obtain ⟨T, r, S, rs, sim, h⟩ := h
  refine ⟨T, r, S, rs, sim, Out.bind h fun ds S1 T1 H1 J st sim1 rel h1 => ?_⟩
  obtain ⟨wk, hz⟩ := rel
  intro Dl hD
  have hl0 : HLen (upd H1 Dl (.lst [])) := hlen_lst sim1.hl (Nat.zero_le _)
  obtain ⟨kp0, simh⟩ := sim1.hide (u := .lst []) hD hl0
  have rs1 := rs.step st
  -- steps of the hidden table are steps of the open one
  have opn : ∀ {Ta Tb : Tb} {Ha Hb : Hp}, Ta.hid = Dl :: T1.hid → Step T1 H1 ⟨Ta.loc, T1.hid⟩ Ha → Step Ta Ha Tb Hb → Tb.hid = Dl :: T1.hid ∧ Step T1 H1 ⟨Tb.loc, T1.hid⟩ Hb := fun {Ta Tb Ha Hb} e1 s1 s2 => by
    refine ⟨s2.hid.trans e1, s1.trans ⟨s2.ext, rfl, fun b hb => s2.hkeep b (by rw [e1]; exact List.mem_cons_of_mem _ hb), fun b u n q => ?_, s2.new⟩⟩
    by_cases hb : b = Dl
    · subst hb
      rw [s2.hkeep b (by rw [e1]; exact List.mem_cons_self)]
      exact q
    · exact s2.keep b u ⟨n.1, fun z => by
        rw [e1] at z
        exact (List.mem_cons.mp z).elim hb n.2⟩ q
  have kpO : ∀ {T2 : Tb} {H2 : Hp}, T2.hid = Dl :: T1.hid → Step T1 H1 ⟨T2.loc, T1.hid⟩ H2 → Kf T1 H1 T2 H2 := fun {T2 H2} eh st2 => by
    have off2 : ∀ b, T1.off b → H1 b ≠ none → T2.off b := fun b n q => ⟨(st2.out q n).1, fun z => by
      rw [eh] at z
      rcases List.mem_cons.mp z with z | z
      · exact q (by rw [z]; exact hD)
      · exact n.2 z⟩
    exact ⟨⟨fun b u k n q => ⟨st2.keep b u n q, off2 b n (some_ne q)⟩, fun b u n q => ⟨st2.rd q n, off2 b n (rd_some q)⟩, fun n a q => st2.get q⟩, fun b o u n q => ⟨st2.keep b _ n q, off2 b n (some_ne q)⟩⟩
  refine ⟨fun i m H => ∃ T S acc ys, m = ds.length - i ∧ i ≤ ds.length ∧ T.hid = Dl :: T1.hid ∧ Step T1 H1 ⟨T.loc, T1.hid⟩ H ∧ Sim K mg T S H ∧ H Dl = some (.lst acc) ∧ RepL K T H acc ys ∧
    Out K mg Wx (Rep K) T1 g H1 ((lcL2 gm tt mi1 vs1 gm1 tt1 te (wipeE r vs) (ds.drop i) S).bind fun zs S2 => lcFin (ys ++ zs) S2) Q, ⟨ds.length, T1.hide Dl, S1, [], [], by simp, Nat.zero_le _, rfl, sim1.stepNew hD, simh, upd_same, .nil, by simpa using h1⟩, ?_⟩
  rintro i m H2 ⟨T2, S2, acc, ys, rfl, hi, eh, st2, sim2, hD2, ra, ho⟩
  have kf2 : Kf T1 H1 T2 H2 := kpO eh st2
  have kp2 := kf2.toKp
  obtain ⟨stop, go⟩ := wk T2 S2 H2 kf2 sim2
  by_cases hlt : i < ds.length
  · have ed : ds.drop i = ds[i] :: ds.drop (i + 1) := List.drop_eq_getElem_cons hlt
    rw [ed] at ho
    obtain ⟨g1, yl⟩ := go i ds[i] (List.getElem?_eq_getElem hlt)
    refine .inr ⟨g1, fun H => ∃ T S acc ys, T.hid = Dl :: T1.hid ∧ Step T1 H1 ⟨T.loc, T1.hid⟩ H ∧ Sim K mg T S H ∧ H Dl = some (.lst acc) ∧ RepL K T H acc ys ∧
      Out K mg Wx (Rep K) T1 g H1 ((lcL2 gm tt mi1 vs1 gm1 tt1 te (wipeE r vs) (ds.drop (i + 1)) S).bind fun zs S2 => lcFin (ys ++ zs) S2) Q, fun H3 q => ?_, fun x H3 y => ?_⟩
    · obtain ⟨T3, S3, acc3, ys3, q1, q2, q3, q4, q5, q7⟩ := q
      exact ⟨ds.length - (i + 1), by omega, T3, S3, acc3, ys3, rfl, hlt, q1, q2, q3, q4, q5, q7⟩
    · obtain ⟨st3, sim3, rep3⟩ := yl x H3 y
      simp only [lcL2] at ho
      obtain ⟨eh3, op3⟩ := opn eh st2 st3
      have hid3 : Dl ∈ T2.hid := by rw [eh]; exact List.mem_cons_self
      split at ho
      · exact ho.elim
      · rename_i r1 eg
        refine ⟨T2, wipeE r vs, S2, ds[i], r1, ((rs1.wipe vs).kp kp2).step st3, sim3, rep3, eg, fun g4 rs4 lg kg => ⟨wipe_same hsl (by rw [lg, wipe_length]) kg, T2, r1, S2, rs4, sim3, ?_⟩⟩
        rw [R.bind_assoc] at ho
        refine lc_bind ho fun b S4 T4 H4 v st4 sim4 rel4 ho4 => ?_
        subst rel4
        obtain ⟨eh4, op4⟩ := opn eh3 op3 st4
        have hid4 : Dl ∈ T4.hid := by rw [eh4]; exact List.mem_cons_self
        have hD4 : H4 Dl = some (.lst acc) := (st4.hkeep Dl hid3).trans ((st3.hkeep Dl hid3).trans hD2)
        cases v with
        | false =>
          rw [if_neg Bool.false_ne_true] at ho4 ⊢
          exact ⟨T4, S4, acc, ys, eh4, op4, sim4, hD4, ra.step (st3.trans st4), ho4⟩
        | true =>
          rw [if_pos rfl, R.bind_assoc] at ho4
          rw [if_pos rfl]
          -- the inner for
          refine ⟨T4, r1, S4, rs4.step st4, sim4, lc_bind ho4 fun es S5 T5 H5 J1 st5 sim5 rel5 ho5 => ?_⟩
          obtain ⟨wk1, hz1⟩ := rel5
          obtain ⟨eh5, op5⟩ := opn eh4 op4 st5
          have rs5 : RepSt K T5 H5 r1 g4 := (rs4.step st4).step st5
          refine ⟨fun j k H => ∃ T S acc ys, k = es.length - j ∧ j ≤ es.length ∧ T.hid = Dl :: T1.hid ∧ Step T1 H1 ⟨T.loc, T1.hid⟩ H ∧ Kf T5 H5 T H ∧ Sim K mg T S H ∧ H Dl = some (.lst acc) ∧ RepL K T H acc ys ∧
            Out K mg Wx (Rep K) T1 g H1 (((lcL gm1 tt1 te (wipeE r1 vs1) (es.drop j) S).bind fun ys S3 => (lcL2 gm tt mi1 vs1 gm1 tt1 te (wipeE r vs) (ds.drop (i + 1)) S3).bind fun zs S4 => .ok (ys ++ zs) S4).bind fun zs S2 => lcFin (ys ++ zs) S2) Q,
            ⟨es.length, T5, S5, acc, ys, by simp, Nat.zero_le _, eh5, op5, (Step.refl T5 H5).kf, sim5, (st5.hkeep Dl hid4).trans hD4, ra.step ((st3.trans st4).trans st5), by rw [List.drop_zero]; exact ho5⟩, ?_⟩
          rintro j k H6 ⟨T6, S6, acc6, ys6, rfl, hj, eh6, st6, kp6, sim6, hD6, ra6, ho6⟩
          obtain ⟨stop1, go1⟩ := wk1 T6 S6 H6 kp6 sim6
          by_cases hlt1 : j < es.length
          · have ed1 : es.drop j = es[j] :: es.drop (j + 1) := List.drop_eq_getElem_cons hlt1
            rw [ed1] at ho6
            obtain ⟨g7, yl1⟩ := go1 j es[j] (List.getElem?_eq_getElem hlt1)
            refine .inr ⟨g7, fun H => ∃ T S acc ys, T.hid = Dl :: T1.hid ∧ Step T1 H1 ⟨T.loc, T1.hid⟩ H ∧ Kf T5 H5 T H ∧ Sim K mg T S H ∧ H Dl = some (.lst acc) ∧ RepL K T H acc ys ∧
              Out K mg Wx (Rep K) T1 g H1 (((lcL gm1 tt1 te (wipeE r1 vs1) (es.drop (j + 1)) S).bind fun ys S3 => (lcL2 gm tt mi1 vs1 gm1 tt1 te (wipeE r vs) (ds.drop (i + 1)) S3).bind fun zs S4 => .ok (ys ++ zs) S4).bind fun zs S2 => lcFin (ys ++ zs) S2) Q, fun H7 q => ?_, fun x7 H7 y7 => ?_⟩
            · obtain ⟨T8, S8, acc8, ys8, q1, q2, q3, q4, q5, q6, q7⟩ := q
              exact ⟨es.length - (j + 1), by omega, T8, S8, acc8, ys8, rfl, hlt1, q1, q2, q3, q4, q5, q6, q7⟩
            · obtain ⟨st7, sim7, rep7⟩ := yl1 x7 H7 y7
              have noe := noE_bind (noE_lcL (gm := gm1) (tt := tt1) (te := te) (r0 := wipeE r1 vs1) (es[j] :: es.drop (j + 1)) S6) fun ys S3 => noE_bind (noE_lcL2 (gm := gm) (tt := tt) (mi1 := mi1) (vs1 := vs1) (gm1 := gm1) (tt1 := tt1) (te := te) (r0 := wipeE r vs) (ds.drop (i + 1)) S3) fun zs S4 => noE_ok (ys ++ zs) S4
              obtain ⟨zz, Sz, ez, hzz⟩ := fin_bound noe ho6
              simp only [lcL] at ho6 ez
              obtain ⟨eh7, op7⟩ := opn eh6 st6 st7
              have hid7 : Dl ∈ T6.hid := by rw [eh6]; exact List.mem_cons_self
              split at ho6
              · exact ho6.elim
              · rename_i r8 eg8
                rw [eg8] at ez
                simp only at ez
                refine ⟨T6, wipeE r1 vs1, S6, es[j], r8, ((rs5.wipe vs1).kp kp6.toKp).step st7, sim7, rep7, eg8, fun g9 rs9 lg9 kg9 => ⟨wipe_same hsl1 (by rw [lg9, wipe_length]) kg9, T6, r8, S6, rs9, sim7, ?_⟩⟩
                rw [R.bind_assoc, R.bind_assoc] at ho6
                refine lc_bind (x := tt1 r8 S6) ho6 fun b S9 T9 H9 v st9 sim9 rel9 ho9 => ?_
                subst rel9
                obtain ⟨eh9, op9⟩ := opn eh7 op7 st9
                have hid9 : Dl ∈ T9.hid := by rw [eh9]; exact List.mem_cons_self
                have hD9 : H9 Dl = some (.lst acc6) := (st9.hkeep Dl hid7).trans ((st7.hkeep Dl hid7).trans hD6)
                cases v with
                | false =>
                  rw [if_neg Bool.false_ne_true] at ho9 ⊢
                  exact ⟨T9, S9, acc6, ys6, eh9, op9, kp6.trans (st7.trans st9).kf, sim9, hD9, ra6.step (st7.trans st9), by rw [R.bind_assoc]; exact ho9⟩
                | true =>
                  rw [if_pos rfl, R.bind_assoc] at ho9
                  rw [if_pos rfl]
                  refine ⟨T9, r8, S9, rs9.step st9, sim9, lc_bind ho9 fun yd Sa Ta Ha yv sta sima rela hoa => ?_⟩
                  obtain ⟨eha, opa⟩ := opn eh9 op9 sta
                  have hida : Dl ∈ Ta.hid := by rw [eha]; exact List.mem_cons_self
                  have raa : RepL K Ta Ha acc6 ys6 := ra6.step ((st7.trans st9).trans sta)
                  have e5 : (fun zs S2 => lcFin (ys6 ++ [yd] ++ zs) S2) = fun zs S2 => (R.ok (yd :: zs) S2).bind fun zs S2 => lcFin (ys6 ++ zs) S2 := by
                    funext zs S2
                    show _ = lcFin (ys6 ++ (yd :: zs)) S2
                    rw [List.append_assoc]
                    rfl
                  have hoa' : Out K mg Wx (Rep K) T1 g H1 (((lcL gm1 tt1 te (wipeE r1 vs1) (es.drop (j + 1)) Sa).bind fun ys S3 => (lcL2 gm tt mi1 vs1 gm1 tt1 te (wipeE r vs) (ds.drop (i + 1)) S3).bind fun zs S4 => .ok (ys ++ zs) S4).bind fun zs S2 => lcFin (ys6 ++ [yd] ++ zs) S2) Q := by
                    have e6 : ((lcL gm1 tt1 te (wipeE r1 vs1) (es.drop (j + 1)) Sa).bind fun ys S3 => (lcL2 gm tt mi1 vs1 gm1 tt1 te (wipeE r vs) (ds.drop (i + 1)) S3).bind fun zs S4 => R.ok (ys ++ zs) S4).bind (fun zs S2 => lcFin (ys6 ++ [yd] ++ zs) S2) =
                        ((lcL gm1 tt1 te (wipeE r1 vs1) (es.drop (j + 1)) Sa).bind fun ys S3 => R.ok (yd :: ys) S3).bind fun a S => ((lcL2 gm tt mi1 vs1 gm1 tt1 te (wipeE r vs) (ds.drop (i + 1)) S).bind fun zs S4 => R.ok (a ++ zs) S4).bind fun zs S2 => lcFin (ys6 ++ zs) S2 := by
                      cases lcL gm1 tt1 te (wipeE r1 vs1) (es.drop (j + 1)) Sa with
                      | bad => rfl
                      | exc n S => rfl
                      | ok q Sq =>
                        show (((lcL2 gm tt mi1 vs1 gm1 tt1 te (wipeE r vs) (ds.drop (i + 1)) Sq).bind fun zs S4 => R.ok (q ++ zs) S4).bind fun zs S2 => lcFin (ys6 ++ [yd] ++ zs) S2) = (((lcL2 gm tt mi1 vs1 gm1 tt1 te (wipeE r vs) (ds.drop (i + 1)) Sq).bind fun zs S4 => R.ok (yd :: q ++ zs) S4).bind fun zs S2 => lcFin (ys6 ++ zs) S2)
                        cases lcL2 gm tt mi1 vs1 gm1 tt1 te (wipeE r vs) (ds.drop (i + 1)) Sq with
                        | bad => rfl
                        | exc n S => rfl
                        | ok q2 Sq2 =>
                          show lcFin (ys6 ++ [yd] ++ (q ++ q2)) Sq2 = lcFin (ys6 ++ (yd :: q ++ q2)) Sq2
                          simp
                    rw [e6]
                    exact hoa
                  have noea := noE_bind (noE_lcL (gm := gm1) (tt := tt1) (te := te) (r0 := wipeE r1 vs1) (es.drop (j + 1)) Sa) fun ys S3 => noE_bind (noE_lcL2 (gm := gm) (tt := tt) (mi1 := mi1) (vs1 := vs1) (gm1 := gm1) (tt1 := tt1) (te := te) (r0 := wipeE r vs) (ds.drop (i + 1)) S3) fun zs S4 => noE_ok (ys ++ zs) S4
                  obtain ⟨za, Sz2, _, hza⟩ := fin_bound noea hoa'
                  rw [List.length_append, List.length_singleton] at hza
                  have hal : acc6.length + 1 ≤ sizeLine := by rw [raa.length]; exact sz5 (by omega)
                  have hla : HLen (upd Ha Dl (.lst (acc6 ++ [yv]))) := hlen_lst sima.hl (by rw [List.length_append, List.length_singleton]; exact hal)
                  obtain ⟨kpa, simb⟩ := sima.setHid (u := .lst (acc6 ++ [yv])) hida hla
                  refine ⟨acc6, (sta.hkeep Dl hid9).trans hD9, hal, Ta, Sa, acc6 ++ [yv], ys6 ++ [yd], eha, ⟨opa.ext, rfl, fun b hb => ?_, fun b u n q => ?_, opa.new⟩, (kp6.trans ((st7.trans st9).trans sta).kf).trans kpa, simb, upd_same, RepL.append (raa.kp kpa.toKp) (.cons (rela.kp kpa.toKp) .nil), hoa'⟩
                  · rw [upd_ne fun e => sim1.hid b hb (by rw [e]; exact hD)]
                    exact opa.hkeep b hb
                  · rw [upd_ne (ne_of_none q hD)]
                    exact opa.keep b u n q
          · have e : j = es.length := by omega
            subst e
            rw [List.drop_length] at ho6
            refine .inl ⟨stop1, T6, S6, acc6, ys6, eh6, st6, sim6, hD6, ra6, ?_⟩
            have e7 : (lcL gm1 tt1 te (wipeE r1 vs1) [] S6).bind (fun ys S3 => (lcL2 gm tt mi1 vs1 gm1 tt1 te (wipeE r vs) (ds.drop (i + 1)) S3).bind fun zs S4 => R.ok (ys ++ zs) S4) = lcL2 gm tt mi1 vs1 gm1 tt1 te (wipeE r vs) (ds.drop (i + 1)) S6 := by
              show (lcL2 gm tt mi1 vs1 gm1 tt1 te (wipeE r vs) (ds.drop (i + 1)) S6).bind (fun zs S4 => R.ok zs S4) = _
              cases lcL2 gm tt mi1 vs1 gm1 tt1 te (wipeE r vs) (ds.drop (i + 1)) S6 <;> rfl
            rw [e7] at ho6
            exact ho6
  · have e : i = ds.length := by omega
    subst e
    rw [List.drop_length] at ho
    have ho : Out K mg Wx (Rep K) T1 g H1 (lcFin (ys ++ []) S2) Q := ho
    unfold lcFin at ho
    split at ho
    · refine .inl ⟨stop, ho ⟨T2.loc, T1.hid⟩ H2 _ st2 ?_ ?_⟩
      · have h9 := sim2
        obtain ⟨l2, h2⟩ := T2
        cases eh
        exact h9.unhide
      · obtain ⟨l2, h2⟩ := T2
        cases eh
        rw [List.append_nil]
        refine .lst hD2 ⟨fun z => ?_, fun z => ?_⟩ (ra.kp kp_unhide)
        · exact sim2.apart z List.mem_cons_self
        · have nd := (List.nodup_append.mp sim2.nd).2.1
          exact (List.nodup_cons.mp nd).1 z
    · exact ho.elim
theorem j_lc2 (hsl : ∀ i ∈ sl, i ∈ own.map (·.2)) (hsl1 : ∀ i ∈ sl1, i ∈ vs1) (hv : ∀ i ∈ vs1, i ∈ own.map (·.2)) (hc : X.calm = true) (hN : X.N.Nodup) (hi : PI X tg iter (iD X.K X.mg Wx mi)) (ok : BlkOk X.N X.env.scope scope own)
    (hg : ∀ (s : Shared) (H : Hp) (C : Addr) (cl : List (Str × Addr)) (fp : List Addr), PG (X.blk s H scope (compEnvC scope cl C X.env) fp) tg (gD X.K X.mg sl gm)) (ht : ∀ (s : Shared) (H : Hp) (C : Addr) (cl : List (Str × Addr)) (fp : List Addr), PTs (X.blk s H scope (compEnvC scope cl C X.env) fp) ifs (tDT X.K X.mg W0 tt))
    (hi1 : ∀ (s : Shared) (H : Hp) (C : Addr) (cl : List (Str × Addr)) (fp : List Addr), PI (X.blk s H scope (compEnvC scope cl C X.env) fp) tg1 iter1 (iD X.K X.mg W0 mi1))
    (hg1 : ∀ (s : Shared) (H : Hp) (C : Addr) (cl : List (Str × Addr)) (fp : List Addr), PG (X.blk s H scope (compEnvC scope cl C X.env) fp) tg1 (gD X.K X.mg sl1 gm1)) (ht1 : ∀ (s : Shared) (H : Hp) (C : Addr) (cl : List (Str × Addr)) (fp : List Addr), PTs (X.blk s H scope (compEnvC scope cl C X.env) fp) ifs1 (tDT X.K X.mg W0 tt1))
    (he : ∀ (s : Shared) (H : Hp) (C : Addr) (cl : List (Str × Addr)) (fp : List Addr), PE (X.blk s H scope (compEnvC scope cl C X.env) fp) elt (tD X.K X.mg W0 te)) (hs : ∀ x, foldedSetIterable iter X.env x = pure x := by intro _; rfl) (hs1 : ∀ env x, foldedSetIterable iter1 env x = pure x := by intro _ _; rfl) :
    PE X (.ListComp elt [⟨tg, iter, ifs, 0⟩, ⟨tg1, iter1, ifs1, 0⟩] scope pos) (tD X.K X.mg Wx (mLc2 mi (own.map (·.2)) gm tt mi1 vs1 gm1 tt1 te)) := pe_imp (pe_lc2 hc hN hi ok hv hg ht hi1 hg1 ht1 he hs hs1) (tLc2_of hsl hsl1)
theorem js_setLc2 {i : Nat} {y : Str} {py spos : Pos} (hsl : ∀ i ∈ sl, i ∈ own.map (·.2)) (hsl1 : ∀ i ∈ sl1, i ∈ vs1) (hv : ∀ i ∈ vs1, i ∈ own.map (·.2)) (hc : X.calm = true) (hN : X.N.Nodup) (hy : X.N[i]? = some y) (hyl : X.env.scope.names.lookup y = some .local)
    (hsw : swapsWith (.ListComp elt [⟨tg, iter, ifs, 0⟩, ⟨tg1, iter1, ifs1, 0⟩] scope pos) (some (.Name y py)) spos.line X.env = pure true) (hi : PI X tg iter (iD X.K X.mg Wx mi)) (ok : BlkOk X.N X.env.scope scope own)
    (hg : ∀ (s : Shared) (H : Hp) (C : Addr) (cl : List (Str × Addr)) (fp : List Addr), PG (X.blk s H scope (compEnvC scope cl C X.env) fp) tg (gD X.K X.mg sl gm)) (ht : ∀ (s : Shared) (H : Hp) (C : Addr) (cl : List (Str × Addr)) (fp : List Addr), PTs (X.blk s H scope (compEnvC scope cl C X.env) fp) ifs (tDT X.K X.mg W0 tt))
    (hi1 : ∀ (s : Shared) (H : Hp) (C : Addr) (cl : List (Str × Addr)) (fp : List Addr), PI (X.blk s H scope (compEnvC scope cl C X.env) fp) tg1 iter1 (iD X.K X.mg W0 mi1))
    (hg1 : ∀ (s : Shared) (H : Hp) (C : Addr) (cl : List (Str × Addr)) (fp : List Addr), PG (X.blk s H scope (compEnvC scope cl C X.env) fp) tg1 (gD X.K X.mg sl1 gm1)) (ht1 : ∀ (s : Shared) (H : Hp) (C : Addr) (cl : List (Str × Addr)) (fp : List Addr), PTs (X.blk s H scope (compEnvC scope cl C X.env) fp) ifs1 (tDT X.K X.mg W0 tt1))
    (he : ∀ (s : Shared) (H : Hp) (C : Addr) (cl : List (Str × Addr)) (fp : List Addr), PE (X.blk s H scope (compEnvC scope cl C X.env) fp) elt (tD X.K X.mg W0 te)) (hs : ∀ x, foldedSetIterable iter X.env x = pure x := by intro _; rfl) (hs1 : ∀ env x, foldedSetIterable iter1 env x = pure x := by intro _ _; rfl) :
    PS X (.Assign [.Name y py] (.ListComp elt [⟨tg, iter, ifs, 0⟩, ⟨tg1, iter1, ifs1, 0⟩] scope pos) spos) (tDS X.K X.mg Wx (sSet i (mLc2 mi (own.map (·.2)) gm tt mi1 vs1 gm1 tt1 te))) :=
  ps_imp (ps_setLc2 hc hN hy hyl hsw hi ok hv hg ht hi1 hg1 ht1 he hs hs1) fun E g H h => by
    obtain ⟨T, r, S, rs, sim, h⟩ := h
    refine tLc2_of hsl hsl1 g H _ ⟨T, r, S, rs, sim, ZOut.bind h rs fun d S1 T1 H1 v st sim1 rel rs1 h1 => ?_⟩
    exact h1.nx sim1 (rs1.set rel)
end
end Dv
namespace Dv
open PySem L2
def keyD : Key → D
  | .inl i => .int i
  | .inr x => .str x
def keyOf : D → Option Key
  | .int i => some (.inl i)
  | .str x => some (.inr x)
  | _ => none
@[simp] theorem keyOf_int (i : Int) : keyOf (.int i) = some (.inl i) := rfl
@[simp] theorem keyOf_str (x : Str) : keyOf (.str x) = some (.inr x) := rfl
def valKD (kds : List (Key × D)) (k : Key) : Option D := (kds.find? fun kv => decide (kv.1 = k)).map (·.2)
def putKD (kds : List (Key × D)) (k : Key) (d : D) : List (Key × D) :=
  if (kds.any fun kv => decide (kv.1 = k)) = true then kds.map fun kv => if kv.1 = k then (kv.1, d) else kv else kds ++ [(k, d)]
section
variable {K : PySem.W.Frag} {mg : Str → Option Value} {T : Tb} {H : Hp} {S : Store}
theorem key_rep {v : V} {d : D} {k : Key} (h : Rep K T H v d) (e : keyOf d = some k) : v = kV k := by
  cases h <;> cases e <;> rfl
theorem rep_key (k : Key) : Rep K T H (kV k) (keyD k) := by
  cases k with
  | inl i => exact .int i
  | inr x => exact .str x
def RepK (K : PySem.W.Frag) (T : Tb) (H : Hp) (kvs : List (Key × V)) (kds : List (Key × D)) : Prop := kvs.map (·.1) = kds.map (·.1) ∧ RepL K T H (kvs.map (·.2)) (kds.map (·.2))
theorem RepK.nil : RepK K T H [] [] := ⟨rfl, .nil⟩
theorem RepK.uncons {kvs : List (Key × V)} {k : Key} {d : D} {kds : List (Key × D)} (h : RepK K T H kvs ((k, d) :: kds)) : ∃ v r, kvs = (k, v) :: r ∧ Rep K T H v d ∧ RepK K T H r kds := by
  obtain ⟨h1, h2⟩ := h
  cases kvs with
  | nil => cases h1
  | cons p r =>
    obtain ⟨k', v⟩ := p
    rw [List.map_cons, List.map_cons, List.cons.injEq] at h1
    obtain ⟨rfl, h1⟩ := h1
    cases h2 with
    | cons a b => exact ⟨v, r, rfl, a, h1, b⟩
theorem RepK.cons {kvs : List (Key × V)} {k : Key} {v : V} {d : D} {kds : List (Key × D)} (a : Rep K T H v d) (h : RepK K T H kvs kds) : RepK K T H ((k, v) :: kvs) ((k, d) :: kds) := ⟨by rw [List.map_cons, List.map_cons, h.1], .cons a h.2⟩
theorem RepK.kp {T' : Tb} {H' : Hp} {kvs : List (Key × V)} {kds : List (Key × D)} (s : Kp T H T' H') (h : RepK K T H kvs kds) : RepK K T' H' kvs kds := ⟨h.1, h.2.kp s⟩
theorem RepK.step {T' : Tb} {H' : Hp} {kvs : List (Key × V)} {kds : List (Key × D)} (s : Step T H T' H') (h : RepK K T H kvs kds) : RepK K T' H' kvs kds := h.kp s.kp
theorem RepK.length {kvs : List (Key × V)} {kds : List (Key × D)} (h : RepK K T H kvs kds) : kvs.length = kds.length := by
  have := congrArg List.length h.1
  simpa using this
theorem RepK.val (k : Key) : ∀ {kds : List (Key × D)} {kvs : List (Key × V)}, RepK K T H kvs kds → (valV kvs k = none ∧ valKD kds k = none) ∨ ∃ v d, valV kvs k = some v ∧ valKD kds k = some d ∧ Rep K T H v d
  | [], kvs, h => by
    have : kvs = [] := List.eq_nil_of_length_eq_zero (by rw [h.length]; rfl)
    subst this
    exact .inl ⟨rfl, rfl⟩
  | (k', d) :: kds, kvs, h => by
    obtain ⟨v, r, rfl, a, b⟩ := h.uncons
    by_cases e : k' = k
    · refine .inr ⟨v, d, valV_pos e, ?_, a⟩
      unfold valKD
      simp [List.find?_cons, e]
    · have e2 : valKD ((k', d) :: kds) k = valKD kds k := by
        unfold valKD
        simp [List.find?_cons, e]
      rw [valV_neg (p := (k', v)) e, e2]
      exact b.val k
theorem RepK.any (k : Key) : ∀ {kds : List (Key × D)} {kvs : List (Key × V)}, RepK K T H kvs kds → (kvs.any fun kv => decide (kv.1 = k)) = kds.any fun kv => decide (kv.1 = k)
  | [], kvs, h => by
    have : kvs = [] := List.eq_nil_of_length_eq_zero (by rw [h.length]; rfl)
    subst this
    rfl
  | (k', d) :: kds, kvs, h => by
    obtain ⟨v, r, rfl, a, b⟩ := h.uncons
    rw [List.any_cons, List.any_cons, b.any k]
theorem RepK.repl {v : V} {d : D} (rv : Rep K T H v d) (k : Key) : ∀ {kds : List (Key × D)} {kvs : List (Key × V)}, RepK K T H kvs kds → RepK K T H (kvs.map fun kv => if kv.1 = k then (kv.1, v) else kv) (kds.map fun kv => if kv.1 = k then (kv.1, d) else kv)
  | [], kvs, h => by
    have : kvs = [] := List.eq_nil_of_length_eq_zero (by rw [h.length]; rfl)
    subst this
    exact .nil
  | (k', d') :: kds, kvs, h => by
    obtain ⟨v', r, rfl, a, b⟩ := h.uncons
    rw [List.map_cons, List.map_cons]
    by_cases e : k' = k
    · simp only [e, if_true]
      exact .cons rv (b.repl rv k)
    · simp only [e, if_false]
      exact .cons a (b.repl rv k)
theorem RepK.snoc {v : V} {d : D} {k : Key} {kds : List (Key × D)} {kvs : List (Key × V)} (h : RepK K T H kvs kds) (rv : Rep K T H v d) : RepK K T H (kvs ++ [(k, v)]) (kds ++ [(k, d)]) := ⟨by rw [List.map_append, List.map_append, h.1]; rfl, by
  rw [List.map_append, List.map_append]
  exact RepL.append h.2 (.cons rv .nil)⟩
theorem RepK.put {v : V} {d : D} {kds : List (Key × D)} {kvs : List (Key × V)} (h : RepK K T H kvs kds) (k : Key) (rv : Rep K T H v d) : RepK K T H (putK kvs k v) (putKD kds k d) := by
  unfold putK putKD
  rw [h.any k]
  split
  · exact h.repl rv k
  · exact h.snoc rv
/-- what a dict holds -/
def dctAt (d : D) (S : Store) : Option (List (Key × D)) := match d with
  | .dct kds => some kds
  | .loc n => match S[n]? with
    | some (.dct kds) => some kds
    | _ => none
  | _ => none
@[simp] theorem dctAt_dct (kds : List (Key × D)) (S : Store) : dctAt (.dct kds) S = some kds := rfl
@[simp] theorem dctAt_loc (n : Nat) (S : Store) : dctAt (.loc n) S = (match S[n]? with
    | some (.dct kds) => some kds
    | _ => none) := rfl
theorem dctAt_rep {v : V} {d : D} {kds : List (Key × D)} (sim : Sim K mg T S H) (r : Rep K T H v d) (e : dctAt d S = some kds) : ∃ a kvs, v = .ref a ∧ Rd H a (.dK kvs) ∧ RepK K T H kvs kds := by
  cases r with
  | dct h n e' r' =>
    cases e
    exact ⟨_, _, rfl, h, e', r'⟩
  | @loc a n h =>
    simp only [dctAt] at e
    split at e
    · rename_i ys hs
      cases e
      obtain ⟨kvs, h1, h2, h3⟩ := sim.obj n a _ h hs
      exact ⟨a, kvs, rfl, .inl h1, h2, h3⟩
    · cases e
  | _ => cases e
end
/-! ### d[k] -/
def dgetD (a b : D) (S : Store) : Option D := match dctAt a S, keyOf b with
  | some kds, some k => valKD kds k
  | _, _ => none
section
variable {X : Cx} {Wx : WX} {o i e f : Expr} {pos apos cpos : Pos} {mo mi mx : EM}
theorem j_dget (hu : X.A.units + 64 < cLine) (hs : NoSl i) (ho : PE X o (tD X.K X.mg Wx mo)) (hi : PE X i (tD X.K X.mg Wx mi)) : PE X (.Subscript o i pos) (tD X.K X.mg Wx (mBin dgetD mo mi)) := by
  refine pe_imp (pe_dget (by omega) ho hi hs) fun g H Q h => ?_
  obtain ⟨T, r, S, rs, sim, h⟩ := h
  refine ⟨T, r, S, rs, sim, Out.bind h fun x S1 T1 H1 v st sim1 rel h1 => ?_⟩
  refine ⟨T1, r, S1, rs.step st, sim1, Out.bind h1 fun y S2 T2 H2 w st2 sim2 rel2 h2 => ?_⟩
  refine Out.use h2 fun d e k => ?_
  unfold dgetD at e
  split at e
  · rename_i kds key e1 e2
    obtain ⟨a, kvs, rfl, hr, rk⟩ := dctAt_rep sim2 (rel.step st2) e1
    have ew := key_rep rel2 e2
    subst ew
    rcases rk.val key with ⟨_, z⟩ | ⟨v', d', z1, z2, z3⟩
    · rw [z] at e
      cases e
    · rw [z2] at e
      cases e
      exact ⟨a, v', rfl, .inl ⟨kvs, key, hr, rfl, z1.symm⟩, k T2 H2 v' (Step.refl T2 H2) sim2 z3⟩
  · cases e
/-! ### d.get(k, x) -/
def mDGet2 (mo mi mx : EM) : EM := fun r S => (mo r S).bind fun o S1 => if (dctAt o S1).isSome = true then (mi r S1).bind fun y S2 => (mx r S2).bind fun z S3 => match dctAt o S3, keyOf y with
  | some kds, some k => .ok ((valKD kds k).getD z) S3
  | _, _ => .bad else .bad
theorem j_dget2 (hu : X.A.units + 64 < cLine) (ho : PE X o (tD X.K X.mg Wx mo)) (he : PE X e (tD X.K X.mg Wx mi)) (hf : PE X f (tD X.K X.mg Wx mx)) (m : M2 X o "get" apos e f cpos) : PE X (.Call (.Attribute o "get" apos) [e, f] [] cpos) (tD X.K X.mg Wx (mDGet2 mo mi mx)) := by
  refine pe_imp (pe_dget2 (by omega) ho he hf m) fun g H Q h => ?_
  obtain ⟨T, r, S, rs, sim, h⟩ := h
  refine ⟨T, r, S, rs, sim, Out.bind h fun x S1 T1 H1 v st sim1 rel h1 => ?_⟩
  by_cases hd : (dctAt x S1).isSome = true
  · rw [if_pos hd] at h1
    obtain ⟨kds0, e0⟩ := Option.isSome_iff_exists.mp hd
    obtain ⟨a, kvs0, rfl, hr0, _⟩ := dctAt_rep sim1 rel e0
    refine ⟨a, rfl, .inl ⟨kvs0, hr0⟩, T1, r, S1, rs.step st, sim1, Out.bind h1 fun y S2 T2 H2 w st2 sim2 rel2 h2 => ?_⟩
    refine ⟨T2, r, S2, (rs.step st).step st2, sim2, Out.bind h2 fun z S3 T3 H3 u st3 sim3 rel3 h3 => ?_⟩
    split at h3
    · rename_i kds key e1 e2
      obtain ⟨a', kvs, ea, hr, rk⟩ := dctAt_rep sim3 ((rel.step st2).step st3) e1
      cases ea
      have ew := key_rep rel2 e2
      subst ew
      refine ⟨valV kvs key, .inl ⟨kvs, key, hr, rfl, rfl⟩, h3 T3 H3 _ (Step.refl T3 H3) sim3 ?_⟩
      rcases rk.val key with ⟨z1, z2⟩ | ⟨v', d', z1, z2, z3⟩
      · rw [z1, z2]
        exact rel3
      · rw [z1, z2]
        exact z3
    · exact h3.elim
  · rw [if_neg hd] at h1
    exact h1.elim
/-! ### {} -/
def mNewD0 : EM := fun _ S => .ok (.loc S.length) (S ++ [.dct []])
theorem j_newD0 : PE X (.Dict [] [] pos) (tD X.K X.mg Wx mNewD0) := by
  refine pe_imp pe_dnewK fun g H Q h => ?_
  obtain ⟨T, r, S, rs, sim, h⟩ := h
  intro p hp
  have st : Step T H (T.add p) (upd H p (.dK [])) := sim.stepAlloc hp
  have hl : HLen (upd H p (.dK [])) := hlen_oth sim.hl fun xs => ⟨(by intro z; cases z), (by intro z; cases z), (by intro x z; cases z), (by intro x z; cases z)⟩
  exact h (T.add p) _ _ st (sim.alloc hp hl ⟨[], upd_same, rfl, .nil⟩) (.loc sim.newGet)
def mDct0 : EM := fun _ S => .ok (.dct []) S
theorem j_dct0 : PE X (.Dict [] [] pos) (tD X.K X.mg Wx mDct0) := by
  refine pe_imp pe_dnewK fun g H Q h => ?_
  obtain ⟨T, r, S, rs, sim, h⟩ := h
  intro p hp
  have st : Step T H T (upd H p (.dK [])) := sim.stepNew hp
  have hl : HLen (upd H p (.dK [])) := hlen_oth sim.hl fun xs => ⟨(by intro z; cases z), (by intro z; cases z), (by intro x z; cases z), (by intro x z; cases z)⟩
  exact h T _ _ st (sim.new hp hl) (.dct (.inl upd_same) (sim.off hp) rfl .nil)
end
end Dv
/-! dict comprehensions -/
namespace Dv
open PySem L2
def dcL (gm : D → Env → Option Env) (tt : BM) (tk tv : EM) (r0 : Env) : List D → List (Key × D) → Store → R (List (Key × D))
  | [], acc, S => .ok acc S
  | d :: ds, acc, S => match gm d r0 with
    | none => .bad
    | some r1 => (nox (tt r1 S)).bind fun b S1 => if b = true then (nox (tk r1 S1)).bind fun k S2 => (nox (tv r1 S2)).bind fun v S3 => match keyOf k with
        | some key => if acc.length < 90000 then dcL gm tt tk tv r0 ds (putKD acc key v) S3 else .bad
        | none => .bad
      else dcL gm tt tk tv r0 ds acc S1
/-- the dict as one that may change, or not -/
def dFin (nw : Bool) (kds : List (Key × D)) (S : Store) : R D := match nw with
  | true => .ok (.loc S.length) (S ++ [.dct kds])
  | false => .ok (.dct kds) S
@[simp] theorem dFin_t (kds : List (Key × D)) (S : Store) : dFin true kds S = .ok (.loc S.length) (S ++ [.dct kds]) := rfl
@[simp] theorem dFin_f (kds : List (Key × D)) (S : Store) : dFin false kds S = .ok (.dct kds) S := rfl
def mDc (nw : Bool) (mi : IM) (vs : List Nat) (gm : D → Env → Option Env) (tt : BM) (tk tv : EM) : EM := fun r S => (mi r S).bind fun ds S1 => (dcL gm tt tk tv (wipeE r vs) ds [] S1).bind fun kds S2 => dFin nw kds S2
def itemsOf (kds : List (Key × D)) : List D := kds.map fun kv => .tup [keyD kv.1, kv.2]
def mItems (i : Nat) : IM := fun r S => match r[i]? with
  | some (some (.dct kds)) => if kds.length ≤ 90000 then .ok (itemsOf kds) S else .bad
  | _ => .bad
@[simp] theorem mDc_ap {nw : Bool} {mi : IM} {vs : List Nat} {gm : D → Env → Option Env} {tt : BM} {tk tv : EM} {r : Env} {S : Store} : mDc nw mi vs gm tt tk tv r S = (mi r S).bind fun ds S1 => (dcL gm tt tk tv (wipeE r vs) ds [] S1).bind fun kds S2 => dFin nw kds S2 := rfl
theorem dcL_cons {gm : D → Env → Option Env} {tt : BM} {tk tv : EM} {r0 : Env} (d : D) (ds : List D) (acc : List (Key × D)) (S : Store) : dcL gm tt tk tv r0 (d :: ds) acc S = (match gm d r0 with
    | none => .bad
    | some r1 => (nox (tt r1 S)).bind fun b S1 => if b = true then (nox (tk r1 S1)).bind fun k S2 => (nox (tv r1 S2)).bind fun v S3 => match keyOf k with
        | some key => if acc.length < 90000 then dcL gm tt tk tv r0 ds (putKD acc key v) S3 else .bad
        | none => .bad
      else dcL gm tt tk tv r0 ds acc S1) := rfl
theorem putKD_len (kds : List (Key × D)) (k : Key) (d : D) : (putKD kds k d).length ≤ kds.length + 1 := by
  unfold putKD
  split
  · rw [List.length_map]
    omega
  · rw [List.length_append, List.length_singleton]
    exact Nat.le_refl _
theorem nodict {H : Hp} {p : Addr} {kvs : List (Key × V)} (h : HLen H) : HLen (upd H p (.dK kvs)) := hlen_oth h fun xs => ⟨(by intro z; cases z), (by intro z; cases z), (by intro x z; cases z), (by intro x z; cases z)⟩
section
variable {K : PySem.W.Frag} {mg : Str → Option Value} {T : Tb} {H : Hp}
/-- what was hidden is the newest of the store -/
theorem Sim.unhideNew {S : Store} {p : Addr} {l h : List Addr} {o : O} (s : Sim K mg ⟨l, p :: h⟩ S H) (ho : ORep K mg ⟨l ++ [p], h⟩ H p o) : Sim K mg ⟨l ++ [p], h⟩ (S ++ [o]) H := by
  have h0 := List.nodup_append.mp s.nd
  have pl : p ∉ l := fun z => h0.2.2 p z p List.mem_cons_self rfl
  have kp : Kp ⟨l, p :: h⟩ H ⟨l ++ [p], h⟩ H := by
    have off : ∀ b, (Tb.mk l (p :: h)).off b → (Tb.mk (l ++ [p]) h).off b := fun b n => ⟨fun z => by
      rcases List.mem_append.mp z with z | z
      · exact n.1 z
      · exact n.2 (by rw [List.mem_singleton.mp z]; exact List.mem_cons_self), fun z => n.2 (List.mem_cons_of_mem _ z)⟩
    refine ⟨fun b _ _ n q => ⟨q, off b n⟩, fun b _ n q => ⟨q, off b n⟩, fun n a q => ?_⟩
    have q : l[n]? = some a := q
    show (l ++ [p])[n]? = some a
    rw [List.getElem?_append_left (List.getElem?_eq_some_iff.mp q).1]
    exact q
  have hlen : l.length = S.length := s.len
  refine ⟨by show (l ++ [p]).length = _; rw [List.length_append, List.length_append, hlen]; rfl, ?_, fun i a o' h1 h2 => ?_, fun a ha => s.hid a (List.mem_cons_of_mem _ ha), s.hl⟩
  · show ((l ++ [p]) ++ h).Nodup
    rw [List.append_assoc]
    exact s.nd
  · have h1 : (l ++ [p])[i]? = some a := h1
    by_cases hi : i < l.length
    · rw [List.getElem?_append_left hi] at h1
      rw [List.getElem?_append_left (by omega)] at h2
      exact (s.obj i a o' h1 h2).kp kp rfl
    · rw [List.getElem?_append_right (by omega)] at h1
      rw [List.getElem?_append_right (by omega)] at h2
      have e : i - l.length = 0 := by
        rcases Nat.eq_zero_or_pos (i - l.length) with z | z
        · exact z
        · rw [List.getElem?_eq_none (by simp; omega)] at h1
          cases h1
      rw [e] at h1
      rw [← hlen, e] at h2
      cases h1
      cases h2
      exact ho
end
section
variable {X : Cx} {Wx : WX} {kx vx tg iter : Expr} {ifs : List Expr} {scope : Scope} {own : List (Str × Nat)} {pos : Pos} {mi : IM} {sl : List Nat} {gm : D → Env → Option Env} {tt : BM} {tk tv : EM} {nw : Bool}
theorem dc_of {K : PySem.W.Frag} {mg : Str → Option Value} {vs : List Nat} (hsl : ∀ i ∈ sl, i ∈ vs) {T1 : Tb} {H1 : Hp} {S1 : Store} {g : L2.St} {r : Env} {J : It} {ds : List D} {Q : VK} (sim1 : Sim K mg T1 S1 H1) (rs1 : RepSt K T1 H1 r g) (wk : Walks K mg T1 H1 J ds)
    (h1 : Out K mg Wx (Rep K) T1 g H1 ((dcL gm tt tk tv (wipeE r vs) ds [] S1).bind fun kds S2 => dFin nw kds S2) Q) :
    ∀ Dl, H1 Dl = none → ∃ W : Nat → Nat → Hp → Prop, (∃ m, W 0 m (upd H1 Dl (.dK []))) ∧ ∀ i m H, W i m H →
      (J.stop i H ∧ Q (.ref Dl) H) ∨ (J.go i H ∧ ∃ Nx : Hp → Prop, (∀ H', Nx H' → ∃ m', m' < m ∧ W (i + 1) m' H') ∧ ∀ x H', J.yld i H x H' → gD K mg sl gm x (wipe g vs) H' fun σ2 H2 => wipe σ2 vs = wipe g vs ∧ tDT K mg W0 tt σ2 H2 fun b H3 =>
        if b = true then tD K mg W0 tk σ2 H3 fun y H4 => tD K mg W0 tv σ2 H4 fun z H5 => ∃ kvs k, y = kV k ∧ H5 Dl = some (.dK kvs) ∧ kvs.length < sizeLine ∧ Nx (upd H5 Dl (.dK (putK kvs k z))) else Nx H3) := by
  intro Dl hD
  obtain ⟨kp0, simh⟩ := sim1.hide (u := .dK []) hD (nodict sim1.hl)
  have opn : ∀ {Ta Tb : Tb} {Ha Hb : Hp}, Ta.hid = Dl :: T1.hid → Step T1 H1 ⟨Ta.loc, T1.hid⟩ Ha → Step Ta Ha Tb Hb → Tb.hid = Dl :: T1.hid ∧ Step T1 H1 ⟨Tb.loc, T1.hid⟩ Hb := fun {Ta Tb Ha Hb} e1 s1 s2 => by
    refine ⟨s2.hid.trans e1, s1.trans ⟨s2.ext, rfl, fun b hb => s2.hkeep b (by rw [e1]; exact List.mem_cons_of_mem _ hb), fun b u n q => ?_, s2.new⟩⟩
    by_cases hb : b = Dl
    · subst hb
      rw [s2.hkeep b (by rw [e1]; exact List.mem_cons_self)]
      exact q
    · exact s2.keep b u ⟨n.1, fun z => by
        rw [e1] at z
        exact (List.mem_cons.mp z).elim hb n.2⟩ q
  refine ⟨fun i m H => ∃ T S acc ys, m = ds.length - i ∧ i ≤ ds.length ∧ T.hid = Dl :: T1.hid ∧ Step T1 H1 ⟨T.loc, T1.hid⟩ H ∧ Sim K mg T S H ∧ H Dl = some (.dK acc) ∧ RepK K T H acc ys ∧
    Out K mg Wx (Rep K) T1 g H1 ((dcL gm tt tk tv (wipeE r vs) (ds.drop i) ys S).bind fun kds S2 => dFin nw kds S2) Q, ⟨ds.length, T1.hide Dl, S1, [], [], by simp, Nat.zero_le _, rfl, sim1.stepNew hD, simh, upd_same, .nil, h1⟩, ?_⟩
  rintro i m H2 ⟨T2, S2, acc, ys, rfl, hi, eh, st2, sim2, hD2, ra, ho⟩
  have off2 : ∀ b, T1.off b → H1 b ≠ none → T2.off b := fun b n q => ⟨(st2.out q n).1, fun z => by
    rw [eh] at z
    rcases List.mem_cons.mp z with z | z
    · exact q (by rw [z]; exact hD)
    · exact n.2 z⟩
  have kf2 : Kf T1 H1 T2 H2 := ⟨⟨fun b u k n q => ⟨st2.keep b u n q, off2 b n (some_ne q)⟩, fun b u n q => ⟨st2.rd q n, off2 b n (rd_some q)⟩, fun n a q => st2.get q⟩, fun b o u n q => ⟨st2.keep b _ n q, off2 b n (some_ne q)⟩⟩
  obtain ⟨stop, go⟩ := wk T2 S2 H2 kf2 sim2
  by_cases hlt : i < ds.length
  · have ed : ds.drop i = ds[i] :: ds.drop (i + 1) := List.drop_eq_getElem_cons hlt
    rw [ed, dcL_cons] at ho
    obtain ⟨g1, yl⟩ := go i ds[i] (List.getElem?_eq_getElem hlt)
    refine .inr ⟨g1, fun H => ∃ T S acc ys, T.hid = Dl :: T1.hid ∧ Step T1 H1 ⟨T.loc, T1.hid⟩ H ∧ Sim K mg T S H ∧ H Dl = some (.dK acc) ∧ RepK K T H acc ys ∧
      Out K mg Wx (Rep K) T1 g H1 ((dcL gm tt tk tv (wipeE r vs) (ds.drop (i + 1)) ys S).bind fun kds S2 => dFin nw kds S2) Q, fun H3 q => ?_, fun x H3 y => ?_⟩
    · obtain ⟨T3, S3, acc3, ys3, q1, q2, q3, q4, q5, q7⟩ := q
      exact ⟨ds.length - (i + 1), by omega, T3, S3, acc3, ys3, rfl, hlt, q1, q2, q3, q4, q5, q7⟩
    · obtain ⟨st3, sim3, rep3⟩ := yl x H3 y
      obtain ⟨eh3, op3⟩ := opn eh st2 st3
      have hid3 : Dl ∈ T2.hid := by rw [eh]; exact List.mem_cons_self
      split at ho
      · exact ho.elim
      · rename_i r1 eg
        refine ⟨T2, wipeE r vs, S2, ds[i], r1, ((rs1.wipe vs).kp kf2.toKp).step st3, sim3, rep3, eg, fun g4 rs4 lg kg => ⟨wipe_same hsl (by rw [lg, wipe_length]) kg, T2, r1, S2, rs4, sim3, ?_⟩⟩
        rw [R.bind_assoc] at ho
        refine lc_bind ho fun b S4 T4 H4 v st4 sim4 rel4 ho4 => ?_
        subst rel4
        obtain ⟨eh4, op4⟩ := opn eh3 op3 st4
        have hid4 : Dl ∈ T4.hid := by rw [eh4]; exact List.mem_cons_self
        have hD4 : H4 Dl = some (.dK acc) := (st4.hkeep Dl hid3).trans ((st3.hkeep Dl hid3).trans hD2)
        cases v with
        | false =>
          rw [if_neg Bool.false_ne_true] at ho4 ⊢
          exact ⟨T4, S4, acc, ys, eh4, op4, sim4, hD4, ra.step (st3.trans st4), ho4⟩
        | true =>
          rw [if_pos rfl, R.bind_assoc] at ho4
          rw [if_pos rfl]
          refine ⟨T4, r1, S4, rs4.step st4, sim4, lc_bind ho4 fun kd S5 T5 H5 kv st5 sim5 rel5 ho5 => ?_⟩
          obtain ⟨eh5, op5⟩ := opn eh4 op4 st5
          have hid5 : Dl ∈ T5.hid := by rw [eh5]; exact List.mem_cons_self
          rw [R.bind_assoc] at ho5
          refine ⟨T5, r1, S5, (rs4.step st4).step st5, sim5, lc_bind ho5 fun vd S6 T6 H6 vv st6 sim6 rel6 ho6 => ?_⟩
          obtain ⟨eh6, op6⟩ := opn eh5 op5 st6
          have hid6 : Dl ∈ T6.hid := by rw [eh6]; exact List.mem_cons_self
          split at ho6
          · rename_i key ek
            split at ho6
            · rename_i hlt6
              have ekv := key_rep (rel5.step st6) ek
              subst ekv
              have ra6 : RepK K T6 H6 acc ys := ra.step (((st3.trans st4).trans st5).trans st6)
              have hal : acc.length + 1 ≤ sizeLine := by rw [ra6.length]; exact sz5 (by omega)
              obtain ⟨kp7, sim7⟩ := sim6.setHid (u := .dK (putK acc key vv)) hid6 (nodict sim6.hl)
              refine ⟨acc, key, rfl, (st6.hkeep Dl hid5).trans ((st5.hkeep Dl hid4).trans hD4), hal, T6, S6, putK acc key vv, putKD ys key vd, eh6, ⟨op6.ext, rfl, fun b hb => ?_, fun b u n q => ?_, op6.new⟩, sim7, upd_same, (ra6.put key rel6).kp kp7.toKp, ho6⟩
              · rw [upd_ne fun e => sim1.hid b hb (by rw [e]; exact hD)]
                exact op6.hkeep b hb
              · rw [upd_ne (ne_of_none q hD)]
                exact op6.keep b u n q
            · exact ho6.elim
          · exact ho6.elim
  · have e : i = ds.length := by omega
    subst e
    rw [List.drop_length] at ho
    have ho : Out K mg Wx (Rep K) T1 g H1 (dFin nw ys S2) Q := ho
    have pl : Dl ∉ T2.loc := fun z => sim2.apart z (by rw [eh]; exact List.mem_cons_self)
    have ph : Dl ∉ T1.hid := fun z => by
      have nd := (List.nodup_append.mp sim2.nd).2.1
      rw [eh] at nd
      exact (List.nodup_cons.mp nd).1 z
    refine .inl ⟨stop, ?_⟩
    obtain ⟨l2, h2⟩ := T2
    cases eh
    cases nw with
    | false => exact ho ⟨l2, T1.hid⟩ H2 _ st2 sim2.unhide (.dct (.inl hD2) ⟨pl, ph⟩ ra.1 (ra.2.kp kp_unhide))
    | true =>
      have off : ∀ b, (Tb.mk l2 (Dl :: T1.hid)).off b → (Tb.mk (l2 ++ [Dl]) T1.hid).off b := fun b n => ⟨fun z => by
        rcases List.mem_append.mp z with z | z
        · exact n.1 z
        · exact n.2 (by rw [List.mem_singleton.mp z]; exact List.mem_cons_self), fun z => n.2 (List.mem_cons_of_mem _ z)⟩
      have kp : Kp ⟨l2, Dl :: T1.hid⟩ H2 ⟨l2 ++ [Dl], T1.hid⟩ H2 := by
        refine ⟨fun b _ _ n q => ⟨q, off b n⟩, fun b _ n q => ⟨q, off b n⟩, fun n a q => ?_⟩
        have q : l2[n]? = some a := q
        show (l2 ++ [Dl])[n]? = some a
        rw [List.getElem?_append_left (List.getElem?_eq_some_iff.mp q).1]
        exact q
      have rk := ra.kp kp
      have st3 : Step T1 H1 ⟨l2 ++ [Dl], T1.hid⟩ H2 := by
        obtain ⟨m, em⟩ := st2.ext
        refine ⟨⟨m ++ [Dl], by show l2 ++ [Dl] = _; rw [← List.append_assoc]; exact congrArg (· ++ [Dl]) em⟩, rfl, st2.hkeep, st2.keep, fun a h n => ?_⟩
        rcases List.mem_append.mp h with h | h
        · exact st2.new a h n
        · rw [List.mem_singleton.mp h]
          exact hD
      have hlen : l2.length = S2.length := sim2.len
      refine ho ⟨l2 ++ [Dl], T1.hid⟩ H2 _ st3 (sim2.unhideNew ⟨acc, hD2, rk.1, rk.2⟩) (.loc ?_)
      show (l2 ++ [Dl])[S2.length]? = some Dl
      rw [← hlen, List.getElem?_append_right (Nat.le_refl _), Nat.sub_self]
      rfl
theorem j_dc (hsl : ∀ i ∈ sl, i ∈ own.map (·.2)) (hc : X.calm = true) (hN : X.N.Nodup) (hi : PI X tg iter (iD X.K X.mg Wx mi)) (ok : BlkOk X.N X.env.scope scope own)
    (hg : ∀ (s : Shared) (H : Hp) (C : Addr) (cl : List (Str × Addr)) (fp : List Addr), PG (X.blk s H scope (compEnvC scope cl C X.env) fp) tg (gD X.K X.mg sl gm)) (ht : ∀ (s : Shared) (H : Hp) (C : Addr) (cl : List (Str × Addr)) (fp : List Addr), PTs (X.blk s H scope (compEnvC scope cl C X.env) fp) ifs (tDT X.K X.mg W0 tt))
    (hk : ∀ (s : Shared) (H : Hp) (C : Addr) (cl : List (Str × Addr)) (fp : List Addr), PE (X.blk s H scope (compEnvC scope cl C X.env) fp) kx (tD X.K X.mg W0 tk))
    (he : ∀ (s : Shared) (H : Hp) (C : Addr) (cl : List (Str × Addr)) (fp : List Addr), PE (X.blk s H scope (compEnvC scope cl C X.env) fp) vx (tD X.K X.mg W0 tv)) (hs : ∀ x, foldedSetIterable iter X.env x = pure x := by intro _; rfl) :
    PE X (.DictComp kx vx [⟨tg, iter, ifs, 0⟩] scope pos) (tD X.K X.mg Wx (mDc nw mi (own.map (·.2)) gm tt tk tv)) := pe_imp (pe_dc hc hN hi ok hg ht hk he hs) fun g H Q h => by
  obtain ⟨T, r, S, rs, sim, h⟩ := h
  refine ⟨T, r, S, rs, sim, Out.bind h fun ds S1 T1 H1 J st sim1 rel h1 => ?_⟩
  exact dc_of hsl sim1 (rs.step st) rel.1 h1
end
end Dv
/-! xs.remove(k), xs.pop(i), list(range(n)) -/
namespace Dv
open PySem PySem.Spec PyProof.Rows L2
def remI (k : Int) : List Int → Option (List Int)
  | [] => none
  | n :: ns => if n = k then some ns else (remI k ns).map (n :: ·)
theorem remI_some {k : Int} : ∀ {ns ms : List Int}, remI k ns = some ms → ∃ j, ns[j]? = some k ∧ (∀ m : Nat, m < j → ns[m]? ≠ some k) ∧ ns.eraseIdx j = ms
  | [], ms, h => by cases h
  | n :: ns, ms, h => by
    unfold remI at h
    by_cases e : n = k
    · rw [if_pos e] at h
      cases h
      exact ⟨0, by rw [e]; rfl, fun m hm => absurd hm (Nat.not_lt_zero _), rfl⟩
    · rw [if_neg e] at h
      obtain ⟨r, h1, h2⟩ := Option.map_eq_some_iff.mp h
      obtain ⟨j, q1, q2, q3⟩ := remI_some h1
      refine ⟨j + 1, q1, fun m hm => ?_, by rw [← h2, ← q3]; rfl⟩
      cases m with
      | zero =>
        intro z
        exact e (Option.some.inj z)
      | succ m => exact q2 m (by omega)
def remD (o d : D) (S : Store) : R D := match o, d with
  | .loc n, .int k => match S[n]? with
    | some (.lst xs) => match (intsOf xs).bind (remI k) with
      | some ms => .ok .non (List.set S n (.lst (ms.map D.int)))
      | none => .bad
    | _ => .bad
  | _, _ => .bad
def mRemove (mo m : EM) : EM := fun r S => (mo r S).bind fun o S1 => if isLoc o S1 = true then (m r S1).bind fun d S2 => remD o d S2 else .bad
def popAtD (o d : D) (S : Store) : R D := match o, d with
  | .loc n, .int i => match S[n]? with
    | some (.lst xs) => if 0 ≤ i ∧ i < 100000 then (match xs[i.toNat]? with
      | some y => .ok y (List.set S n (.lst (xs.eraseIdx i.toNat)))
      | none => .bad) else .bad
    | _ => .bad
  | _, _ => .bad
def mPopAt (mo m : EM) : EM := fun r S => (mo r S).bind fun o S1 => if isLoc o S1 = true then (m r S1).bind fun d S2 => popAtD o d S2 else .bad
theorem RepL.eraseIdx {K : PySem.W.Frag} {T : Tb} {H : Hp} : ∀ {vs : List V} {ds : List D} (j : Nat), RepL K T H vs ds → RepL K T H (vs.eraseIdx j) (ds.eraseIdx j)
  | _, _, _, .nil => .nil
  | _, _, 0, .cons a b => b
  | _, _, j + 1, .cons a b => .cons a (RepL.eraseIdx j b)
section
variable {X : Cx} {Wx : WX} {o e : Expr} {apos pos : Pos} {mo m : EM}
theorem j_remove (ho : PE X o (tD X.K X.mg Wx mo)) (ha : PE X e (tD X.K X.mg Wx m)) (hbase : attributeBase o "remove" X.env (eval o X.env) = eval o X.env := by rfl)
    (hfew : ((backTo pos (starEach [e] X.env)).all (fun x => !x.1) && (backToKw pos (keywordEach [] X.env)).all (fun x => x.1.isSome) && decide (([e] : List Expr).length + ([] : List Keyword).length + (if ([] : List Keyword).isEmpty then 0 else 1) < 30)) = true := by rfl)
    (hline : (apos.endLine == pos.line) = true := by rfl) (hs : starEach [e] X.env = (false, eval e X.env) :: starEach [] X.env := by rfl) (hplain : (backTo pos (starEach [] X.env)).any (·.1) = false := by rfl) :
    PE X (.Call (.Attribute o "remove" apos) [e] [] pos) (tD X.K X.mg Wx (mRemove mo m)) :=
  pe_imp (pe_bm PySem.F.plainAttrs_list PySem.F.slot_list_remove PySem.F.type_list_remove mt_remove ho (pa_cons ha pa_nil hs) hbase hfew hline hs hplain) fun g H Q h => by
    obtain ⟨T, r, S, rs, sim, h⟩ := h
    refine ⟨T, r, S, rs, sim, Out.bind h fun d S1 T1 H1 v st sim1 rel h1 => ?_⟩
    split at h1
    · rename_i hl
      refine ⟨isLoc_ty sim1 rel hl, T1, r, S1, rs.step st, sim1, Out.bind h1 fun y S2 T2 H2 w st2 sim2 rel2 h2 => ?_⟩
      unfold remD at h2
      split at h2
      · rename_i n k
        split at h2
        · rename_i xs q
          split at h2
          · rename_i ms em
            obtain ⟨ns, hi, hr⟩ := Option.bind_eq_some_iff.mp em
            have hx := intsOf_some hi
            subst hx
            obtain ⟨a, rfl, hn, ys, q1, q2⟩ := loc_of sim2 (rel.step st2) q
            have hy := q2.of_ints
            subst hy
            cases rel2
            obtain ⟨j, j1, j2, j3⟩ := remI_some hr
            have hz0 := sim2.hl a _ (.inl (.inl q1))
            rw [List.length_map] at hz0
            have hz : (ms.map V.int).length ≤ sizeLine := by
              rw [List.length_map, ← j3]
              exact Nat.le_trans (List.length_eraseIdx_le ns j) hz0
            obtain ⟨st3, sim3⟩ := lst_set (xs := ms.map V.int) (ds := ms.map D.int) sim2 hn hz (RepL.ints ms)
            refine ⟨a, ns, k, j, rfl, rfl, q1, j1, j2, ?_⟩
            rw [j3]
            exact h2 T2 _ _ st3 sim3 .non
          · exact h2.elim
        · exact h2.elim
      · exact h2.elim
    · exact h1.elim
theorem j_popAt (ho : PE X o (tD X.K X.mg Wx mo)) (ha : PE X e (tD X.K X.mg Wx m)) (hbase : attributeBase o "pop" X.env (eval o X.env) = eval o X.env := by rfl)
    (hfew : ((backTo pos (starEach [e] X.env)).all (fun x => !x.1) && (backToKw pos (keywordEach [] X.env)).all (fun x => x.1.isSome) && decide (([e] : List Expr).length + ([] : List Keyword).length + (if ([] : List Keyword).isEmpty then 0 else 1) < 30)) = true := by rfl)
    (hline : (apos.endLine == pos.line) = true := by rfl) (hs : starEach [e] X.env = (false, eval e X.env) :: starEach [] X.env := by rfl) (hplain : (backTo pos (starEach [] X.env)).any (·.1) = false := by rfl) :
    PE X (.Call (.Attribute o "pop" apos) [e] [] pos) (tD X.K X.mg Wx (mPopAt mo m)) :=
  pe_imp (pe_bm PySem.F.plainAttrs_list PySem.F.slot_list_pop PySem.F.type_list_pop mt_popAt ho (pa_cons ha pa_nil hs) hbase hfew hline hs hplain) fun g H Q h => by
    obtain ⟨T, r, S, rs, sim, h⟩ := h
    refine ⟨T, r, S, rs, sim, Out.bind h fun d S1 T1 H1 v st sim1 rel h1 => ?_⟩
    split at h1
    · rename_i hl
      refine ⟨isLoc_ty sim1 rel hl, T1, r, S1, rs.step st, sim1, Out.bind h1 fun y S2 T2 H2 w st2 sim2 rel2 h2 => ?_⟩
      unfold popAtD at h2
      split at h2
      · rename_i n i
        split at h2
        · rename_i xs q
          split at h2
          · rename_i hi
            split at h2
            · rename_i y ey
              obtain ⟨a, rfl, hn, ys, q1, q2⟩ := loc_of sim2 (rel.step st2) q
              cases rel2
              obtain ⟨u, e1, e2⟩ := q2.get ey
              have hlt : i.toNat < ys.length := (List.getElem?_eq_some_iff.mp e1).1
              have hz : (ys.eraseIdx i.toNat).length ≤ sizeLine := Nat.le_trans (List.length_eraseIdx_le ys _) (sim2.hl a ys (.inl (.inl q1)))
              obtain ⟨st3, sim3⟩ := lst_set (xs := ys.eraseIdx i.toNat) (ds := xs.eraseIdx i.toNat) sim2 hn hz (q2.eraseIdx i.toNat)
              have hix : seqIndex? i ys.length = some i.toNat := (ixN_seq (by
                unfold ixN
                rw [if_pos hi.1, if_pos (by omega)])).1
              exact ⟨a, ys, i, i.toNat, u, rfl, rfl, q1, by omega, by omega, hix, e1, h2 T2 _ _ st3 sim3 (e2.step st3)⟩
            · exact h2.elim
          · exact h2.elim
        · exact h2.elim
      · exact h2.elim
    · exact h1.elim
/-! list(range(n)) -/
def rListRng (vs : List V) (H : Hp) (Q : VK) : Prop := ∃ n : Int, vs = [.int n] ∧ -100000 ≤ n ∧ n ≤ 100000 ∧ ∀ p, H p = none → Q (.ref p) (upd H p (.lst (((List.range n.toNat).map fun i : Nat => (i : Int)).map V.int)))
def listRngN (ds : List D) (_ : Store) : Option (List D) := rng1 ds
end
end Dv
namespace Dv
open PySem PySem.Spec PyProof.Rows L2
section
variable {X : Cx}
def rRange1 : List V → Hp → VK → Prop := fun vs H Q => ∃ n : Int, vs = [.int n] ∧ ∀ p, H p = none → Q (.ref p) (upd H p (.rng 0 n))
theorem cr_range1 : CallR X (.type "range") rRange1 := by
  intro pins s σ H vs us Q I r h
  obtain ⟨n, rfl, q⟩ := h
  cases r with
  | cons a b =>
    cases b
    obtain ⟨t, rfl⟩ := a
    have nw : H s.heap.objs.size = none := I.hok.fresh (Nat.le_refl _)
    refine call_range_1 ⟨.ref s.heap.objs.size, _, I.laid (t' := s.toks + 1 + 1) (o := .rng 0 n) (fun b o e => Heap.get?_push_of_some _ e) (Nat.le_refl _) ⟨s.toks, t, s.toks + 1, Heap.get?_push_size _ rfl⟩, rfl, q _ nw⟩
def rLstRng : List V → Hp → VK → Prop := fun vs H Q => ∃ (a : Addr) (n : Int), vs = [.ref a] ∧ H a = some (.rng 0 n) ∧ -100000 ≤ n ∧ n ≤ 100000 ∧ ∀ p, H p = none → Q (.ref p) (upd H p (.lst (((List.range n.toNat).map fun i : Nat => (i : Int)).map V.int)))
theorem vals_rng {acc : Array Value} {n : Nat} (h : ItemsOf (fun i v => ∃ t, v = Value.int (0 + (i : Int) * 1) t) acc n) : Vals (((List.range n).map fun i : Nat => (i : Int)).map V.int) acc.toList := by
  refine vals_of_ints (ns := (List.range n).map fun i : Nat => (i : Int)) ?_
  obtain ⟨h1, h2⟩ := h
  have key : ∀ (l : List Value) (k : Nat), (∀ j v, l[j]? = some v → ∃ t, v = Value.int ((k + j : Nat) : Int) t) → IntsAre l ((List.range' k l.length).map fun i : Nat => (i : Int)) := fun l => by
    induction l with
    | nil => exact fun k _ => .nil
    | cons v l ih =>
      intro k hv
      obtain ⟨t, rfl⟩ := hv 0 v rfl
      rw [List.length_cons, List.range'_succ, List.map_cons]
      refine .cons _ t (ih (k + 1) fun j u hj => ?_)
      obtain ⟨t', e⟩ := hv (j + 1) u hj
      exact ⟨t', by rw [e, show k + (j + 1) = k + 1 + j by omega]⟩
  have := key acc.toList 0 fun j v hj => by
    obtain ⟨t, e⟩ := h2 j v (by rw [← Array.getElem?_toList]; exact hj)
    exact ⟨t, by rw [e, Int.zero_add, Int.mul_one, Nat.zero_add]⟩
  rw [Array.length_toList, h1] at this
  rw [List.range_eq_range']
  exact this
theorem cr_lstRng (hc : X.calm = true) : CallR X (.type "list") rLstRng := by
  intro pins s σ H vs us Q I r h
  obtain ⟨a, n, rfl, ha, hn0, hn, q⟩ := h
  rw [Vals.ref1 r]
  obtain ⟨t, u, v, ho⟩ := I.hok a _ ha
  have nw : H s.heap.objs.size = none := I.hok.fresh (Nat.le_refl _)
  have hsz : Builtin.Range.rangeSize 0 n 1 = (n.toNat : Nat) := by
    unfold Builtin.Range.rangeSize
    by_cases h0 : 0 < n
    · rw [if_pos (by decide), if_pos h0]
      omega
    · rw [if_pos (by decide), if_neg h0]
      omega
  refine call_list_range (n := n.toNat) (I.ok.hd hc) ho ?_ hsz (by omega) fun h' tk acc c k g items => ?_
  · exact small_one (by decide) (by decide) (by omega) (by omega)
  · have hz : (((List.range n.toNat).map fun i : Nat => (i : Int)).map V.int).length ≤ sizeLine := by
      rw [List.length_map, List.length_map, List.length_range, sizeLine_eq]
      omega
    exact ⟨.ref s.heap.objs.size, _, I.laid (t' := tk) (o := .lst (((List.range n.toNat).map fun i : Nat => (i : Int)).map V.int)) k (Nat.le_refl _) ⟨hz, acc.toList, c, vals_rng items, g⟩, rfl, q _ nw⟩
end
section
variable {K : PySem.W.Frag} {mg : Str → Option Value} {T : Tb} {H : Hp}
theorem rng_ints (n : Int) : rng 0 n.toNat = ((List.range n.toNat).map fun i : Nat => (i : Int)).map D.int := by
  unfold rng
  rw [List.map_map]
  refine List.map_congr_left fun i _ => ?_
  show D.int (0 + (i : Int)) = D.int (i : Int)
  rw [Int.zero_add]
theorem hlen_rng {p : Addr} {a b : Int} (h : HLen H) : HLen (upd H p (.rng a b)) := hlen_oth h fun xs => ⟨(by intro z; cases z), (by intro z; cases z), (by intro x z; cases z), (by intro x z; cases z)⟩
def lstRngD (ds : List D) (_ : Store) : Option D := (rng1 ds).map .lst
theorem pok_lstRng : POk K mg (fun vs H Q => rRange1 vs H fun v H1 => rLstRng [v] H1 Q) lstRngD := fun T S H vs ds d Q sim rep e k => by
  unfold lstRngD at e
  obtain ⟨xs, e1, rfl⟩ := Option.map_eq_some_iff.mp e
  unfold rng1 at e1
  split at e1
  · rename_i n
    split at e1
    · rename_i hb
      cases e1
      obtain ⟨v, rfl, r⟩ := rep.one
      cases r
      refine ⟨n, rfl, fun p hp => ⟨p, n, rfl, upd_same, hb.1, hb.2, fun q hq => ?_⟩⟩
      have st1 := sim.stepNew (o := .rng 0 n) hp
      have sim1 := sim.new (o := .rng 0 n) hp (hlen_rng sim.hl)
      rw [rng_ints] at k
      have hz : (((List.range n.toNat).map fun i : Nat => (i : Int)).map V.int).length ≤ sizeLine := by
        rw [List.length_map, List.length_map, List.length_range, sizeLine_eq]
        omega
      exact k _ (.ref q) (st1.trans (sim1.stepNew hq)) (sim1.new hq (hlen_lst sim1.hl hz)) (.lst upd_same (sim1.off hq) (RepL.ints _))
    · cases e1
  · cases e1
end
section
variable {X : Cx} {Wx : WX} {ms : AM} {es : List Expr} {x y : Str} {p p' pos pos' : Pos} {e : Expr}
theorem j_lstRng (hc : X.calm = true) (hg' : Gl X y) (hm' : X.mg y = none) (hv' : bootBuiltins y = some (.type "list")) (hg : Gl X x) (hm : X.mg x = none) (hv : bootBuiltins x = some (.type "range")) (ha : PA X (e :: es) (tDA X.K X.mg Wx ms))
    (hn' : y ≠ "__name__" := by decide) (hdb' : (y == ("__debug__" : Str)) = false := by decide) (hn : x ≠ "__name__" := by decide) (hdb : (x == ("__debug__" : Str)) = false := by decide)
    (he : starEach (e :: es) X.env = (false, eval e X.env) :: starEach es X.env := by rfl) (hpl : (backTo pos (starEach es X.env)).any (·.1) = false := by rfl) :
    PE X (.Call (.Name y p') [.Call (.Name x p) (e :: es) [] pos] [] pos') (tD X.K X.mg Wx (mCall lstRngD ms)) :=
  pe_imp (pe_callTy (cr_lstRng hc) hg' hm' hv' (pa_cons (pe_callTy cr_range1 hg hm hv ha hn hdb he hpl) pa_nil) hn' hdb') fun g H Q h => tCB_of pok_lstRng g H Q h
theorem j_newRng (hc : X.calm = true) (hg' : Gl X y) (hm' : X.mg y = none) (hv' : bootBuiltins y = some (.type "list")) (hg : Gl X x) (hm : X.mg x = none) (hv : bootBuiltins x = some (.type "range")) (ha : PA X (e :: es) (tDA X.K X.mg Wx ms))
    (hn' : y ≠ "__name__" := by decide) (hdb' : (y == ("__debug__" : Str)) = false := by decide) (hn : x ≠ "__name__" := by decide) (hdb : (x == ("__debug__" : Str)) = false := by decide)
    (he : starEach (e :: es) X.env = (false, eval e X.env) :: starEach es X.env := by rfl) (hpl : (backTo pos (starEach es X.env)).any (·.1) = false := by rfl) :
    PE X (.Call (.Name y p') [.Call (.Name x p) (e :: es) [] pos] [] pos') (tD X.K X.mg Wx (mCallN listRngN ms)) :=
  pe_imp (pe_callTy (cr_lstRng hc) hg' hm' hv' (pa_cons (pe_callTy cr_range1 hg hm hv ha hn hdb he hpl) pa_nil) hn' hdb') fun g H Q h => by
    obtain ⟨T, r, S, rs, sim, h⟩ := h
    refine ⟨T, r, S, rs, sim, Out.bind h fun ds S1 T1 H1 vs st sim1 rel h1 => ?_⟩
    cases q : listRngN ds S1 with
    | none =>
      rw [q] at h1
      exact h1.elim
    | some xs =>
      rw [q] at h1
      unfold listRngN rng1 at q
      split at q
      · rename_i n
        split at q
        · rename_i hb
          cases q
          obtain ⟨v, rfl, rv⟩ := rel.one
          cases rv
          refine ⟨n, rfl, fun a ha => ⟨a, n, rfl, upd_same, hb.1, hb.2, fun b hb' => ?_⟩⟩
          have st2 := sim1.stepNew (o := .rng 0 n) ha
          have sim2 := sim1.new (o := .rng 0 n) ha (hlen_rng sim1.hl)
          have hz : (((List.range n.toNat).map fun i : Nat => (i : Int)).map V.int).length ≤ sizeLine := by
            rw [List.length_map, List.length_map, List.length_range, sizeLine_eq]
            omega
          have st3 := sim2.stepAlloc (o := .lst (((List.range n.toNat).map fun i : Nat => (i : Int)).map V.int)) hb'
          exact h1 (T1.add b) _ _ (st2.trans st3) (sim2.alloc hb' (hlen_lst sim2.hl hz) ⟨_, upd_same, by rw [rng_ints]; exact RepL.ints _⟩) (.loc sim2.newGet)
        · cases q
      · cases q
end
end Dv
/-! in a tuple of flat things -/
namespace Dv
open PySem L2
def flatD : D → Bool
  | .non => true
  | .bl _ => true
  | .int _ => true
  | .str _ => true
  | _ => false
def inTO (a b : D) : Option Bool := match b with
  | .tup xs => if flatD a = true ∧ xs.all flatD = true then some (xs.any fun z => eqvD z a) else none
  | b => inO a b
def inTD (a b : D) (S : Store) : Option D := (inTO (now a S) (now b S)).map .bl
def ninTD (a b : D) (S : Store) : Option D := (inTO (now a S) (now b S)).map fun k => .bl (!k)
section
variable {X : Cx} {K : PySem.W.Frag} {mg : Str → Option Value} {T : Tb} {H : Hp} {S : Store}
theorem flat_eq {v v' : V} {d d' : D} (h : Rep K T H v d) (h' : Rep K T H v' d') (f : flatD d = true) (f' : flatD d' = true) : flatV v = true ∧ eqV v v' = eqvD d d' := by
  cases h <;> first | (cases f; done) | skip
  all_goals (cases h' <;> first | (cases f'; done) | skip)
  all_goals first | exact ⟨rfl, rfl⟩ | exact ⟨rfl, by simp [eqV, eqvD, pyD, PyData.eqv]⟩
theorem flat_any {v : V} {d : D} (h : Rep K T H v d) (f : flatD d = true) : ∀ {vs : List V} {ds : List D}, RepL K T H vs ds → ds.all flatD = true → vs.all flatV = true ∧ (vs.any fun y => eqV y v) = ds.any fun z => eqvD z d
  | _, _, .nil, _ => ⟨rfl, rfl⟩
  | _, _, .cons (v := u) (d := e) a b, g => by
    rw [List.all_cons, Bool.and_eq_true] at g
    obtain ⟨q1, q2⟩ := flat_eq a h g.1 f
    obtain ⟨q3, q4⟩ := flat_any h f b g.2
    exact ⟨by rw [List.all_cons, q1, q3]; rfl, by rw [List.any_cons, List.any_cons, q2, q4]⟩
def rInT (K : PySem.W.Frag) : R2 := fun x y H Q => rInD K x y H Q ∨ rIn K false x y H Q
def rNinT (K : PySem.W.Frag) : R2 := fun x y H Q => rNotInD K x y H Q ∨ rIn K true x y H Q
theorem op_inT (hu : X.A.units + 65 < cLine) : OpR X (compareOp .In) (rInT X.K) := (op_inD hu).or op_in_seq
theorem op_ninT (hu : X.A.units + 65 < cLine) : OpR X (compareOp .NotIn) (rNinT X.K) := (op_notInD hu).or op_notIn_seq
theorem now_flat {d : D} (f : flatD (now d S) = true) : now d S = d := by
  cases d with
  | loc n =>
    simp only [now] at f ⊢
    split at f <;> cases f
  | _ => rfl
theorem now_tup {d : D} {xs : List D} (e : now d S = .tup xs) : d = .tup xs := by
  cases d with
  | loc n =>
    simp only [now] at e
    split at e <;> cases e
  | _ => exact e
theorem pok_inT : POk2 K mg (rInT K) inTD := fun T S H x y a b d Q sim rx ry e k => by
  unfold inTD at e
  obtain ⟨t, e1, rfl⟩ := Option.map_eq_some_iff.mp e
  unfold inTO at e1
  split at e1
  · rename_i xs eb
    split at e1
    · rename_i hf
      cases e1
      have h1 := now_tup eb
      subst h1
      have en := now_flat hf.1
      rw [en] at hf k
      cases ry with
      | tup h n r =>
        obtain ⟨q1, q2⟩ := flat_any rx hf.1 r hf.2
        have q0 : flatV x = true := (flat_eq rx rx hf.1 hf.1).1
        refine .inr ⟨_, _, rfl, .inr (SqT.of h), q0, q1, ?_⟩
        show Q (.bl (inV x _)) H
        unfold inV
        rw [q2]
        exact k H _ (Step.refl T H) sim (.bl _)
    · cases e1
  · have e2 : inD a b S = some (.bl t) := by
      unfold inD
      rw [e1]
      rfl
    exact .inl (pok_in T S H x y a b (.bl t) Q sim rx ry e2 k)
theorem pok_ninT : POk2 K mg (rNinT K) ninTD := fun T S H x y a b d Q sim rx ry e k => by
  unfold ninTD at e
  obtain ⟨t, e1, rfl⟩ := Option.map_eq_some_iff.mp e
  unfold inTO at e1
  split at e1
  · rename_i xs eb
    split at e1
    · rename_i hf
      cases e1
      have h1 := now_tup eb
      subst h1
      have en := now_flat hf.1
      rw [en] at hf k
      cases ry with
      | tup h n r =>
        obtain ⟨q1, q2⟩ := flat_any rx hf.1 r hf.2
        have q0 : flatV x = true := (flat_eq rx rx hf.1 hf.1).1
        refine .inr ⟨_, _, rfl, .inr (SqT.of h), q0, q1, ?_⟩
        show Q (.bl (!inV x _)) H
        unfold inV
        rw [q2]
        exact k H _ (Step.refl T H) sim (.bl _)
    · cases e1
  · have e2 : ninD a b S = some (.bl (!t)) := by
      unfold ninD
      rw [e1]
      rfl
    exact .inl (pok_nin T S H x y a b (.bl (!t)) Q sim rx ry e2 k)
end
end Dv
namespace Dv
open PySem L2
/-- what is never reached -/
def mBad : EM := fun _ _ => .bad
theorem j_bad {X : Cx} {Wx : WX} {e : Expr} : PE X e (tD X.K X.mg Wx mBad) := ⟨fun pins s g H Q I h => by
  obtain ⟨T, r, S, rs, sim, h⟩ := h
  exact h.elim⟩
@[simp] theorem mBad_ap {r : Env} {S : Store} : mBad r S = .bad := rfl
end Dv
/-! all(rows), rows a tuple of tuples -/
namespace Dv
open PySem PySem.Spec PyProof.Rows L2
section
variable {prog : Program} {w : World} {A : Around}
/-- the truths may lean on what the heap keeps -/
theorem allLoop_by {R : Result → Shared → Prop} {I : Addr} {fp wr : List Addr} {n : Nat} {P : Nat → Value → Prop} {St : Nat → Heap → Prop} (W : PySem.Walks prog w A.in1 I fp wr n P St) (b : Nat → Bool) (G : Heap → Prop)
    (stay : ∀ h h', G h → (∀ c o, c ∉ wr → h.get? c = some o → h'.get? c = some o) → G h')
    (truth : ∀ i v (s : Shared) (Q : Bool → Shared → Prop) (E : Value → Shared → Prop), P i v → G s.heap → (∀ tk, Q (b i) { s with toks := tk }) → wpAny (model prog w) A.in1 (truthy v) Q E s) :
    ∀ (m i : Nat) (s : Shared), i + m = n → St i s.heap → G s.heap → (∀ h' tk, (∀ c o, c ∉ wr → s.heap.get? c = some o → h'.get? c = some o) → R (.ok (.ret (.bool ((List.range' i m).all b)))) { s with heap := h', toks := tk }) →
      codeAny (model prog w) A (.builtin "all.loop" ⟨[.ref I], []⟩) R s
  | 0, i, s, hm, st, g, out => by
    have e : i = n := by omega
    subst e
    refine codeAny_builtin F.entry_all_loop ?_
    rw [Around.under_plainId F.plain_all_loop _]
    unfold Builtin.«all.loop»
    refine wpAny_bind (W.done s _ _ st fun h' tk keep => ?_)
    exact wpAny_bind (wpAny_rule (wpAny_pure (out h' tk keep)))
  | m + 1, i, s, hm, st, g, out => by
    refine codeAny_builtin F.entry_all_loop ?_
    rw [Around.under_plainId F.plain_all_loop _]
    unfold Builtin.«all.loop»
    refine wpAny_bind (W.item i s _ _ (by omega) st fun v h' tk p st' keep => ?_)
    have g' := stay _ _ g keep
    refine wpAny_bind (wpAny_holding (truth i v _ _ _ p g' fun tk2 => ?_))
    refine wpAny_bind (wpAny_letGo ?_)
    cases q : b i with
    | true =>
      rw [if_pos rfl]
      refine wpAny_pure ⟨plainId_quiet F.plain_all_loop _, ?_⟩
      refine allLoop_by W b G stay truth m (i + 1) _ (by omega) st' g' fun h2 tk3 keep2 => ?_
      have o := out h2 tk3 fun c ob hc e => keep2 c ob hc (keep c ob hc e)
      rw [List.range'_succ, List.all_cons, q, Bool.true_and] at o
      exact o
    | false =>
      rw [if_neg Bool.false_ne_true]
      refine wpAny_bind (wpAny_rule (wpAny_pure ?_))
      have o := out h' tk2 keep
      rw [List.range'_succ, List.all_cons, q, Bool.false_and] at o
      exact o
end
section
variable {X : Cx}
/-- a tuple of tuples -/
def rAllT (K : PySem.W.Frag) : List V → Hp → VK → Prop := fun vs H Q => ∃ (a : Addr) (ps : List Addr) (bs : List Bool), vs = [.ref a] ∧ SqT K H a (ps.map V.ref) ∧ Paired (fun p c => ∃ xs : List V, SqT K H p xs ∧ c = !xs.isEmpty) ps bs ∧ Q (.bl (bs.all id)) H
theorem pairedAt {α β : Type} {F : α → β → Prop} : ∀ {l : List α} {m : List β} {i : Nat} {x : α} {y : β}, Paired F l m → l[i]? = some x → m[i]? = some y → F x y
  | _, _, 0, _, _, .cons a b, h1, h2 => by
    cases h1
    cases h2
    exact a
  | _, _, i + 1, _, _, .cons a b, h1, h2 => pairedAt (i := i) b h1 h2
theorem refs_are : ∀ {ps : List Addr} {us : List Value}, Vals (ps.map V.ref) us → us = ps.map Value.ref
  | [], _, .nil => rfl
  | p :: ps, _, .cons r t => by
    cases r
    rw [refs_are t]
    rfl
theorem cr_allT (hc : X.calm = true) : CallR X (.builtin "all") (rAllT X.K) := by
  intro pins s σ H vs us Q I r h
  obtain ⟨a, ps, bs, rfl, hs, pr, q⟩ := h
  rw [Vals.ref1 r]
  obtain ⟨its, rv, tp, hz⟩ := I.tuple hs
  have ei := refs_are rv
  subst ei
  rw [List.length_map] at hz
  have hlen : ps.length = bs.length := pr.length
  have halt : a < s.heap.objs.size := by
    obtain ⟨o, ho, _⟩ := tp
    exact Heap.lt_size ho
  refine call_function_tree F.kind_all F.plain_all F.entry_all (F.args_all1 _) ?_
  unfold Builtin.«all»
  refine wpAny_bind (m := oneArg "all" _) (wpAny_pure ?_)
  refine wpAny_bind (wpAny_pyIter_tuple (show s.heap.IsTuple a (ps.map Value.ref).toArray from tp) ?_)
  refine wpAny_pure ⟨plainId_quiet F.plain_all_loop _, ?_⟩
  have W := Walks.tuple (prog := X.prog) (w := X.w) (A := X.A.in1) (I.ok.hd hc) s.heap.objs.size a (Nat.ne_of_lt halt) (ps.map Value.ref).toArray
  refine allLoop_by W (fun i => bs.getD i false) (fun h => ∀ (i : Nat) (p : Addr) (c : Bool), ps[i]? = some p → bs[i]? = some c → p ≠ s.heap.objs.size ∧ ∃ items : Array Value, IsTup h p items ∧ items.size ≤ sizeLine ∧ c = !items.isEmpty)
    (fun h h' g keep i p c e1 e2 => ?_) (fun i v s' Q' E' pv g out => ?_) ps.length 0 _ (by simp) ⟨⟨_, Heap.get?_push_size _ rfl, rfl, rfl⟩, (show s.heap.IsTuple a (ps.map Value.ref).toArray from tp).push _⟩ (fun i p c e1 e2 => ?_) fun h' tk keep => ?_
  · obtain ⟨np, items, ⟨o, ho, t1, t2⟩, hz2, t3⟩ := g i p c e1 e2
    exact ⟨np, items, ⟨o, keep p o (by simpa using np) ho, t1, t2⟩, hz2, t3⟩
  · have pv : (ps.map Value.ref).toArray[i]? = some v := pv
    have pv' : (ps.map Value.ref)[i]? = some v := by simpa using pv
    rw [List.getElem?_map] at pv'
    obtain ⟨p, e1, rfl⟩ := Option.map_eq_some_iff.mp pv'
    have hi : i < bs.length := by rw [← hlen]; exact (List.getElem?_eq_some_iff.mp e1).1
    obtain ⟨_, items, tp2, hz2, t3⟩ := g i p bs[i] e1 (List.getElem?_eq_getElem hi)
    rw [sizeLine_eq] at hz2
    refine truthy_tuple tp2 (by omega) ?_
    have ec : bs.getD i false = !items.isEmpty := by
      rw [List.getD_eq_getElem?_getD, List.getElem?_eq_getElem hi]
      exact t3
    rw [← ec]
    exact out _
  · obtain ⟨xs, h1, h2⟩ := pairedAt pr e1 e2
    obtain ⟨its2, rv2, tp2, hz2⟩ := I.tuple h1
    have hlt : p < s.heap.objs.size := by
      obtain ⟨o, ho, _⟩ := tp2
      exact Heap.lt_size ho
    have el : xs.length = its2.length := rv2.length
    refine ⟨Nat.ne_of_lt hlt, its2.toArray, ?_, by rw [List.size_toArray, ← el]; exact hz2, ?_⟩
    · obtain ⟨o, ho, t1, t2⟩ := tp2
      exact ⟨o, Heap.get?_push_of_some _ ho, t1, t2⟩
    · rw [h2]
      cases xs <;> cases its2 <;> first | rfl | cases el
  · refine ⟨.bl (bs.all id), H, I.kept (t' := tk) fun b o e => keep b o (fun z => ?_) (Heap.get?_push_of_some _ e), ?_, q⟩
    · rw [List.mem_singleton] at z
      subst z
      exact absurd (Heap.lt_size e) (Nat.lt_irrefl _)
    · show Value.bool _ = Value.bool _
      congr 1
      rw [hlen, ← List.range_eq_range']
      have key : ∀ l : List Bool, ((List.range l.length).all fun i => l.getD i false) = l.all id := fun l => by
        rw [Bool.eq_iff_iff, List.all_eq_true, List.all_eq_true]
        constructor
        · intro h x hx
          obtain ⟨i, hi, rfl⟩ := List.mem_iff_getElem.mp hx
          have := h i (List.mem_range.mpr hi)
          rw [List.getD_eq_getElem?_getD, List.getElem?_eq_getElem hi] at this
          exact this
        · intro h i hi
          have hi := List.mem_range.mp hi
          rw [List.getD_eq_getElem?_getD, List.getElem?_eq_getElem hi]
          exact h _ (List.getElem_mem hi)
      exact key bs
end
/-- the truths of tuples -/
def tupsB : List D → Option (List Bool)
  | [] => some []
  | .tup xs :: ds => (tupsB ds).map ((!xs.isEmpty) :: ·)
  | _ :: _ => none
def allTD (ds : List D) (S : Store) : Option D := match ds with
  | [.tup xs] => (tupsB xs).map fun bs => .bl (bs.all id)
  | ds => allD ds S
section
variable {X : Cx} {K : PySem.W.Frag} {mg : Str → Option Value} {T : Tb} {H : Hp}
theorem tups_rep : ∀ {ds : List D} {vs : List V} {bs : List Bool}, RepL K T H vs ds → tupsB ds = some bs → ∃ ps : List Addr, vs = ps.map V.ref ∧ Paired (fun p c => ∃ xs : List V, SqT K H p xs ∧ c = !xs.isEmpty) ps bs
  | [], _, _, .nil, e => by
    cases e
    exact ⟨[], rfl, .nil⟩
  | d :: ds, _, bs, .cons a b, e => by
    cases a with
    | @tup p xs es h n r =>
      obtain ⟨cs, e1, rfl⟩ := Option.map_eq_some_iff.mp (show (tupsB ds).map ((!es.isEmpty) :: ·) = some bs from e)
      obtain ⟨ps, rfl, pr⟩ := tups_rep b e1
      refine ⟨p :: ps, rfl, .cons ⟨xs, SqT.of h, ?_⟩ pr⟩
      have := r.length
      cases es <;> cases xs <;> first | rfl | cases this
    | _ => cases e
def rAllA (K : PySem.W.Frag) : List V → Hp → VK → Prop := fun vs H Q => rAll K vs H Q ∨ rAllT K vs H Q
theorem cr_allA (hc : X.calm = true) : CallR X (.builtin "all") (rAllA X.K) := fun pins s σ H vs us Q I r h => h.elim (cr_all hc pins s σ H vs us Q I r) (cr_allT hc pins s σ H vs us Q I r)
theorem pok_allA : POk K mg (rAllA K) allTD := fun T S H vs ds d Q sim rep e k => by
  unfold allTD at e
  split at e
  · rename_i xs
    obtain ⟨bs, e1, rfl⟩ := Option.map_eq_some_iff.mp e
    obtain ⟨v, rfl, r⟩ := rep.one
    cases r with
    | @tup a ys _ h n rl =>
      obtain ⟨ps, rfl, pr⟩ := tups_rep rl e1
      exact .inr ⟨a, ps, bs, rfl, SqT.of h, pr, k H _ (Step.refl T H) sim (.bl _)⟩
  · exact .inl (pok_all T S H vs _ d Q sim rep e k)
end
end Dv
/-! min of ints, enumerate of a list -/
namespace Dv
open PySem L2
def minI : List Int → Option Int
  | [] => none
  | x :: xs => match minI xs with
    | none => some x
    | some m => some (if x < m then x else m)
theorem minI_nil : ∀ {ns : List Int}, minI ns = none → ns = []
  | [], _ => rfl
  | x :: xs, h => by
    unfold minI at h
    split at h <;> cases h
theorem minI_ok : ∀ {ns : List Int} {m : Int}, minI ns = some m → m ∈ ns ∧ ∀ y ∈ ns, m ≤ y
  | [], _, h => by cases h
  | x :: xs, m, h => by
    unfold minI at h
    split at h
    · rename_i q
      cases h
      have e := minI_nil q
      subst e
      exact ⟨List.mem_cons_self, fun y hy => by rw [List.mem_singleton.mp hy]; exact Int.le_refl _⟩
    · rename_i k q
      obtain ⟨h1, h2⟩ := minI_ok q
      cases h
      by_cases c : x < k
      · rw [if_pos c]
        refine ⟨List.mem_cons_self, fun y hy => ?_⟩
        rcases List.mem_cons.mp hy with rfl | hy
        · exact Int.le_refl _
        · have := h2 y hy
          omega
      · rw [if_neg c]
        refine ⟨List.mem_cons_of_mem _ h1, fun y hy => ?_⟩
        rcases List.mem_cons.mp hy with rfl | hy
        · omega
        · exact h2 y hy
def minD (ds : List D) (_ : Store) : Option D := match ds with
  | [.lst xs] => ((intsOf xs).bind minI).map .int
  | _ => none
section
variable {K : PySem.W.Frag} {mg : Str → Option Value}
theorem pok_min : POk K mg (rMin K) minD := fun T S H vs ds d Q sim rep e k => by
  unfold minD at e
  split at e
  · rename_i xs
    obtain ⟨m, e1, rfl⟩ := Option.map_eq_some_iff.mp e
    obtain ⟨ns, hi, hm⟩ := Option.bind_eq_some_iff.mp e1
    have hx := intsOf_some hi
    subst hx
    obtain ⟨v, rfl, r⟩ := rep.one
    cases r with
    | @lst a ys _ h n rl =>
      have hy := rl.of_ints
      subst hy
      obtain ⟨h1, h2⟩ := minI_ok hm
      refine ⟨a, ns, rfl, SqL.of h, List.length_pos_of_mem h1, fun z z1 z2 => ?_⟩
      have ez : z = m := Int.le_antisymm (z2 m h1) (h2 z z1)
      subst ez
      exact k H _ (Step.refl T H) sim (.int _)
  · cases e
end
/-- the pairs of enumerate -/
def enumL (xs : List D) : List D := (List.range xs.length).zipWith (fun i d => D.tup [.int (i : Nat), d]) xs
theorem enumL_len (xs : List D) : (enumL xs).length = xs.length := by
  unfold enumL
  rw [List.length_zipWith, List.length_range, Nat.min_self]
theorem enumL_get {xs : List D} {i : Nat} {d : D} (h : (enumL xs)[i]? = some d) : ∃ x, xs[i]? = some x ∧ d = .tup [.int (i : Nat), x] := by
  unfold enumL at h
  rw [List.getElem?_zipWith] at h
  cases q : xs[i]? with
  | none => rw [q] at h; cases p : (List.range xs.length)[i]? <;> rw [p] at h <;> cases h
  | some x =>
    have hi : i < xs.length := (List.getElem?_eq_some_iff.mp q).1
    rw [q, List.getElem?_range hi] at h
    cases h
    exact ⟨x, rfl, rfl⟩
def enumD (ds : List D) : Option (List D) := match ds with
  | [.lst xs] => some (enumL xs)
  | _ => none
def mEnum (ms : AM) : IM := fun r S => (ms r S).bind fun ds S1 => ofO (enumD ds) S1
@[simp] theorem mEnum_ap {ms : AM} {r : Env} {S : Store} : mEnum ms r S = (ms r S).bind fun ds S1 => ofO (enumD ds) S1 := rfl
section
variable {X : Cx} {Wx : WX} {e : Expr} {ms : AM} {pos p tpos : Pos} {elts : List Expr} {kk : Nat}
theorem ji_enum (hg : Gl X "enumerate") (hm : X.mg "enumerate" = none) (ha : PA X [e] (tDA X.K X.mg Wx ms)) (hs : starEach [e] X.env = [(false, eval e X.env)] := by rfl) :
    PI X (.Tuple elts kk tpos) (.Call (.Name "enumerate" p) [e] [] pos) (iD X.K X.mg Wx (mEnum ms)) := pi_imp (pi_enum hg hm ha hs) fun g H Q h => by
  obtain ⟨T, r, S, rs, sim, h⟩ := h
  refine ⟨T, r, S, rs, sim, Out.bind h fun d S1 T1 H1 v st sim1 rel h1 => ?_⟩
  refine Out.use h1 fun ds e k => ?_
  unfold enumD at e
  split at e
  · rename_i xs
    cases e
    obtain ⟨v, rfl, rv⟩ := rel.one
    cases rv with
    | @lst a ys _ hH n rl =>
      refine ⟨a, ys, rfl, SqL.of hH, k T1 H1 _ (Step.refl T1 H1) sim1 ⟨fun T' S' H' kf sim' => ?_, ?_⟩⟩
      · have hq : SqL X.K H' a ys := SqL.of (kf.toKp.lst n hH).1
        refine ⟨⟨ys, hq, by rw [enumL_len, rl.length]; exact Nat.le_refl _⟩, fun i d hd => ?_⟩
        obtain ⟨x, hx, rfl⟩ := enumL_get hd
        obtain ⟨u, hu, ru⟩ := rl.get hx
        refine ⟨⟨ys, u, hq, hu⟩, fun z H2 yl => ?_⟩
        obtain ⟨P, w, rfl, hP, rfl, gw⟩ := yl
        have ew := (gw ys hq).symm.trans hu
        cases ew
        exact pair_new sim' hP (.int _) (ru.kp kf.toKp)
      · rw [enumL_len, ← rl.length]
        exact sim1.hl _ _ (.inl (.inl hH))
  · cases e
end
end Dv
/-! walks over lists that may change, so long as they do not; comprehensions whose list may change -/
namespace Dv
open PySem L2
abbrev Gd := Store → Bool
def WalksG (K : PySem.W.Frag) (mg : Str → Option Value) (T : Tb) (H : Hp) (J : It) (ds : List D) (c : Gd) : Prop := ∀ T' S' H', Kf T H T' H' → Sim K mg T' S' H' → c S' = true → J.stop ds.length H' ∧
  ∀ (i : Nat) (d : D), ds[i]? = some d → J.go i H' ∧ ∀ x H2, J.yld i H' x H2 → Step T' H' T' H2 ∧ Sim K mg T' S' H2 ∧ Rep K T' H2 x d
abbrev IG := Env → Store → R (List D × Gd)
def iG (K : PySem.W.Frag) (mg : Str → Option Value) (Wx : WX) (mi : IG) : TI := fun g H Q => ∃ T r S, RepSt K T H r g ∧ Sim K mg T S H ∧
  Out K mg Wx (fun T' H' (J : It) p => WalksG K mg T' H' J p.1 p.2 ∧ p.1.length ≤ sizeLine) T g H (mi r S) Q
def gYes : Gd := fun _ => true
/-- the list at n is still this one -/
noncomputable def gIs (n : Nat) (xs : List D) : Gd := fun S => match S[n]? with
  | some (.lst ys) => decide (ys = xs)
  | _ => false
@[simp] theorem gYes_ap (S : Store) : gYes S = true := rfl
theorem gIs_iff {n : Nat} {xs : List D} {S : Store} : gIs n xs S = true ↔ S[n]? = some (.lst xs) := by
  unfold gIs
  split
  · rename_i ys h
    rw [h]
    simp
  · rename_i h
    constructor
    · intro q; cases q
    · intro q; exact absurd q (h xs)
@[simp] theorem gIs_ap {n : Nat} {xs : List D} {S : Store} (h : S[n]? = some (.lst xs)) : gIs n xs S = true := gIs_iff.mpr h
noncomputable def seqG (d : D) (S : Store) : Option (List D × Gd) := match d with
  | .loc n => match S[n]? with
    | some (.lst xs) => some (xs, gIs n xs)
    | _ => none
  | d => (seqD d).map fun xs => (xs, gYes)
noncomputable def mIterG (m : EM) : IG := fun r S => (m r S).bind fun d S1 => ofO (seqG d S1) S1
def mPl (mi : IM) : IG := fun r S => (mi r S).bind fun ds S1 => .ok (ds, gYes) S1
noncomputable def enumG (ds : List D) (S : Store) : Option (List D × Gd) := match ds with
  | [.loc n] => match S[n]? with
    | some (.lst xs) => some (enumL xs, gIs n xs)
    | _ => none
  | ds => (enumD ds).map fun xs => (xs, gYes)
noncomputable def mEnumG (ms : AM) : IG := fun r S => (ms r S).bind fun ds S1 => ofO (enumG ds S1) S1
@[simp] theorem mIterG_ap {m : EM} {r : Env} {S : Store} : mIterG m r S = (m r S).bind fun d S1 => ofO (seqG d S1) S1 := rfl
@[simp] theorem mPl_ap {m : IM} {r : Env} {S : Store} : mPl m r S = (m r S).bind fun ds S1 => .ok (ds, gYes) S1 := rfl
@[simp] theorem mEnumG_ap {m : AM} {r : Env} {S : Store} : mEnumG m r S = (m r S).bind fun d S1 => ofO (enumG d S1) S1 := rfl
section
variable {X : Cx} {Wx : WX} {tg e : Expr} {m : EM} {ms : AM} {mi : IM} {pos p tpos : Pos} {elts : List Expr} {kk : Nat}
theorem walksG_of {K : PySem.W.Frag} {mg : Str → Option Value} {T : Tb} {H : Hp} {J : It} {ds : List D} {c : Gd} (h : Walks K mg T H J ds) : WalksG K mg T H J ds c := fun T' S' H' kf sim _ => h T' S' H' kf sim
theorem ji_pl (h : PI X tg e (iD X.K X.mg Wx mi)) : PI X tg e (iG X.K X.mg Wx (mPl mi)) := pi_imp h fun g H Q h => by
  obtain ⟨T, r, S, rs, sim, h⟩ := h
  refine ⟨T, r, S, rs, sim, Out.bind h fun ds S1 T1 H1 J st sim1 rel h1 => ?_⟩
  exact h1 T1 H1 J (Step.refl T1 H1) sim1 ⟨walksG_of rel.1, rel.2⟩
theorem walks_loc {K : PySem.W.Frag} {mg : Str → Option Value} {T : Tb} {H : Hp} {a : Addr} {n : Nat} {xs : List D} (h : T.loc[n]? = some a) : WalksG K mg T H (Itl K a) xs (gIs n xs) := fun T' S' H' kf sim hc => by
  have hT := kf.get n a h
  obtain ⟨vs, h1, h2⟩ := sim.obj n a _ hT (gIs_iff.mp hc)
  have hq : SqL K H' a vs := SqL.of h1
  refine ⟨⟨vs, hq, by rw [h2.length]; exact Nat.le_refl _⟩, fun i d e => ?_⟩
  obtain ⟨v, g1, g2⟩ := h2.get e
  refine ⟨⟨vs, v, hq, g1⟩, fun x H2 y => ?_⟩
  obtain ⟨rfl, y⟩ := y
  have e2 := (y vs hq).symm.trans g1
  cases e2
  exact ⟨Step.refl _ _, sim, g2⟩
theorem ji_seqG (h : PE X e (tD X.K X.mg Wx m)) : PI X tg e (iG X.K X.mg Wx (mIterG m)) := pi_imp (pi_sq h) fun g H Q h => by
  obtain ⟨T, r, S, rs, sim, h⟩ := h
  refine ⟨T, r, S, rs, sim, Out.bind h fun d S1 T1 H1 v st sim1 rel h1 => ?_⟩
  refine Out.use h1 fun dsc e k => ?_
  cases rel with
  | loc q =>
    rename_i a n
    unfold seqG at e
    split at e
    · rename_i n' heq
      cases heq
      split at e
      · rename_i xs hS
        cases e
        obtain ⟨vs, h1, h2⟩ := sim1.obj n a _ q hS
        exact .inl ⟨_, _, rfl, SqL.of h1, k T1 H1 _ (Step.refl T1 H1) sim1 ⟨walks_loc q, by rw [← h2.length]; exact sim1.hl _ _ (.inl (.inl h1))⟩⟩
      · cases e
    · rename_i hn
      exact absurd rfl (hn n)
  | lst q1 q2 q3 =>
    cases e
    exact .inl ⟨_, _, rfl, SqL.of q1, k T1 H1 _ (Step.refl T1 H1) sim1 ⟨walksG_of (walks_lst (.inl ⟨.inl q1, q2⟩) q3), by rw [← q3.length]; exact sim1.hl _ _ (.inl (.inl q1))⟩⟩
  | scr q =>
    cases e
    exact .inl ⟨_, _, rfl, q.sq, k T1 H1 _ (Step.refl T1 H1) sim1 ⟨walksG_of (walks_lst q (RepL.ints _)), by have := sim1.llen q; rw [List.length_map] at this ⊢; exact this⟩⟩
  | tup q1 q2 q3 =>
    cases e
    exact .inr (.inl ⟨_, _, rfl, SqT.of q1, k T1 H1 _ (Step.refl T1 H1) sim1 ⟨walksG_of (walks_tup q1 q2 q3), by rw [← q3.length]; exact sim1.hl _ _ (.inr (.inl q1))⟩⟩)
  | str x =>
    have e : ((seqD (.str x)).map fun xs => (xs, gYes)) = some dsc := e
    simp only [seqD] at e
    split at e
    · rename_i hz
      cases e
      exact .inr (.inr ⟨x, rfl, k T1 H1 _ (Step.refl T1 H1) sim1 ⟨walksG_of walks_str, by rw [List.length_map, Array.length_toList]; exact sz5 hz⟩⟩)
    · cases e
  | _ => cases e
theorem ji_enumG (hg : Gl X "enumerate") (hm : X.mg "enumerate" = none) (ha : PA X [e] (tDA X.K X.mg Wx ms)) (hs : starEach [e] X.env = [(false, eval e X.env)] := by rfl) :
    PI X (.Tuple elts kk tpos) (.Call (.Name "enumerate" p) [e] [] pos) (iG X.K X.mg Wx (mEnumG ms)) := pi_imp (pi_enum hg hm ha hs) fun g H Q h => by
  obtain ⟨T, r, S, rs, sim, h⟩ := h
  refine ⟨T, r, S, rs, sim, Out.bind h fun d S1 T1 H1 v st sim1 rel h1 => ?_⟩
  refine Out.use h1 fun dsc e k => ?_
  unfold enumG at e
  split at e
  · rename_i n
    split at e
    · rename_i xs hS
      cases e
      obtain ⟨v, rfl, rv⟩ := rel.one
      cases rv with
      | @loc a _ q =>
        obtain ⟨vs, h1, h2⟩ := sim1.obj n a _ q hS
        refine ⟨a, vs, rfl, SqL.of h1, k T1 H1 _ (Step.refl T1 H1) sim1 ⟨fun T' S' H' kf sim' hc => ?_, ?_⟩⟩
        · obtain ⟨ws, h1, h2⟩ := sim'.obj n a _ (kf.get n a q) (gIs_iff.mp hc)
          have hq : SqL X.K H' a ws := SqL.of h1
          refine ⟨⟨ws, hq, by rw [enumL_len, h2.length]; exact Nat.le_refl _⟩, fun i d hd => ?_⟩
          obtain ⟨x, hx, rfl⟩ := enumL_get hd
          obtain ⟨u, hu, ru⟩ := h2.get hx
          refine ⟨⟨ws, u, hq, hu⟩, fun z H2 yl => ?_⟩
          obtain ⟨P, w, rfl, hP, rfl, gw⟩ := yl
          have ew := (gw ws hq).symm.trans hu
          cases ew
          exact pair_new sim' hP (.int _) ru
        · rw [enumL_len, ← h2.length]
          exact sim1.hl _ _ (.inl (.inl h1))
    · cases e
  · obtain ⟨xs, e, rfl⟩ := Option.map_eq_some_iff.mp e
    unfold enumD at e
    split at e
    · rename_i xs
      cases e
      obtain ⟨v, rfl, rv⟩ := rel.one
      cases rv with
      | @lst a ys _ hH n rl =>
        refine ⟨a, ys, rfl, SqL.of hH, k T1 H1 _ (Step.refl T1 H1) sim1 ⟨fun T' S' H' kf sim' _ => ?_, ?_⟩⟩
        · have hq : SqL X.K H' a ys := SqL.of (kf.toKp.lst n hH).1
          refine ⟨⟨ys, hq, by rw [enumL_len, rl.length]; exact Nat.le_refl _⟩, fun i d hd => ?_⟩
          obtain ⟨x, hx, rfl⟩ := enumL_get hd
          obtain ⟨u, hu, ru⟩ := rl.get hx
          refine ⟨⟨ys, u, hq, hu⟩, fun z H2 yl => ?_⟩
          obtain ⟨P, w, rfl, hP, rfl, gw⟩ := yl
          have ew := (gw ys hq).symm.trans hu
          cases ew
          exact pair_new sim' hP (.int _) (ru.kp kf.toKp)
        · rw [enumL_len, ← rl.length]
          exact sim1.hl _ _ (.inl (.inl hH))
    · cases e
end
/-! ### for -/
def sLoopG (c : Gd) (gm : D → Env → Option Env) (b : SM) : List D → SM
  | [] => fun r S => if c S = true then .ok .next r S else .bad
  | d :: ds => fun r S => if c S = true then (match gm d r with
    | none => .bad
    | some r1 => match b r1 S with
      | .ok .next r2 S2 => sLoopG c gm b ds r2 S2
      | .ok .cont r2 S2 => sLoopG c gm b ds r2 S2
      | .ok .brk r2 S2 => .ok .next r2 S2
      | .ok (.ret d) r2 S2 => .ok (.ret d) r2 S2
      | .exc x r2 S2 => .exc x r2 S2
      | .bad => .bad) else .bad
def sForG (mi : IG) (gm : D → Env → Option Env) (b : SM) : SM := fun r S => bindS (mi r S) r fun p S1 => sLoopG p.2 gm b p.1 r S1
@[simp] theorem sForG_ap {mi : IG} {gm : D → Env → Option Env} {b : SM} {r : Env} {S : Store} : sForG mi gm b r S = bindS (mi r S) r fun p S1 => sLoopG p.2 gm b p.1 r S1 := rfl
section
variable {X : Cx} {Wx : WX} {pos : Pos} {tg iter : Expr} {mi : IG} {sl : List Nat} {gm : D → Env → Option Env} {sb : SM}
theorem js_forG {body : List Stmt} (hp : PassesOwn (model X.prog X.w) X.A X.env X.xe) (hc : X.calm = true) (hi : PI X tg iter (iG X.K X.mg Wx mi)) (hg : PG X tg (gD X.K X.mg sl gm)) (hb : PSs X body (tDS X.K X.mg Wx sb))
    (hs : ∀ x, foldedSetIterable iter X.env x = pure x := by intro _; rfl) : PS X (.For tg iter body [] pos) (tDS X.K X.mg Wx (sForG mi gm sb)) :=
  ps_imp (ps_for hp hc hi hg hb hs) fun E g H h => by
    obtain ⟨T, r, S, rs, sim, h⟩ := h
    refine ⟨T, r, S, rs, sim, ZOut.bind h rs fun dsc S1 T1 H1 J st sim1 rel rs1 h1 => ?_⟩
    obtain ⟨ds, c⟩ := dsc
    obtain ⟨wk, hz⟩ := rel
    refine ⟨fun i m g H => ∃ T r S, m = ds.length - i ∧ i ≤ ds.length ∧ Step T1 H1 T H ∧ RepSt X.K T H r g ∧ Sim X.K X.mg T S H ∧ ZOut X.K X.mg Wx T H (sLoopG c gm sb (ds.drop i) r S) E, ⟨ds.length, T1, r, S1, by simp, Nat.zero_le _, Step.refl T1 H1, rs1, sim1, h1⟩, ?_⟩
    rintro i m g2 H2 ⟨T2, r2, S2, rfl, hi2, st2, rs2, sim2, h2⟩
    by_cases hlt : i < ds.length
    · have ed : ds.drop i = ds[i] :: ds.drop (i + 1) := List.drop_eq_getElem_cons hlt
      rw [ed] at h2
      by_cases hcc : c S2 = true
      · simp only [sLoopG, if_pos hcc] at h2
        obtain ⟨stop, go⟩ := wk T2 S2 H2 st2.kf sim2 hcc
        obtain ⟨g1, yl⟩ := go i ds[i] (List.getElem?_eq_getElem hlt)
        refine .inr ⟨g1, fun g H => ∃ T r S, Step T1 H1 T H ∧ RepSt X.K T H r g ∧ Sim X.K X.mg T S H ∧ ZOut X.K X.mg Wx T H (sLoopG c gm sb (ds.drop (i + 1)) r S) E, fun g3 H3 q => ?_, fun x H3 y => ?_⟩
        · obtain ⟨T3, r3, S3, q1, q2, q3, q4⟩ := q
          exact ⟨ds.length - (i + 1), by omega, T3, r3, S3, rfl, hlt, q1, q2, q3, q4⟩
        · obtain ⟨st3, sim3, rep3⟩ := yl x H3 y
          have h3 := ZOut.step st3 h2
          split at h3
          · exact h3.elim
          · rename_i r3 eg
            refine ⟨T2, r2, S2, ds[i], r3, rs2.step st3, sim3, rep3, eg, fun g4 rs4 _ _ => ⟨T2, r3, S2, rs4, sim3, ?_⟩⟩
            revert h3
            cases sb r3 S2 with
            | bad => exact fun h => h
            | exc n r' S' => exact fun h => h
            | ok f r' S' =>
              cases f with
              | next => exact fun h T' H' g' s sim' rs' => ⟨T', r', S', (st2.trans st3).trans s, rs', sim', ZOut.step s h⟩
              | cont => exact fun h T' H' g' s sim' rs' => ⟨T', r', S', (st2.trans st3).trans s, rs', sim', ZOut.step s h⟩
              | ret d => exact fun h => h
              | brk => exact fun h => h
      · simp only [sLoopG, if_neg hcc] at h2
        exact h2.elim
    · have e : i = ds.length := by omega
      subst e
      rw [List.drop_length] at h2
      by_cases hcc : c S2 = true
      · simp only [sLoopG, if_pos hcc] at h2
        obtain ⟨stop, go⟩ := wk T2 S2 H2 st2.kf sim2 hcc
        exact .inl ⟨stop, h2.nx sim2 rs2⟩
      · simp only [sLoopG, if_neg hcc] at h2
        exact h2.elim
end
/-! ### comprehensions -/
def lcG (c : Gd) (gm : D → Env → Option Env) (tt : BM) (te : EM) (r0 : Env) : List D → Store → R (List D)
  | [], S => if c S = true then .ok [] S else .bad
  | d :: ds, S => if c S = true then (match gm d r0 with
    | none => .bad
    | some r1 => (nox (tt r1 S)).bind fun b S1 => if b = true then (nox (te r1 S1)).bind fun y S2 => (lcG c gm tt te r0 ds S2).bind fun ys S3 => .ok (y :: ys) S3 else lcG c gm tt te r0 ds S1) else .bad
def lcEnd (nw : Bool) (ys : List D) (S : Store) : R D := if nw = true then .ok (.loc S.length) (S ++ [.lst ys]) else .ok (.lst ys) S
@[simp] theorem lcEnd_t (ys : List D) (S : Store) : lcEnd true ys S = .ok (.loc S.length) (S ++ [.lst ys]) := rfl
@[simp] theorem lcEnd_f (ys : List D) (S : Store) : lcEnd false ys S = .ok (.lst ys) S := rfl
def mLcG (nw : Bool) (mi : IG) (vs : List Nat) (gm : D → Env → Option Env) (tt : BM) (te : EM) : EM := fun r S => (mi r S).bind fun p S1 => (lcG p.2 gm tt te (wipeE r vs) p.1 S1).bind fun ys S2 => lcEnd nw ys S2
@[simp] theorem mLcG_ap {nw : Bool} {mi : IG} {vs : List Nat} {gm : D → Env → Option Env} {tt : BM} {te : EM} {r : Env} {S : Store} : mLcG nw mi vs gm tt te r S = (mi r S).bind fun p S1 => (lcG p.2 gm tt te (wipeE r vs) p.1 S1).bind fun ys S2 => lcEnd nw ys S2 := rfl
section
variable {K : PySem.W.Frag} {mg : Str → Option Value} {H : Hp}
theorem kp_show {p : Addr} {l h : List Addr} : Kp ⟨l, p :: h⟩ H ⟨l ++ [p], h⟩ H := by
  have off : ∀ {b}, (Tb.mk l (p :: h)).off b → (Tb.mk (l ++ [p]) h).off b := fun {b} x => ⟨fun q => by
    rcases List.mem_append.mp q with q | q
    · exact x.1 q
    · exact x.2 (by rw [List.mem_singleton.mp q]; exact List.mem_cons_self), fun q => x.2 (List.mem_cons_of_mem _ q)⟩
  exact ⟨fun _ _ _ n q => ⟨q, off n⟩, fun _ _ n q => ⟨q, off n⟩, fun n a q => by
    show (l ++ [p])[n]? = some a
    rw [List.getElem?_append_left (List.getElem?_eq_some_iff.mp q).1]
    exact q⟩
/-- the hidden list shown, as one that may change -/
theorem Sim.show' {S : Store} {p : Addr} {l h : List Addr} {vs : List V} {ds : List D} (s : Sim K mg ⟨l, p :: h⟩ S H) (hp : H p = some (.lst vs)) (r : RepL K ⟨l, p :: h⟩ H vs ds) : Sim K mg ⟨l ++ [p], h⟩ (S ++ [.lst ds]) H := by
  have hlen : l.length = S.length := s.len
  refine ⟨?_, ?_, fun i a o h1 h2 => ?_, fun a ha => s.hid a (List.mem_cons_of_mem _ ha), s.hl⟩
  · show (l ++ [p]).length = _
    rw [List.length_append, List.length_append, hlen]
    rfl
  · have := s.nd
    show (l ++ [p] ++ h).Nodup
    rw [List.append_assoc]
    exact this
  · have h1' : (l ++ [p])[i]? = some a := h1
    by_cases q : i < l.length
    · rw [List.getElem?_append_left q] at h1'
      rw [List.getElem?_append_left (by rw [← hlen]; exact q)] at h2
      exact (s.obj i a o h1' h2).kp kp_show rfl
    · have hi : i = l.length := by
        have := (List.getElem?_eq_some_iff.mp h1').1
        rw [List.length_append, List.length_singleton] at this
        omega
      subst hi
      rw [List.getElem?_append_right (Nat.le_refl _), Nat.sub_self] at h1'
      rw [hlen, List.getElem?_append_right (Nat.le_refl _), Nat.sub_self] at h2
      cases h1'
      cases h2
      exact ⟨vs, hp, r.kp kp_show⟩
end
section
variable {X : Cx} {Wx : WX} {elt tg iter : Expr} {ifs : List Expr} {scope : Scope} {own : List (Str × Nat)} {pos : Pos} {mi : IG} {sl : List Nat} {gm : D → Env → Option Env} {tt : BM} {te : EM} {nw : Bool}
theorem tLcG_of {K : PySem.W.Frag} {mg : Str → Option Value} {vs : List Nat} (hsl : ∀ i ∈ sl, i ∈ vs) : ∀ g H Q, tD K mg Wx (mLcG nw mi vs gm tt te) g H Q → tLc (iG K mg Wx mi) (gD K mg sl gm) (tDT K mg W0 tt) (tD K mg W0 te) vs g H Q := by
  intro g H Q h
  obtain ⟨T, r, S, rs, sim, h⟩ := h
  refine ⟨T, r, S, rs, sim, Out.bind h fun dsc S1 T1 H1 J st sim1 rel h1 => ?_⟩
  obtain ⟨ds, c⟩ := dsc
  obtain ⟨wk, hz⟩ := rel
  have hz : ds.length ≤ sizeLine := hz
  intro Dl hD
  have hl0 : HLen (upd H1 Dl (.lst [])) := hlen_lst sim1.hl (Nat.zero_le _)
  obtain ⟨kp0, simh⟩ := sim1.hide (u := .lst []) hD hl0
  have rs1 := rs.step st
  refine ⟨fun i m H => ∃ T S acc ys, m = ds.length - i ∧ i ≤ ds.length ∧ T.hid = Dl :: T1.hid ∧ Step T1 H1 ⟨T.loc, T1.hid⟩ H ∧ Sim K mg T S H ∧ H Dl = some (.lst acc) ∧ RepL K T H acc ys ∧ ys.length ≤ i ∧
    Out K mg Wx (Rep K) T1 g H1 ((lcG c gm tt te (wipeE r vs) (ds.drop i) S).bind fun zs S2 => lcEnd nw (ys ++ zs) S2) Q, ⟨ds.length, T1.hide Dl, S1, [], [], by simp, Nat.zero_le _, rfl, sim1.stepNew hD, simh, upd_same, .nil, Nat.le_refl _, by simpa using h1⟩, ?_⟩
  rintro i m H2 ⟨T2, S2, acc, ys, rfl, hi, eh, st2, sim2, hD2, ra, hys, ho⟩
  have off2 : ∀ b, T1.off b → H1 b ≠ none → T2.off b := fun b n q => ⟨(st2.out q n).1, fun z => by
    rw [eh] at z
    rcases List.mem_cons.mp z with z | z
    · exact q (by rw [z]; exact hD)
    · exact n.2 z⟩
  have kp2 : Kp T1 H1 T2 H2 := ⟨fun b u k n q => ⟨st2.keep b u n q, off2 b n (some_ne q)⟩, fun b u n q => ⟨st2.rd q n, off2 b n (rd_some q)⟩, fun n a q => st2.get q⟩
  have kf2 : Kf T1 H1 T2 H2 := ⟨kp2, fun b o u n q => ⟨st2.keep b _ n q, off2 b n (some_ne q)⟩⟩
  by_cases hlt : i < ds.length
  · have ed : ds.drop i = ds[i] :: ds.drop (i + 1) := List.drop_eq_getElem_cons hlt
    rw [ed] at ho
    by_cases hcc : c S2 = true
    · obtain ⟨stop, go⟩ := wk T2 S2 H2 kf2 sim2 hcc
      obtain ⟨g1, yl⟩ := go i ds[i] (List.getElem?_eq_getElem hlt)
      refine .inr ⟨g1, fun H => ∃ T S acc ys, T.hid = Dl :: T1.hid ∧ Step T1 H1 ⟨T.loc, T1.hid⟩ H ∧ Sim K mg T S H ∧ H Dl = some (.lst acc) ∧ RepL K T H acc ys ∧ ys.length ≤ i + 1 ∧
        Out K mg Wx (Rep K) T1 g H1 ((lcG c gm tt te (wipeE r vs) (ds.drop (i + 1)) S).bind fun zs S2 => lcEnd nw (ys ++ zs) S2) Q, fun H3 q => ?_, fun x H3 y => ?_⟩
      · obtain ⟨T3, S3, acc3, ys3, q1, q2, q3, q4, q5, q6, q7⟩ := q
        exact ⟨ds.length - (i + 1), by omega, T3, S3, acc3, ys3, rfl, hlt, q1, q2, q3, q4, q5, q6, q7⟩
      · obtain ⟨st3, sim3, rep3⟩ := yl x H3 y
        simp only [lcG, if_pos hcc] at ho
        -- how a step of the hidden table is one of the open one
        have opn : ∀ {Ta Tb : Tb} {Ha Hb : Hp}, Ta.hid = Dl :: T1.hid → Step T1 H1 ⟨Ta.loc, T1.hid⟩ Ha → Step Ta Ha Tb Hb → Tb.hid = Dl :: T1.hid ∧ Step T1 H1 ⟨Tb.loc, T1.hid⟩ Hb := fun {Ta Tb Ha Hb} e1 s1 s2 => by
          refine ⟨s2.hid.trans e1, s1.trans ⟨s2.ext, rfl, fun b hb => s2.hkeep b (by rw [e1]; exact List.mem_cons_of_mem _ hb), fun b u n q => ?_, s2.new⟩⟩
          by_cases hb : b = Dl
          · subst hb
            rw [s2.hkeep b (by rw [e1]; exact List.mem_cons_self)]
            exact q
          · exact s2.keep b u ⟨n.1, fun z => by
              rw [e1] at z
              exact (List.mem_cons.mp z).elim hb n.2⟩ q
        obtain ⟨eh3, op3⟩ := opn eh st2 st3
        have hid3 : Dl ∈ T2.hid := by rw [eh]; exact List.mem_cons_self
        split at ho
        · exact ho.elim
        · rename_i r1 eg
          refine ⟨T2, wipeE r vs, S2, ds[i], r1, ((rs1.wipe vs).kp kp2).step st3, sim3, rep3, eg, fun g4 rs4 lg kg => ⟨wipe_same hsl (by rw [lg, wipe_length]) kg, T2, r1, S2, rs4, sim3, ?_⟩⟩
          rw [R.bind_assoc] at ho
          refine lc_bind ho fun b S4 T4 H4 v st4 sim4 rel4 ho4 => ?_
          subst rel4
          obtain ⟨eh4, op4⟩ := opn eh3 op3 st4
          have hid4 : Dl ∈ T4.hid := by rw [eh4]; exact List.mem_cons_self
          have hD4 : H4 Dl = some (.lst acc) := (st4.hkeep Dl hid3).trans ((st3.hkeep Dl hid3).trans hD2)
          cases v with
          | false =>
            rw [if_neg Bool.false_ne_true] at ho4 ⊢
            exact ⟨T4, S4, acc, ys, eh4, op4, sim4, hD4, ra.step (st3.trans st4), by omega, ho4⟩
          | true =>
            rw [if_pos rfl, R.bind_assoc] at ho4
            rw [if_pos rfl]
            refine ⟨T4, r1, S4, rs4.step st4, sim4, lc_bind ho4 fun yd S5 T5 H5 yv st5 sim5 rel5 ho5 => ?_⟩
            obtain ⟨eh5, op5⟩ := opn eh4 op4 st5
            have hid5 : Dl ∈ T5.hid := by rw [eh5]; exact List.mem_cons_self
            have ra5 : RepL K T5 H5 acc ys := ra.step ((st3.trans st4).trans st5)
            have hal : acc.length < sizeLine := by rw [ra5.length]; omega
            have hl5 : HLen (upd H5 Dl (.lst (acc ++ [yv]))) := hlen_lst sim5.hl (by rw [List.length_append, List.length_singleton]; omega)
            obtain ⟨kp5, sim6⟩ := sim5.setHid (u := .lst (acc ++ [yv])) hid5 hl5
            refine ⟨acc, (st5.hkeep Dl hid4).trans hD4, hal, T5, S5, acc ++ [yv], ys ++ [yd], eh5, ⟨op5.ext, rfl, fun b hb => ?_, fun b u n q => ?_, op5.new⟩, sim6, upd_same, RepL.append (ra5.kp kp5.toKp) (.cons (rel5.kp kp5.toKp) .nil), by rw [List.length_append, List.length_singleton]; omega, ?_⟩
            · rw [upd_ne fun e => sim1.hid b hb (by rw [e]; exact hD)]
              exact op5.hkeep b hb
            · rw [upd_ne (ne_of_none q hD)]
              exact op5.keep b u n q
            · rw [R.bind_assoc] at ho5
              have e5 : (fun zs S2 => (lcEnd nw (ys ++ [yd] ++ zs) S2 : R D)) = fun a S => (R.ok (yd :: a) S).bind fun zs S2 => lcEnd nw (ys ++ zs) S2 := by
                funext zs S2
                show _ = lcEnd nw (ys ++ (yd :: zs)) S2
                rw [List.append_assoc]
                rfl
              rw [e5]
              exact ho5
    · simp only [lcG, if_neg hcc] at ho
      exact ho.elim
  · have e : i = ds.length := by omega
    subst e
    rw [List.drop_length] at ho
    by_cases hcc : c S2 = true
    · obtain ⟨stop, go⟩ := wk T2 S2 H2 kf2 sim2 hcc
      simp only [lcG, if_pos hcc] at ho
      cases nw with
      | false =>
        refine .inl ⟨stop, ho ⟨T2.loc, T1.hid⟩ H2 _ st2 ?_ ?_⟩
        · have h9 := sim2
          obtain ⟨l2, h2⟩ := T2
          cases eh
          exact h9.unhide
        · obtain ⟨l2, h2⟩ := T2
          cases eh
          rw [List.append_nil]
          refine .lst hD2 ⟨fun z => ?_, fun z => ?_⟩ (ra.kp kp_unhide)
          · exact sim2.apart z List.mem_cons_self
          · have nd := (List.nodup_append.mp sim2.nd).2.1
            exact (List.nodup_cons.mp nd).1 z
      | true =>
        refine .inl ⟨stop, ho ⟨T2.loc ++ [Dl], T1.hid⟩ H2 _ ?_ ?_ ?_⟩
        · obtain ⟨mo, em⟩ := st2.ext
          refine ⟨⟨mo ++ [Dl], ?_⟩, rfl, st2.hkeep, st2.keep, fun a ha hn => ?_⟩
          · show T2.loc ++ [Dl] = _
            rw [show T2.loc = T1.loc ++ mo from em, List.append_assoc]
          · rcases List.mem_append.mp ha with q | q
            · exact st2.new a q hn
            · rw [List.mem_singleton.mp q]
              exact hD
        · obtain ⟨l2, h2⟩ := T2
          cases eh
          rw [List.append_nil]
          exact sim2.show' hD2 ra
        · refine .loc ?_
          have := sim2.len
          show (T2.loc ++ [Dl])[S2.length]? = some Dl
          rw [← this, List.getElem?_append_right (Nat.le_refl _), Nat.sub_self]
          rfl
    · simp only [lcG, if_neg hcc] at ho
      exact ho.elim
theorem j_lcG (hsl : ∀ i ∈ sl, i ∈ own.map (·.2)) (hc : X.calm = true) (hN : X.N.Nodup) (hi : PI X tg iter (iG X.K X.mg Wx mi)) (ok : BlkOk X.N X.env.scope scope own)
    (hg : ∀ (s : Shared) (H : Hp) (C : Addr) (cl : List (Str × Addr)) (fp : List Addr), PG (X.blk s H scope (compEnvC scope cl C X.env) fp) tg (gD X.K X.mg sl gm)) (ht : ∀ (s : Shared) (H : Hp) (C : Addr) (cl : List (Str × Addr)) (fp : List Addr), PTs (X.blk s H scope (compEnvC scope cl C X.env) fp) ifs (tDT X.K X.mg W0 tt))
    (he : ∀ (s : Shared) (H : Hp) (C : Addr) (cl : List (Str × Addr)) (fp : List Addr), PE (X.blk s H scope (compEnvC scope cl C X.env) fp) elt (tD X.K X.mg W0 te)) (hs : ∀ x, foldedSetIterable iter X.env x = pure x := by intro _; rfl) :
    PE X (.ListComp elt [⟨tg, iter, ifs, 0⟩] scope pos) (tD X.K X.mg Wx (mLcG nw mi (own.map (·.2)) gm tt te)) := pe_imp (pe_lc hc hN hi ok hg ht he hs) (tLcG_of hsl)
theorem js_setLcG {i : Nat} {y : Str} {py spos : Pos} (hsl : ∀ i ∈ sl, i ∈ own.map (·.2)) (hc : X.calm = true) (hN : X.N.Nodup) (hy : X.N[i]? = some y) (hyl : X.env.scope.names.lookup y = some .local)
    (hsw : swapsWith (.ListComp elt [⟨tg, iter, ifs, 0⟩] scope pos) (some (.Name y py)) spos.line X.env = pure true) (hi : PI X tg iter (iG X.K X.mg Wx mi)) (ok : BlkOk X.N X.env.scope scope own)
    (hg : ∀ (s : Shared) (H : Hp) (C : Addr) (cl : List (Str × Addr)) (fp : List Addr), PG (X.blk s H scope (compEnvC scope cl C X.env) fp) tg (gD X.K X.mg sl gm)) (ht : ∀ (s : Shared) (H : Hp) (C : Addr) (cl : List (Str × Addr)) (fp : List Addr), PTs (X.blk s H scope (compEnvC scope cl C X.env) fp) ifs (tDT X.K X.mg W0 tt))
    (he : ∀ (s : Shared) (H : Hp) (C : Addr) (cl : List (Str × Addr)) (fp : List Addr), PE (X.blk s H scope (compEnvC scope cl C X.env) fp) elt (tD X.K X.mg W0 te)) (hs : ∀ x, foldedSetIterable iter X.env x = pure x := by intro _; rfl) :
    PS X (.Assign [.Name y py] (.ListComp elt [⟨tg, iter, ifs, 0⟩] scope pos) spos) (tDS X.K X.mg Wx (sSet i (mLcG nw mi (own.map (·.2)) gm tt te))) :=
  ps_imp (ps_setLc hc hN hy hyl hsw hi ok hg ht he hs) fun E g H h => by
    obtain ⟨T, r, S, rs, sim, h⟩ := h
    refine tLcG_of hsl g H _ ⟨T, r, S, rs, sim, ZOut.bind h rs fun d S1 T1 H1 v st sim1 rel rs1 h1 => ?_⟩
    exact h1.nx sim1 (rs1.set rel)
end
/-! ### what they come to -/
theorem lcG_pure {c : Gd} {gm : D → Env → Option Env} {tt : BM} {te : EM} {r0 : Env} {S : Store} (p : D → Bool) (f : D → D) (hc : c S = true) : ∀ ds : List D, (∀ d ∈ ds, ∃ r1, gm d r0 = some r1 ∧ tt r1 S = .ok (p d) S ∧ (p d = true → te r1 S = .ok (f d) S)) → lcG c gm tt te r0 ds S = .ok ((ds.filter p).map f) S
  | [], _ => by
    unfold lcG
    rw [if_pos hc]
    rfl
  | d :: ds, h => by
    obtain ⟨r1, h1, h2, h3⟩ := h d List.mem_cons_self
    have ih := lcG_pure (c := c) (gm := gm) (tt := tt) (te := te) (r0 := r0) p f hc ds fun e he => h e (List.mem_cons_of_mem _ he)
    unfold lcG
    rw [if_pos hc]
    simp only [h1, h2, nox_ok, rb_ok]
    cases q : p d with
    | false => simp [q, ih]
    | true => simp [q, h3 q, ih]
theorem lcG_map {c : Gd} {gm : D → Env → Option Env} {te : EM} {r0 : Env} {S : Store} (f : D → D) (hc : c S = true) (ds : List D) (h : ∀ d ∈ ds, ∃ r1, gm d r0 = some r1 ∧ te r1 S = .ok (f d) S) : lcG c gm mYes te r0 ds S = .ok (ds.map f) S := by
  have := lcG_pure (c := c) (gm := gm) (tt := mYes) (te := te) (r0 := r0) (S := S) (fun _ => true) f hc ds fun d hd => by
    obtain ⟨r1, a, b⟩ := h d hd
    exact ⟨r1, a, rfl, fun _ => b⟩
  rw [this, List.filter_eq_self.mpr fun _ _ => rfl]
/-- with no check it is the plain one -/
theorem lcG_yes {gm : D → Env → Option Env} {tt : BM} {te : EM} {r0 : Env} : ∀ (ds : List D) (S : Store), lcG gYes gm tt te r0 ds S = lcL gm tt te r0 ds S
  | [], S => rfl
  | d :: ds, S => by
    unfold lcG lcL
    rw [if_pos (gYes_ap S)]
    cases gm d r0 with
    | none => rfl
    | some r1 =>
      have ih : ∀ S, lcG gYes gm tt te r0 ds S = lcL gm tt te r0 ds S := lcG_yes ds
      simp only [ih]
/-! ### three names at once -/
def sPar3 (i j l : Nat) (ms : AM) : SM := fun r S => bindS (ms r S) r fun ds S1 => match ds with
  | [a, b, c] => .ok .next (((r.set i (some a)).set j (some b)).set l (some c)) S1
  | _ => .bad
@[simp] theorem sPar3_ap {i j l : Nat} {ms : AM} {r : Env} {S : Store} : sPar3 i j l ms r S = bindS (ms r S) r fun ds S1 => match ds with
  | [a, b, c] => .ok .next (((r.set i (some a)).set j (some b)).set l (some c)) S1
  | _ => .bad := rfl
theorem js_par3 {X : Cx} {Wx : WX} {i j l : Nat} {x y z : Str} {a b c : Expr} {ms : AM} {px py pz pt pos : Pos} {kt k2 pt2} (hc : X.calm = true) (hN : X.N.Nodup) (hi : X.N[i]? = some x) (hj : X.N[j]? = some y) (hl : X.N[l]? = some z) (hij : i ≠ j) (hil : i ≠ l) (hjl : j ≠ l)
    (hx : X.env.scope.names.lookup x = some .local) (hy : X.env.scope.names.lookup y = some .local) (hz : X.env.scope.names.lookup z = some .local) (ha : PA X [a, b, c] (tDA X.K X.mg Wx ms))
    (hw : swappedStores [.Tuple [.Name x px, .Name y py, .Name z pz] kt pt] (.Tuple [a, b, c] k2 pt2) X.env = pure (some [x, y, z]))
    (hs : swapsWithSole [.Tuple [.Name x px, .Name y py, .Name z pz] kt pt] (.Tuple [a, b, c] k2 pt2) pos.line X.env = pure false := by rfl) :
    PS X (.Assign [.Tuple [.Name x px, .Name y py, .Name z pz] kt pt] (.Tuple [a, b, c] k2 pt2) pos) (tDS X.K X.mg Wx (sPar3 i j l ms)) :=
  ps_imp (ps_par3 hc hN hi hj hl hij hil hjl hx hy hz ha hw hs) fun E g H h => by
    obtain ⟨T, r, S, rs, sim, h⟩ := h
    refine ⟨T, r, S, rs, sim, ZOut.bind h rs fun d S1 T1 H1 v st sim1 rel rs1 h1 => ?_⟩
    cases rel with
    | nil => exact h1.elim
    | cons q1 rel =>
      cases rel with
      | nil => exact h1.elim
      | cons q2 rel =>
        cases rel with
        | nil => exact h1.elim
        | cons q3 rel =>
          cases rel with
          | nil => exact ⟨_, _, _, rfl, h1.nx sim1 (((rs1.set q1).set q2).set q3)⟩
          | cons _ _ => exact h1.elim
end Dv
/-! a tuple turned about -/
namespace Dv
open PySem PySem.Spec PyProof.Rows L2
section
variable {prog : Program} {w : World} {A : Around} {E : Value → Shared → Prop} {s : Shared}
theorem adjB (n : Nat) : Builtin.Slice.sliceAdjust none none (-1) (n : Int) = ((n : Int) - 1, -1) := by
  simp [Builtin.Slice.sliceAdjust]
theorem plcB (n : Nat) : Builtin.Slice.slicePlaces ((n : Int) - 1) (-1) (-1) = n := by
  unfold Builtin.Slice.slicePlaces
  rw [if_neg (by decide)]
  by_cases h : n = 0
  · subst h
    rfl
  · rw [if_pos (by omega)]
    have : (n : Int) - 1 - -1 - 1 = (n : Int) - 1 := by omega
    rw [this]
    show (((n : Int) - 1) / 1 + 1).toNat = n
    rw [Int.ediv_one]
    omega
theorem fm_congr {α β : Type} {f g : α → Option β} : ∀ {l : List α}, (∀ x ∈ l, f x = g x) → l.filterMap f = l.filterMap g
  | [], _ => rfl
  | x :: l, h => by
    rw [List.filterMap_cons, List.filterMap_cons, h x List.mem_cons_self, fm_congr fun y hy => h y (List.mem_cons_of_mem _ hy)]
theorem pickB (xs : Array Value) : ((List.range xs.size).filterMap fun (k : Nat) => xs[(((xs.size : Int) - 1) + (k : Int) * -1).toNat]?).toArray = xs.toList.reverse.toArray := by
  congr 1
  have e : (List.range xs.size).filterMap (fun (k : Nat) => xs[(((xs.size : Int) - 1) + (k : Int) * -1).toNat]?) = (List.range xs.size).filterMap fun k => xs.toList.reverse[k]? := by
    refine fm_congr fun k hk => ?_
    rw [List.mem_range] at hk
    rw [List.getElem?_reverse (by rw [Array.length_toList]; exact hk), Array.getElem?_toList, Array.length_toList]
    congr 1
    omega
  rw [e]
  have key : ∀ l : List Value, (List.range l.length).filterMap (fun k => l[k]?) = l := fun l => by
    refine List.ext_getElem? fun i => ?_
    have hm : (List.range l.length).filterMap (fun k => l[k]?) = l := by
      induction l with
      | nil => rfl
      | cons x l ih =>
        rw [List.length_cons, List.range_succ_eq_map, List.filterMap_cons]
        show x :: List.filterMap _ (List.map Nat.succ (List.range l.length)) = x :: l
        rw [List.filterMap_map]
        congr 1
    rw [hm]
  have := key xs.toList.reverse
  rw [List.length_reverse, Array.length_toList] at this
  exact this
theorem appB {b : Addr} {t : Tok} {n : Nat} {Q : Int × Int × Nat → Shared → Prop} (hs : s.heap.IsSliceOf b .none .none (.int (-1) t)) (h : Q ((n : Int) - 1, -1, n) s) : wpAny (model prog w) A (Builtin.Slice.sliceApplied (.ref b) (pure (n : Int))) Q E s := by
  obtain ⟨o, ho, _, hd⟩ := id hs
  unfold Builtin.Slice.sliceApplied Builtin.Slice.sliceFields
  have r3 : wpAny (model prog w) A (do
      let a ← field (.ref b) 0
      let c ← field (.ref b) 1
      let d ← field (.ref b) 2
      pure (a, c, d)) (fun z s' => z = (Value.none, Value.none, Value.int (-1) t) ∧ s' = s) E s :=
    wpAny_bind (wpAny_field ho hd (x := Value.none) rfl (wpAny_bind (wpAny_field ho hd (x := Value.none) rfl (wpAny_bind (wpAny_field ho hd (x := Value.int (-1) t) rfl (wpAny_pure ⟨rfl, rfl⟩))))))
  refine wpAny_bind (wpAny_mono r3 (fun z s' q => ?_) fun _ _ q => q)
  obtain ⟨rfl, rfl⟩ := q
  refine wpAny_bind (slicePart_int ?_)
  show wpAny _ _ (if ((-1 : Int) == 0) = true then _ else _) _ _ s'
  rw [if_neg (by decide)]
  refine wpAny_bind (slicePart_none (wpAny_bind (slicePart_none (wpAny_bind (wpAny_pure ?_)))))
  have e := adjB n
  show wpAny _ _ (match Builtin.Slice.sliceAdjust none none (-1) (n : Int) with | (a, c) => pure (a, (-1 : Int), Builtin.Slice.slicePlaces a c (-1))) _ _ s'
  rw [e]
  show wpAny _ _ (pure ((n : Int) - 1, (-1 : Int), Builtin.Slice.slicePlaces ((n : Int) - 1) (-1) (-1))) _ _ s'
  rw [plcB n]
  exact wpAny_pure h
theorem itemB {t b : Addr} {tk : Tok} {its : List Value} {Q : Value → Shared → Prop} (ht : IsTup s.heap t its.toArray) (hs : s.heap.IsSliceOf b .none .none (.int (-1) tk)) (hz : its.length ≤ sizeLine)
    (h : Q (.ref s.heap.objs.size) { s with heap := s.heap.push { cls := .type "tuple", data := .seq its.reverse.toArray } }) : wpAny (model prog w) A (getItem (.ref t) (.ref b)) Q E s := by
  have hzz : sizeOk (.seq its.reverse.toArray) := by
    show its.reverse.toArray.size ≤ sizeLine
    rw [List.size_toArray, List.length_reverse]
    exact hz
  have hT : s.TypeIs (.ref b) "slice" := by
    obtain ⟨o, h1, h2, _⟩ := hs
    exact ⟨o, h1, h2⟩
  have body : ∀ A : Around, wpAny (model prog w) A (Builtin.«tuple.__getitem__» ⟨[.ref t, .ref b], []⟩) (fun fin s' => ∃ v, fin = .done (.ret v) ∧ Q v s') E s := fun A => by
    unfold Builtin.«tuple.__getitem__»
    refine wpAny_bind (wpAny_of_eq (a := ((Value.ref t : Value), [Value.ref b])) (by first | rfl | (simp only [slotArgs]; rfl)) ?_)
    refine wpAny_bind (tupleItemsOf_ ht (wpAny_bind (wpAny_typeOf hT ?_)))
    rw [if_pos (by decide)]
    refine wpAny_bind (appB hs ?_)
    have ne : ¬ ((((its.toArray.size : Int) - 1) == 0 && (-1 : Int) == 1 && its.toArray.size == its.toArray.size) = true) := by
      rw [show ((-1 : Int) == 1) = false from rfl, Bool.and_false, Bool.false_and]
      exact Bool.false_ne_true
    show wpAny _ _ (if ((((its.toArray.size : Int) - 1) == 0 && (-1 : Int) == 1 && its.toArray.size == its.toArray.size)) = true then _ else _) _ _ s
    rw [if_neg ne, pickB]
    have fin : wpAny (model prog w) A (Builtin.Tuple.tupleExact its.reverse.toArray) (fun v s' => Q v s') E s := wpAny_newObj_type h hzz
    first
      | exact wpAny_bind (wpAny_mono fin (fun v s' q => wpAny_pure ⟨v, rfl, q⟩) fun _ _ q => q)
      | exact wpAny_bind (wpAny_bind (wpAny_mono fin (fun v s' q => wpAny_pure (wpAny_pure ⟨v, rfl, q⟩)) fun _ _ q => q))
      | exact wpAny_bind (wpAny_mono fin (fun v s' q => wpAny_bind (wpAny_pure (wpAny_pure ⟨v, rfl, q⟩))) fun _ _ q => q)
  unfold getItem
  try with_reducible refine wpAny_holding ?_
  refine wpAny_bind (wpAny_sequenceKey ht.typeIs (by decide) ?_)
  have cl : wpAny (model prog w) A (callSpecial? (.ref t) (Str.ofString "__getitem__") [.ref b]) (fun o s' => ∃ v, o = some v ∧ Q v s') E s :=
    wpAny_callSpecial?_slot ht.typeIs PyProof.Rows.slot_tuple_getitem (wpAny_mono (wpAny_call_entry (Q := Q) PyProof.Rows.slot_tuple_getitem ht.typeIs entry_tuple_getitem (body _) (args_tuple_getitem _ _)) (fun v s' q => ⟨v, rfl, q⟩) fun _ _ q => q)
  refine wpAny_bind (wpAny_mono cl (fun o s' q => ?_) fun _ _ q => q)
  obtain ⟨v, rfl, q⟩ := q
  exact wpAny_pure q
end
/-- a tuple from the last to the first -/
def tRevT (K : PySem.W.Frag) (te : TE) : TE := fun g H Q => te g H fun x H1 => ∃ a xs, x = .ref a ∧ SqT K H1 a xs ∧ ∀ p, H1 p = none → Q (.ref p) (upd H1 p (.tup xs.reverse))
section
variable {X : Cx} {Wx : WX} {m : EM}
theorem pe_revT {e : Expr} {te : TE} {k : Nat} {q1 q2 q3 q4 : Pos} (he : PE X e te) : PE X (.Subscript e (.Slice none none (some (.UnaryOp .USub (.Constant (.int 1) k q1) q2)) q3) q4) (tRevT X.K te) := ⟨fun pins s g H Q I h => by
  refine Subscript_ (thn (he.run pins s g H _ I h) fun v s1 hv => ?_)
  obtain ⟨x, H1, I1, r1, a, xs, rfl, hx, q⟩ := hv
  cases r1
  have st : PO X (some (.UnaryOp .USub (.Constant (.int 1) k q1) q2)) (tPart (tUn (rU fun i => .int (-i)) (tC (.int 1)))) := po_some (pe_un un_neg pe_int)
  refine wpAny_Slice (thn (po_none.run pins s1 g H1 (fun o H2 => o = none ∧ H2 = H1) I1 ⟨rfl, rfl⟩) fun v1 s2 h2 => ?_)
  obtain ⟨o2, H2, I2, p2, rfl, rfl⟩ := h2
  refine thn (po_none.run pins s2 g H2 (fun o H3 => o = none ∧ H3 = H2) I2 ⟨rfl, rfl⟩) fun v2 s3 h3 => ?_
  obtain ⟨o3, H3, I3, p3, rfl, rfl⟩ := h3
  refine thn (st.run pins s3 g H3 (fun o H4 => o = some (-1) ∧ H4 = H3) I3 ⟨1, rfl, -1, rfl, rfl, rfl⟩) fun v3 s4 h4 => ?_
  obtain ⟨o4, H4, I4, p4, rfl, rfl⟩ := h4
  cases p2
  cases p3
  cases p4 with
  | int _ tk =>
    have I5 := I4.kept (h' := s4.heap.push { cls := .type "slice", data := .fields #[.none, .none, .int (-1) tk] }) (t' := s4.toks) fun b ob z => Heap.get?_push_of_some _ z
    obtain ⟨its, r, ht, hz⟩ := I5.tuple hx
    refine tail_any (ops := [.ref a, .ref s4.heap.objs.size]) (IsTup.typeIs ht) PyProof.Rows.slot_tuple_getitem.lookup ?_ (by with_unfolding_all rfl)
    refine itemB (its := its) ht (Heap.IsSliceOf.new _ _ _ _) (by rw [← r.length]; exact hz) ?_
    refine ⟨.ref _, _, I5.laid (t' := s4.toks) (o := .tup xs.reverse) (fun b ob z => Heap.get?_push_of_some _ z) (Nat.le_refl _) ?_, rfl, q _ (I5.hok.fresh (Nat.le_refl _))⟩
    exact ⟨by rw [List.length_reverse]; exact hz, its.reverse, r.reverse, IsTup.new _ _⟩⟩
end
end Dv
/-! a tuple so many times; the text of an int -/
namespace Dv
open PySem PySem.Spec PyProof.Rows L2
theorem mulOne (l : Addr) (items : Array Value) (n : Nat) (dd : Option Addr) (sl : Array (Option Value)) (u : Tok) :
    Meets (Builtin.«tuple.__mul__» ⟨[.ref l, .int 1 u], []⟩) (fun _ R s => s.heap.get? l = some { cls := .type "tuple", dict := dd, data := .seq items n, slots := sl } ∧ R (.ok (.ret (Value.ref l))) s) :=
  .of_wp fun prog w A R s h => by
    obtain ⟨hp, g, d, tk, os⟩ := s
    obtain ⟨hl, h⟩ := h
    have f1 := AutoSeq1.idx_int
    wp_walk using wpAny_loadPart' hl
    exact ⟨_, rfl, h⟩
def rRep1 (K : PySem.W.Frag) : R2 := fun x y H Q => ∃ l xs, x = .ref l ∧ y = .int 1 ∧ SqT K H l xs ∧ Q (.ref l) H
section
variable {X : Cx}
theorem op_rep1 : OpR X (binaryOp .Mult) (rRep1 X.K) := by
  intro pins s g H x y v u Q I rx ry h
  obtain ⟨l, xs, rfl, rfl, hT, q⟩ := h
  cases rx
  obtain ⟨t, rfl⟩ := ry
  obtain ⟨its, r, ⟨⟨cls, dd, data, sl⟩, ho, hc, n, hd⟩, hs⟩ := I.tuple hT
  simp only at hc hd
  subst hc hd
  refine wpAny_binaryOp_repeat_ref (T := "tuple") (U := "int") (by decide) ⟨_, ho, rfl⟩ (fun s' => typeIs_int s' 1 t) noFill_tuple_mul F.fills_int_mul F.slot_int_rmul repeat_tuple F.slot_int_index.lookup ?_
  refine call_meets F.slot_int_rmul (typeIs_int s 1 t) F.entry_int_rmul (F.args_int_rmul_2 _ _) (int_rmul_tuple 1 t l its.toArray n dd sl) ⟨ho, rfl, ⟨_, ho, rfl⟩, ?_⟩
  exact call_meets F.slot_tuple_mul ⟨_, ho, rfl⟩ F.entry_tuple_mul (F.args_tuple_mul_2 _ _) (mulOne l its.toArray n dd sl t) ⟨ho, ⟨.ref l, H, I, rfl, q⟩⟩
def rMulT (K : PySem.W.Frag) : R2 := fun x y H Q => rMulA x y H Q ∨ rRepT K x y H Q ∨ rRep1 K x y H Q
theorem op_mulT : OpR X (binaryOp .Mult) (rMulT X.K) := OpR.or op_mulA (OpR.or op_repT op_rep1)
end
def mulTD (a b : D) (S : Store) : Option D := match a, b with
  | .tup xs, .int k => if k = 1 then some (.tup xs) else if 2 ≤ k ∧ k ≤ 1000 ∧ xs ≠ [] ∧ xs.length ≤ 90 then some (.tup (List.replicate k.toNat xs).flatten) else none
  | a, b => mulD a b S
theorem pok_mulT {K : PySem.W.Frag} {mg : Str → Option Value} : POk2 K mg (rMulT K) mulTD := fun T S H x y a b d Q sim rx ry e k => by
  unfold mulTD at e
  split at e
  · rename_i xs j
    cases rx with
    | @tup l vs _ h n r =>
      cases ry
      split at e
      · rename_i h1
        subst h1
        cases e
        exact .inr (.inr ⟨l, vs, rfl, rfl, SqT.of h, k H _ (Step.refl T H) sim (.tup h n r)⟩)
      · split at e
        · rename_i c
          obtain ⟨c1, c2, c3, c4⟩ := c
          cases e
          have hl : (List.replicate j.toNat vs).flatten.length ≤ sizeLine := by
            rw [flat_len, r.length]
            have : xs.length * j.toNat ≤ 90 * 1000 := Nat.mul_le_mul c4 (by omega)
            rw [sizeLine_eq]
            omega
          refine .inr (.inl ⟨l, j, vs, rfl, rfl, SqT.of h, fun q => c3 (by
            have := r.length
            rw [q] at this
            exact List.eq_nil_of_length_eq_zero this.symm), c1, c2, by rw [r.length]; omega, fun p hp => ?_⟩)
          exact k _ (.ref p) (sim.stepNew hp) (sim.new hp (hlen_tup sim.hl hl)) (.tup upd_same (sim.off hp) ((r.rep j.toNat).step (sim.stepNew hp)))
        · cases e
  · exact .inl (pok_mul T S H x y a b d Q sim rx ry e k)
/-- the text of an int -/
def strD (ds : List D) (_ : Store) : Option D := match ds with
  | [.int i] => if -1000000 < i ∧ i < 1000000 then some (.str (toString i : String)) else none
  | _ => none
def revTD (d : D) (_ : Store) : Option D := match d with
  | .tup xs => some (.tup xs.reverse)
  | _ => none
@[simp] theorem revTD_tup (xs : List D) (S : Store) : revTD (.tup xs) S = some (.tup xs.reverse) := rfl
theorem RepL.rev {K : PySem.W.Frag} {T : Tb} {H : Hp} : ∀ {vs : List V} {ds : List D}, RepL K T H vs ds → RepL K T H vs.reverse ds.reverse
  | _, _, .nil => .nil
  | _, _, .cons a b => by
    rw [List.reverse_cons, List.reverse_cons]
    exact RepL.append (RepL.rev b) (.cons a .nil)
section
variable {X : Cx} {Wx : WX} {m : EM} {K : PySem.W.Frag} {mg : Str → Option Value}
theorem j_revT {e : Expr} {k : Nat} {q1 q2 q3 q4 : Pos} (he : PE X e (tD X.K X.mg Wx m)) : PE X (.Subscript e (.Slice none none (some (.UnaryOp .USub (.Constant (.int 1) k q1) q2)) q3) q4) (tD X.K X.mg Wx (mUn revTD m)) := pe_imp (pe_revT he) fun g H Q h => by
  obtain ⟨T, r, S, rs, sim, h⟩ := h
  refine ⟨T, r, S, rs, sim, Out.bind h fun d S1 T1 H1 v st sim1 rel h1 => ?_⟩
  refine Out.use h1 fun d' e k => ?_
  unfold revTD at e
  split at e
  · cases e
    cases rel with
    | @tup a vs _ hH n rl =>
      refine ⟨a, vs, rfl, SqT.of hH, fun p hp => ?_⟩
      have hl : vs.reverse.length ≤ sizeLine := by
        rw [List.length_reverse]
        exact sim1.hl _ _ (.inr (.inl hH))
      exact k _ _ (.ref p) (sim1.stepNew hp) (sim1.new hp (hlen_tup sim1.hl hl)) (.tup upd_same (sim1.off hp) (RepL.rev (rl.step (sim1.stepNew hp))))
  · cases e
theorem log_small {i : Int} (h : -1000000 < i ∧ i < 1000000) : i.natAbs.log2 < 1920 := by
  have h1 : i.natAbs < 1000000 := by omega
  by_cases h0 : i.natAbs = 0
  · rw [h0]
    decide
  · rw [Nat.log2_lt h0]
    exact Nat.lt_of_lt_of_le h1 (Nat.le_trans (show 1000000 ≤ 2 ^ 20 by decide) (Nat.pow_le_pow_right (by decide) (by decide)))
theorem pok_str : POk K mg (fun xs H Q => ∃ i : Int, xs = [.int i] ∧ i.natAbs.log2 < 1920 ∧ Q (.str (toString i : String)) H) strD := fun T S H vs ds d Q sim rep e k => by
  unfold strD at e
  split at e
  · rename_i i
    split at e
    · rename_i c
      cases e
      obtain ⟨v, rfl, r⟩ := rep.one
      cases r
      exact ⟨i, rfl, log_small c, k H _ (Step.refl T H) sim (.str _)⟩
    · cases e
  · cases e
end
end Dv
/-! k in d, d[k] = v, not e as a value -/
namespace Dv
open PySem L2
def dinD (a b : D) (S : Store) : Option D := match keyOf a, dctAt b S with
  | some k, some kds => some (.bl (valKD kds k).isSome)
  | _, _ => none
def dninD (a b : D) (S : Store) : Option D := match keyOf a, dctAt b S with
  | some k, some kds => some (.bl (!(valKD kds k).isSome))
  | _, _ => none
def notVD (d : D) (S : Store) : Option D := (truD d S).map fun b => .bl (!b)
def dputD (o y z : D) (r : Dv.Env) (S : Store) : Z := match o with
  | .loc n => match S[n]?, keyOf y with
    | some (.dct kds), some k => if kds.length < 90000 then .ok .next r (List.set S n (.dct (putKD kds k z))) else .bad
    | _, _ => .bad
  | _ => .bad
def sDPutD (mo mi mv : EM) : SM := fun r S => bindS (mv r S) r fun z S1 => bindS (mo r S1) r fun o S2 => bindS (mi r S2) r fun y S3 => dputD o y z r S3
@[simp] theorem sDPutD_ap {mo mi mv : EM} {r : Dv.Env} {S : Store} : sDPutD mo mi mv r S = bindS (mv r S) r fun z S1 => bindS (mo r S1) r fun o S2 => bindS (mi r S2) r fun y S3 => dputD o y z r S3 := rfl
section
variable {X : Cx} {Wx : WX} {o i e f : Expr} {pos pos' apos cpos : Pos} {mo mi mx mv : EM}
theorem valKD_is {K : PySem.W.Frag} {T : Tb} {H : Hp} {kvs : List (Key × V)} {kds : List (Key × D)} (rk : RepK K T H kvs kds) (k : Key) : (valV kvs k).isSome = (valKD kds k).isSome := by
  rcases rk.val k with ⟨z1, z2⟩ | ⟨v, d, z1, z2, _⟩ <;> rw [z1, z2] <;> rfl
theorem j_din (hu : X.A.units + 64 < cLine) (hi : PE X i (tD X.K X.mg Wx mi)) (ho : PE X o (tD X.K X.mg Wx mo)) (h1 : behindInMarks .In o = false := by rfl) : PE X (.Compare i [.In] [o] pos) (tD X.K X.mg Wx (mBin dinD mi mo)) :=
  pe_imp (pe_cmp (pc_din (by omega) hi ho) h1) fun g H Q h => by
    obtain ⟨T, r, S, rs, sim, h⟩ := h
    refine ⟨T, r, S, rs, sim, Out.bind h fun x S1 T1 H1 v st sim1 rel h1 => ?_⟩
    refine ⟨T1, r, S1, rs.step st, sim1, Out.bind h1 fun y S2 T2 H2 w st2 sim2 rel2 h2 => ?_⟩
    refine Out.use h2 fun d e k => ?_
    unfold dinD at e
    split at e
    · rename_i key kds e1 e2
      cases e
      obtain ⟨a, kvs, rfl, hr, rk⟩ := dctAt_rep sim2 rel2 e2
      have ew := key_rep rel e1
      subst ew
      rw [← valKD_is rk key] at k
      exact ⟨a, valV kvs key, rfl, .inl ⟨kvs, key, hr, rfl, rfl⟩, k T2 H2 _ (Step.refl T2 H2) sim2 (.bl _)⟩
    · cases e
theorem j_dnin (hu : X.A.units + 64 < cLine) (hi : PE X i (tD X.K X.mg Wx mi)) (ho : PE X o (tD X.K X.mg Wx mo)) (h1 : behindInMarks .NotIn o = false := by rfl) : PE X (.Compare i [.NotIn] [o] pos) (tD X.K X.mg Wx (mBin dninD mi mo)) :=
  pe_imp (pe_cmp (pc_dnotin (by omega) hi ho) h1) fun g H Q h => by
    obtain ⟨T, r, S, rs, sim, h⟩ := h
    refine ⟨T, r, S, rs, sim, Out.bind h fun x S1 T1 H1 v st sim1 rel h1 => ?_⟩
    refine ⟨T1, r, S1, rs.step st, sim1, Out.bind h1 fun y S2 T2 H2 w st2 sim2 rel2 h2 => ?_⟩
    refine Out.use h2 fun d e k => ?_
    unfold dninD at e
    split at e
    · rename_i key kds e1 e2
      cases e
      obtain ⟨a, kvs, rfl, hr, rk⟩ := dctAt_rep sim2 rel2 e2
      have ew := key_rep rel e1
      subst ew
      rw [← valKD_is rk key] at k
      exact ⟨a, valV kvs key, rfl, .inl ⟨kvs, key, hr, rfl, rfl⟩, k T2 H2 _ (Step.refl T2 H2) sim2 (.bl _)⟩
    · cases e
theorem jt_dnin (hu : X.A.units + 64 < cLine) (hi : PE X i (tD X.K X.mg Wx mi)) (ho : PE X o (tD X.K X.mg Wx mo)) (h1 : behindInMarks .NotIn o = false := by rfl) : PT X (.Compare i [.NotIn] [o] pos) (tDT X.K X.mg Wx (mT (mBin dninD mi mo))) :=
  pt_imp (pt_cmp (pc_dnotin (by omega) hi ho) h1) fun g H Q h => by
    obtain ⟨T, r, S, rs, sim, h⟩ := tTest_of g H Q h
    refine ⟨T, r, S, rs, sim, Out.bind h fun x S1 T1 H1 v st sim1 rel h1 => ?_⟩
    refine ⟨T1, r, S1, rs.step st, sim1, Out.bind h1 fun y S2 T2 H2 w st2 sim2 rel2 h2 => ?_⟩
    refine Out.use h2 fun d e k => ?_
    unfold dninD at e
    split at e
    · rename_i key kds e1 e2
      cases e
      obtain ⟨a, kvs, rfl, hr, rk⟩ := dctAt_rep sim2 rel2 e2
      have ew := key_rep rel e1
      subst ew
      rw [← valKD_is rk key] at k
      exact ⟨a, valV kvs key, rfl, .inl ⟨kvs, key, hr, rfl, rfl⟩, k T2 H2 _ (Step.refl T2 H2) sim2 (.bl _)⟩
    · cases e
theorem jt_din (hu : X.A.units + 64 < cLine) (hi : PE X i (tD X.K X.mg Wx mi)) (ho : PE X o (tD X.K X.mg Wx mo)) (h1 : behindInMarks .In o = false := by rfl) : PT X (.Compare i [.In] [o] pos) (tDT X.K X.mg Wx (mT (mBin dinD mi mo))) :=
  pt_imp (pt_cmp (pc_din (by omega) hi ho) h1) fun g H Q h => by
    obtain ⟨T, r, S, rs, sim, h⟩ := tTest_of g H Q h
    refine ⟨T, r, S, rs, sim, Out.bind h fun x S1 T1 H1 v st sim1 rel h1 => ?_⟩
    refine ⟨T1, r, S1, rs.step st, sim1, Out.bind h1 fun y S2 T2 H2 w st2 sim2 rel2 h2 => ?_⟩
    refine Out.use h2 fun d e k => ?_
    unfold dinD at e
    split at e
    · rename_i key kds e1 e2
      cases e
      obtain ⟨a, kvs, rfl, hr, rk⟩ := dctAt_rep sim2 rel2 e2
      have ew := key_rep rel e1
      subst ew
      rw [← valKD_is rk key] at k
      exact ⟨a, valV kvs key, rfl, .inl ⟨kvs, key, hr, rfl, rfl⟩, k T2 H2 _ (Step.refl T2 H2) sim2 (.bl _)⟩
    · cases e
theorem j_notV (ha : PE X e (tD X.K X.mg Wx mo)) : PE X (.UnaryOp .Not e pos) (tD X.K X.mg Wx (mUn notVD mo)) :=
  pe_imp (pe_notT ha) fun g H Q h => by
    obtain ⟨T, r, S, rs, sim, h⟩ := h
    refine ⟨T, r, S, rs, sim, Out.bind h fun x S1 T1 H1 v st sim1 rel h1 => ?_⟩
    refine Out.use h1 fun d e k => ?_
    obtain ⟨b, eb, rfl⟩ := Option.map_eq_some_iff.mp e
    exact ⟨b, truD_ok sim1 rel eb, k T1 H1 _ (Step.refl T1 H1) sim1 (.bl _)⟩
theorem js_dput (hu : X.A.units + 64 < cLine) (hv : PE X e (tD X.K X.mg Wx mv)) (ho : PE X o (tD X.K X.mg Wx mo)) (hi : PE X i (tD X.K X.mg Wx mi)) (hs : swapsWith e (some (.Subscript o i pos')) pos.line X.env = pure false := by rfl) :
    PS X (.Assign [.Subscript o i pos'] e pos) (tDS X.K X.mg Wx (sDPutD mo mi mv)) :=
  ps_imp (ps_dput (by omega) ho hi hv hs) fun E g H h => by
    obtain ⟨T, r, S, rs, sim, h⟩ := h
    refine ⟨T, r, S, rs, sim, ZOut.bind h rs fun z S1 T1 H1 u st sim1 rel rs1 h1 => ?_⟩
    refine ⟨T1, r, S1, rs1, sim1, ZOut.bind h1 rs1 fun o S2 T2 H2 x st2 sim2 rel2 rs2 h2 => ?_⟩
    refine ⟨T2, r, S2, rs2, sim2, ZOut.bind h2 rs2 fun y S3 T3 H3 w st3 sim3 rel3 rs3 h3 => ?_⟩
    unfold dputD at h3
    split at h3
    · rename_i n
      split at h3
      · rename_i kds key e1 e2
        split at h3
        · rename_i hlt
          cases rel2.step st3 with
          | @loc a _ hn =>
            obtain ⟨kvs, q1, q2, q3⟩ := sim3.obj n a _ hn e1
            have rk : RepK X.K T3 H3 kvs kds := ⟨q2, q3⟩
            have ew := key_rep rel3 e2
            subst ew
            have hz : kvs.length < sizeLine := by
              rw [rk.length]
              exact Nat.lt_of_lt_of_le (show kds.length < 100000 by omega) (sz5 (Nat.le_refl _))
            have hmem : a ∈ T3.loc := List.mem_of_getElem? hn
            have st4 : Step T3 H3 T3 (upd H3 a (.dK (putK kvs key u))) := sim3.stepSet hmem
            have hl : HLen (upd H3 a (.dK (putK kvs key u))) := hlen_oth sim3.hl fun xs => ⟨(by intro z; cases z), (by intro z; cases z), (by intro x z; cases z), (by intro x z; cases z)⟩
            have rk4 := (rk.put key (rel.step (st2.trans st3))).step st4
            exact ⟨a, _, rfl, .inl ⟨kvs, key, q1, rfl, hz, rfl⟩, h3 T3 _ g st4 (sim3.set hn hl ⟨_, upd_same, rk4.1, rk4.2⟩) (rs3.step st4)⟩
        · exact h3.elim
      · exact h3.elim
    · exact h3.elim
end
end Dv
namespace Law
open PySem L2 Dv
/-! ### the text -/
def top (i : Nat) : Stmt := PySem.Challenge.pw_meetloft_k02_asks_told.main.body.getD i (.Pass ⟨0, 0, 0, 0⟩)
abbrev s__law_draw : Stmt := top 13
abbrev N__law_draw : List Str := ["script", "town", "many", "k", "cell", "digits", "number", "more"]
abbrev P__law_draw : List Str := ["script", "town", "many"]
theorem sc__law_draw : FnScope N__law_draw P__law_draw (defScope s__law_draw) := ⟨rfl, rfl, rfl, by decide +kernel, rfl, by decide +kernel, by decide +kernel⟩
abbrev s__law_pick : Stmt := top 14
abbrev N__law_pick : List Str := ["script", "town", "some"]
abbrev P__law_pick : List Str := ["script", "town", "some"]
theorem sc__law_pick : FnScope N__law_pick P__law_pick (defScope s__law_pick) := ⟨rfl, rfl, rfl, by decide +kernel, rfl, by decide +kernel, by decide +kernel⟩
abbrev s__law_drawn_rows : Stmt := top 16
abbrev N__law_drawn_rows : List Str := ["script", "town", "width", "most", "far", "found", "k", "row", "j"]
abbrev P__law_drawn_rows : List Str := ["script", "town", "width", "most", "far"]
theorem sc__law_drawn_rows : FnScope N__law_drawn_rows P__law_drawn_rows (defScope s__law_drawn_rows) := ⟨rfl, rfl, rfl, by decide +kernel, rfl, by decide +kernel, by decide +kernel⟩
abbrev s__law_drawn_book : Stmt := top 17
abbrev N__law_drawn_book : List Str := ["script", "town", "most", "far", "found", "word", "width"]
abbrev P__law_drawn_book : List Str := ["script", "town", "most", "far"]
theorem sc__law_drawn_book : FnScope N__law_drawn_book P__law_drawn_book (defScope s__law_drawn_book) := ⟨rfl, rfl, rfl, by decide +kernel, rfl, by decide +kernel, by decide +kernel⟩
abbrev s__law_drawn_ask : Stmt := top 18
abbrev N__law_drawn_ask : List Str := ["script", "town", "book", "many", "atoms", "names", "k", "some", "used", "checks", "word", "pair", "width", "rows", "j", "one"]
abbrev P__law_drawn_ask : List Str := ["script", "town", "book", "many"]
theorem sc__law_drawn_ask : FnScope N__law_drawn_ask P__law_drawn_ask (defScope s__law_drawn_ask) := ⟨rfl, rfl, rfl, by decide +kernel, rfl, by decide +kernel, by decide +kernel⟩
abbrev s__law_same : Stmt := top 12
abbrev N__law_same : List Str := ["got", "due", "one", "other"]
abbrev P__law_same : List Str := ["got", "due"]
theorem sc__law_same : FnScope N__law_same P__law_same (defScope s__law_same) := ⟨rfl, rfl, rfl, by decide +kernel, rfl, by decide +kernel, by decide +kernel⟩
abbrev s_names_in : Stmt := top 9
abbrev N_names_in : List Str := ["terms", "found", "term"]
abbrev P_names_in : List Str := ["terms"]
theorem sc_names_in : FnScope N_names_in P_names_in (defScope s_names_in) := ⟨rfl, rfl, rfl, by decide +kernel, rfl, by decide +kernel, by decide +kernel⟩
abbrev s_names_of : Stmt := top 10
abbrev N_names_of : List Str := ["ask", "word", "terms", "term"]
abbrev P_names_of : List Str := ["ask"]
theorem sc_names_of : FnScope N_names_of P_names_of (defScope s_names_of) := ⟨rfl, rfl, rfl, by decide +kernel, rfl, by decide +kernel, by decide +kernel⟩
abbrev s__law_bent : Stmt := top 15
abbrev N__law_bent : List Str := ["script", "town", "thing", "at", "some"]
abbrev P__law_bent : List Str := ["script", "town", "thing"]
theorem sc__law_bent : FnScope N__law_bent P__law_bent (defScope s__law_bent) := ⟨rfl, rfl, rfl, by decide +kernel, rfl, by decide +kernel, by decide +kernel⟩
abbrev s__law_names : Stmt := top 19
abbrev N__law_names : List Str := ["ask", "found", "word", "some", "one"]
abbrev P__law_names : List Str := ["ask"]
theorem sc__law_names : FnScope N__law_names P__law_names (defScope s__law_names) := ⟨rfl, rfl, rfl, by decide +kernel, rfl, by decide +kernel, by decide +kernel⟩
abbrev s_is_whole : Stmt := top 2
abbrev N_is_whole : List Str := ["thing"]
abbrev P_is_whole : List Str := ["thing"]
theorem sc_is_whole : FnScope N_is_whole P_is_whole (defScope s_is_whole) := ⟨rfl, rfl, rfl, by decide +kernel, rfl, by decide +kernel, by decide +kernel⟩
abbrev s_is_value : Stmt := top 4
abbrev N_is_value : List Str := ["thing"]
abbrev P_is_value : List Str := ["thing"]
theorem sc_is_value : FnScope N_is_value P_is_value (defScope s_is_value) := ⟨rfl, rfl, rfl, by decide +kernel, rfl, by decide +kernel, by decide +kernel⟩
abbrev s_is_name : Stmt := top 3
abbrev N_is_name : List Str := ["thing", "sign"]
abbrev P_is_name : List Str := ["thing"]
theorem sc_is_name : FnScope N_is_name P_is_name (defScope s_is_name) := ⟨rfl, rfl, rfl, by decide +kernel, rfl, by decide +kernel, by decide +kernel⟩
abbrev s_is_check : Stmt := top 7
abbrev N_is_check : List Str := ["thing", "names", "one"]
abbrev P_is_check : List Str := ["thing", "names"]
theorem sc_is_check : FnScope N_is_check P_is_check (defScope s_is_check) := ⟨rfl, rfl, rfl, by decide +kernel, rfl, by decide +kernel, by decide +kernel⟩
abbrev s_is_term : Stmt := top 5
abbrev N_is_term : List Str := ["thing"]
abbrev P_is_term : List Str := ["thing"]
theorem sc_is_term : FnScope N_is_term P_is_term (defScope s_is_term) := ⟨rfl, rfl, rfl, by decide +kernel, rfl, by decide +kernel, by decide +kernel⟩
abbrev s_is_atom : Stmt := top 6
abbrev N_is_atom : List Str := ["thing", "widths", "one"]
abbrev P_is_atom : List Str := ["thing", "widths"]
theorem sc_is_atom : FnScope N_is_atom P_is_atom (defScope s_is_atom) := ⟨rfl, rfl, rfl, by decide +kernel, rfl, by decide +kernel, by decide +kernel⟩
abbrev s_is_ask : Stmt := top 8
abbrev N_is_ask : List Str := ["book", "thing", "widths", "names", "atoms", "checks", "word", "width", "rows", "one"]
abbrev P_is_ask : List Str := ["book", "thing"]
theorem sc_is_ask : FnScope N_is_ask P_is_ask (defScope s_is_ask) := ⟨rfl, rfl, rfl, by decide +kernel, rfl, by decide +kernel, by decide +kernel⟩
abbrev s__law_is_name : Stmt := top 24
abbrev N__law_is_name : List Str := ["thing", "sign"]
abbrev P__law_is_name : List Str := ["thing"]
theorem sc__law_is_name : FnScope N__law_is_name P__law_is_name (defScope s__law_is_name) := ⟨rfl, rfl, rfl, by decide +kernel, rfl, by decide +kernel, by decide +kernel⟩
abbrev s__law_is_value : Stmt := top 25
abbrev N__law_is_value : List Str := ["thing"]
abbrev P__law_is_value : List Str := ["thing"]
theorem sc__law_is_value : FnScope N__law_is_value P__law_is_value (defScope s__law_is_value) := ⟨rfl, rfl, rfl, by decide +kernel, rfl, by decide +kernel, by decide +kernel⟩
abbrev s__law_is_ask : Stmt := top 26
abbrev N__law_is_ask : List Str := ["book", "thing", "atom", "check", "widths", "names", "word", "width", "rows", "one"]
abbrev P__law_is_ask : List Str := ["book", "thing"]
theorem sc__law_is_ask : FnScope N__law_is_ask P__law_is_ask (defScope s__law_is_ask) := ⟨rfl, rfl, rfl, by decide +kernel, rfl, by decide +kernel, by decide +kernel⟩
abbrev s_law : Stmt := top 27
abbrev N_law : List Str := ["script", "town", "k", "book", "ask", "things", "each_a", "atom", "each_b", "check", "atoms", "checks", "word", "width", "rows", "j", "thing"]
abbrev P_law : List Str := ["script"]
theorem sc_law : FnScope N_law P_law (defScope s_law) := ⟨rfl, rfl, rfl, by decide +kernel, rfl, by decide +kernel, by decide +kernel⟩
/-! ### what each def comes to -/
noncomputable def m__law_draw (fu : Nat) : SM :=
    (sSeq (sIf (mNotT (mTru (mVar 1))) (sDrop (mAppend (mVar 1) (mCall maxD (mCons (mBin addD (mLc (mIter (mVar 0)) [4] (tgN 4) mYes (mCall absD (mCons (mVar 4) mNil))) (mLst (mCons (mC (.int 0)) mNil))) mNil)))) sNil)
    (sSeq (sDrop (mAppend (mVar 1) (mC (.int 0))))
    (sSeq (sSet 3 (mCall lenD (mCons (mVar 1) mNil)))
    (sSeq (sSet 4 (mIf (mTru (mVar 0)) (mBin ixD (mVar 0) (mBin modD (mVar 3) (mCall lenD (mCons (mVar 0) mNil)))) (mC (.int 0))))
    (sSeq (sSet 5 (mBin modD (mBin ixD (mVar 1) (mC (.int 0))) (mC (.int 65536))))
    (sSeq (sSetIx (mVar 1) (mC (.int 0)) (mBin fdivD (mBin ixD (mVar 1) (mC (.int 0))) (mC (.int 65536))))
    (sSeq (sSet 6 (mBin modD (mBin addD (mBin addD (mVar 4) (mBin mulD (mC (.int 40503)) (mVar 5))) (mBin mulD (mC (.int 104729)) (mVar 3))) (mC (.int 4294967291))))
    (sSeq (sSet 6 (mBin modD (mBin mulD (mBin modD (mBin mulD (mVar 6) (mVar 6)) (mC (.int 4294967279))) (mC (.int 48271))) (mC (.int 4294967291))))
    (sSeq (sSet 7 (mBin modD (mBin mulD (mBin modD (mBin mulD (mVar 6) (mVar 6)) (mC (.int 4294967279))) (mC (.int 69621))) (mC (.int 4294967291))))
    (sRet (mBin modD (mBin addD (mBin mulD (mBin fdivD (mVar 6) (mC (.int 64))) (mC (.int 67108864))) (mBin fdivD (mVar 7) (mC (.int 64)))) (mVar 2))))))))))))
noncomputable def F__law_draw (fu : Nat) : List D → Store → R D := runT 8 (m__law_draw fu)
noncomputable def m__law_pick (fu : Nat) : SM :=
    (sRet (mBin ixD (mVar 2) (mApp 3 (F__law_draw fu) (mCons (mVar 0) (mCons (mVar 1) (mCons (mCall lenD (mCons (mVar 2) mNil)) mNil))))))
noncomputable def F__law_pick (fu : Nat) : List D → Store → R D := runT 3 (m__law_pick fu)
noncomputable def m__law_drawn_rows (fu : Nat) : SM :=
    (sSeq (sSet 5 (mLst mNil))
    (sSeq (sFor (mRng1 (mCons (mApp 3 (F__law_draw fu) (mCons (mVar 0) (mCons (mVar 1) (mCons (mBin addD (mVar 3) (mC (.int 1))) mNil)))) mNil)) (tgN 6) (sSeq (sSet 7 (mCall tupD (mCons (mLc (mRng1 (mCons (mVar 2) mNil)) [8] (tgN 8) mYes (mApp 3 (F__law_draw fu) (mCons (mVar 0) (mCons (mVar 1) (mCons (mVar 4) mNil))))) mNil)))
    (sSet 5 (mBin addD (mVar 5) (mBin mulD (mLst (mCons (mVar 7) mNil)) (mCall intD (mCons (mBin ninD (mVar 7) (mVar 5)) mNil)))))))
    (sRet (mCall tupD (mCons (mCall sortD (mCons (mVar 5) mNil)) mNil)))))
noncomputable def F__law_drawn_rows (fu : Nat) : List D → Store → R D := runT 9 (m__law_drawn_rows fu)
noncomputable def m__law_drawn_book (fu : Nat) : SM :=
    (sSeq (sSet 4 (mNewL mNil))
    (sSeq (sFor (mIter (mTup (mCons (mC (.str "p")) (mCons (mC (.str "q")) (mCons (mC (.str "r")) (mCons (mC (.str "s")) mNil)))))) (tgN 5) (sSeq (sSet 6 (mApp 3 (F__law_pick fu) (mCons (mVar 0) (mCons (mVar 1) (mCons (mLst (mCons (mC (.int 1)) (mCons (mC (.int 2)) (mCons (mC (.int 2)) (mCons (mC (.int 2)) (mCons (mC (.int 3)) mNil)))))) mNil)))))
    (sDrop (mAppend (mVar 4) (mTup (mCons (mVar 5) (mCons (mVar 6) (mCons (mApp 5 (F__law_drawn_rows fu) (mCons (mVar 0) (mCons (mVar 1) (mCons (mVar 6) (mCons (mVar 2) (mCons (mVar 3) mNil)))))) mNil))))))))
    (sRet (mCall tupD (mCons (mSl (mVar 4) (mP (mApp 3 (F__law_draw fu) (mCons (mVar 0) (mCons (mVar 1) (mCons (mC (.int 2)) mNil))))) mNoP) mNil)))))
noncomputable def F__law_drawn_book (fu : Nat) : List D → Store → R D := runT 7 (m__law_drawn_book fu)
noncomputable def m__law_drawn_ask (fu : Nat) : SM :=
    (sSeq (sSet 4 (mNewL mNil))
    (sSeq (sSet 5 (mSl (mLst (mCons (mC (.str "a")) (mCons (mC (.str "b")) (mCons (mC (.str "c")) (mCons (mC (.str "d")) mNil))))) mNoP (mP (mBin addD (mC (.int 1)) (mApp 3 (F__law_draw fu) (mCons (mVar 0) (mCons (mVar 1) (mCons (mC (.int 4)) mNil))))))))
    (sSeq (sFor (mRng1 (mCons (mBin addD (mC (.int 1)) (mApp 3 (F__law_draw fu) (mCons (mVar 0) (mCons (mVar 1) (mCons (mVar 3) mNil))))) mNil)) (tgN 6) (sSeq (sAsg (mApp 3 (F__law_pick fu) (mCons (mVar 0) (mCons (mVar 1) (mCons (mVar 2) mNil)))) (tgT 3 (tgsCons (tgN 10) (tgsCons (tgN 12) (tgsCons (tgN 13) tgsNil)))))
    (sSeq (sSet 7 (mLcG true (mPl (mRng1 (mCons (mVar 12) mNil))) [14] (tgN 14) mYes (mApp 3 (F__law_pick fu) (mCons (mVar 0) (mCons (mVar 1) (mCons (mBin addD (mBin addD (mBin addD (mVar 5) (mVar 5)) (mVar 5)) (mLst (mCons (mApp 3 (F__law_draw fu) (mCons (mVar 0) (mCons (mVar 1) (mCons (mC (.int 3)) mNil)))) mNil))) mNil))))))
    (sSeq (sSetIx (mVar 7) (mC (.int 0)) (mIf (mT (mBin eqD (mVar 6) (mC (.int 0)))) (mBin ixD (mVar 5) (mC (.int 0))) (mBin ixD (mVar 7) (mC (.int 0)))))
    (sDrop (mAppend (mVar 4) (mTup (mCons (mVar 10) (mCons (mCall tupD (mCons (mVar 7) mNil)) mNil)))))))))
    (sSeq (sPar 8 9 (mCons (mLst mNil) (mCons (mNewL mNil) mNil)))
    (sSeq (sForG (mIterG (mVar 4)) (tgT 2 (tgsCons (tgN 10) (tgsCons (tgN 7) tgsNil))) (sSet 8 (mBin addD (mVar 8) (mLc (mIter (mVar 7)) [15] (tgN 15) (mTru (mCall isiD (mCons (mVar 15) (mCons (mC (.ty "str")) mNil)))) (mVar 15)))))
    (sSeq (sFor (mRng1 (mCons (mApp 3 (F__law_pick fu) (mCons (mVar 0) (mCons (mVar 1) (mCons (mLst (mCons (mC (.int 0)) (mCons (mC (.int 0)) (mCons (mC (.int 1)) (mCons (mC (.int 2)) mNil))))) mNil)))) mNil)) (tgN 6) (sSeq (sSet 11 (mTup (mCons (mApp 3 (F__law_pick fu) (mCons (mVar 0) (mCons (mVar 1) (mCons (mVar 8) mNil)))) (mCons (mApp 3 (F__law_pick fu) (mCons (mVar 0) (mCons (mVar 1) (mCons (mBin addD (mVar 8) (mLst (mCons (mC (.int 1)) mNil))) mNil)))) mNil))))
    (sDrop (mAppend (mVar 9) (mBin addD (mTup (mCons (mApp 3 (F__law_pick fu) (mCons (mVar 0) (mCons (mVar 1) (mCons (mLst (mCons (mC (.str "less")) (mCons (mC (.str "unlike")) mNil))) mNil)))) mNil)) (mVar 11))))))
    (sRet (mTup (mCons (mCall tupD (mCons (mVar 4) mNil)) (mCons (mCall tupD (mCons (mVar 9) mNil)) mNil))))))))))
noncomputable def F__law_drawn_ask (fu : Nat) : List D → Store → R D := runT 16 (m__law_drawn_ask fu)
noncomputable def m__law_same (fu : Nat) (self : List D → Store → R D) : SM :=
    (sSeq (sIf (mT (mBin isND (mVar 1) (mC .non))) (sRet (mBin isND (mVar 0) (mC .non))) sNil)
    (sSeq (sIf (mTru (mCall isiD (mCons (mVar 1) (mCons (mC (.ty "bool")) mNil)))) (sRet (mAnd (mCall isiD (mCons (mVar 0) (mCons (mC (.ty "bool")) mNil))) (mBin eqD (mVar 0) (mVar 1)))) sNil)
    (sSeq (sIf (mTru (mCall isiD (mCons (mVar 1) (mCons (mC (.ty "tuple")) mNil)))) (sSeq (sIf (mOrT (mNotT (mTru (mCall isiD (mCons (mVar 0) (mCons (mC (.ty "tuple")) mNil))))) (mT (mBin neD (mCall lenD (mCons (mVar 0) mNil)) (mCall lenD (mCons (mVar 1) mNil))))) (sRet (mC (.bl false))) sNil)
    (sRet (mCall allD (mCons (mLc (mZip (mCons (mVar 0) (mCons (mVar 1) mNil))) [2, 3] (tgT 2 (tgsCons (tgN 2) (tgsCons (tgN 3) tgsNil))) mYes (mApp 2 self (mCons (mVar 2) (mCons (mVar 3) mNil)))) mNil)))) sNil)
    (sSeq (sIf (mTru (mCall isiD (mCons (mVar 1) (mCons (mC (.ty "str")) mNil)))) (sRet (mAnd (mCall isiD (mCons (mVar 0) (mCons (mC (.ty "str")) mNil))) (mBin eqD (mVar 0) (mVar 1)))) sNil)
    (sRet (mAnd (mCall isiD (mCons (mVar 0) (mCons (mC (.ty "int")) mNil))) (mAnd (mNot (mCall isiD (mCons (mVar 0) (mCons (mC (.ty "bool")) mNil)))) (mBin eqD (mVar 0) (mVar 1)))))))))
noncomputable def F__law_same (fu : Nat) : Nat → List D → Store → R D
  | 0 => fun _ _ => .bad
  | n + 1 => runT 4 (m__law_same fu (F__law_same fu n))
noncomputable def m_names_in (fu : Nat) : SM :=
    (sSeq (sSet 1 (mNewL mNil))
    (sSeq (sFor (mIter (mVar 0)) (tgN 2) (sIf (mAndT (mTru (mCall isiD (mCons (mVar 2) (mCons (mC (.ty "str")) mNil)))) (mT (mBin ninTD (mVar 2) (mVar 1)))) (sDrop (mAppend (mVar 1) (mVar 2))) sNil))
    (sRet (mCall tupD (mCons (mVar 1) mNil)))))
noncomputable def F_names_in (fu : Nat) : List D → Store → R D := runT 3 (m_names_in fu)
noncomputable def m_names_of (fu : Nat) : SM :=
    (sRet (mApp 1 (F_names_in fu) (mCons (mLc2 (mIter (mBin ixD (mVar 0) (mC (.int 0)))) [1, 2, 3] (tgT 2 (tgsCons (tgN 1) (tgsCons (tgN 2) tgsNil))) mYes (mIter (mVar 2)) [3] (tgN 3) mYes (mVar 3)) mNil)))
noncomputable def F_names_of (fu : Nat) : List D → Store → R D := runT 4 (m_names_of fu)
noncomputable def m__law_bent (fu : Nat) (self : List D → Store → R D) : SM :=
    (sSeq (sIf (mOrT (mNotT (mTru (mCall isiD (mCons (mVar 2) (mCons (mC (.ty "tuple")) mNil))))) (mOrT (mNotT (mTru (mVar 2))) (mT (mBin eqD (mApp 3 (F__law_draw fu) (mCons (mVar 0) (mCons (mVar 1) (mCons (mC (.int 4)) mNil)))) (mC (.int 0)))))) (sSeq (sSet 4 (mLst (mCons (mC .non) (mCons (mC (.bl true)) (mCons (mC (.bl false)) (mCons (mC (.int 0)) (mCons (mC (.int 1)) (mCons (mUn negD (mC (.int 1))) (mCons (mC (.int 9999)) (mCons (mC (.int 10000)) (mCons (mC (.str "p")) (mCons (mC (.str "a")) (mCons (mC (.str "")) (mCons (mC (.str "A")) (mCons (mTup mNil) (mCons (mLst mNil) (mCons (mTup (mCons (mC (.int 1)) mNil)) (mCons (mTup (mCons (mC (.str "a")) (mCons (mC (.str "b")) mNil))) (mCons (mTup (mCons (mC (.str "p")) (mCons (mC (.int 1)) (mCons (mTup mNil) mNil)))) mNil)))))))))))))))))))
    (sSeq (sIf (mTru (mCall isiD (mCons (mVar 2) (mCons (mC (.ty "tuple")) mNil)))) (sSet 4 (mBin addD (mVar 4) (mLst (mCons (mCall lstD (mCons (mVar 2) mNil)) (mCons (mSl (mVar 2) mNoP (mP (mUn negD (mC (.int 1))))) (mCons (mBin addD (mVar 2) (mSl (mVar 2) (mP (mUn negD (mC (.int 1)))) mNoP)) (mCons (mSl (mVar 2) (mP (mC (.int 1))) mNoP) (mCons (mUn revTD (mVar 2)) (mCons (mBin addD (mVar 2) (mTup (mCons (mC .non) mNil))) mNil))))))))) sNil)
    (sSeq (sIf (mTru (mCall isiD (mCons (mVar 2) (mCons (mC (.ty "int")) mNil)))) (sSet 4 (mBin addD (mVar 4) (mBin mulD (mLst (mCons (mBin addD (mVar 2) (mC (.int 1))) (mCons (mBin subD (mVar 2) (mC (.int 1))) (mCons (mUn notVD (mVar 2)) (mCons (mTup (mCons (mVar 2) mNil)) (mCons (mCall strD (mCons (mVar 2) mNil)) mNil)))))) (mC (.int 2))))) sNil)
    (sRet (mApp 3 (F__law_pick fu) (mCons (mVar 0) (mCons (mVar 1) (mCons (mVar 4) mNil)))))))) sNil)
    (sSeq (sSet 3 (mApp 3 (F__law_draw fu) (mCons (mVar 0) (mCons (mVar 1) (mCons (mCall lenD (mCons (mVar 2) mNil)) mNil)))))
    (sRet (mBin addD (mBin addD (mSl (mVar 2) mNoP (mP (mVar 3))) (mTup (mCons (mApp 3 self (mCons (mVar 0) (mCons (mVar 1) (mCons (mBin ixD (mVar 2) (mVar 3)) mNil)))) mNil))) (mSl (mVar 2) (mP (mBin addD (mVar 3) (mC (.int 1)))) mNoP)))))
noncomputable def F__law_bent (fu : Nat) : Nat → List D → Store → R D
  | 0 => fun _ _ => .bad
  | n + 1 => runT 5 (m__law_bent fu (F__law_bent fu n))
noncomputable def m__law_names (fu : Nat) : SM :=
    (sSeq (sSet 1 (mLst mNil))
    (sSeq (sFor (mIter (mBin ixD (mVar 0) (mC (.int 0)))) (tgT 2 (tgsCons (tgN 2) (tgsCons (tgN 3) tgsNil))) (sFor (mIter (mVar 3)) (tgN 4) (sSet 1 (mBin addD (mVar 1) (mBin mulD (mLst (mCons (mVar 4) mNil)) (mCall intD (mCons (mAnd (mCall isiD (mCons (mVar 4) (mCons (mC (.ty "str")) mNil))) (mBin ninTD (mVar 4) (mVar 1))) mNil)))))))
    (sRet (mVar 1))))
noncomputable def F__law_names (fu : Nat) : List D → Store → R D := runT 5 (m__law_names fu)
noncomputable def m_is_whole (fu : Nat) : SM :=
    (sRet (mAnd (mCall isiD (mCons (mVar 0) (mCons (mC (.ty "int")) mNil))) (mNot (mCall isiD (mCons (mVar 0) (mCons (mC (.ty "bool")) mNil))))))
noncomputable def F_is_whole (fu : Nat) : List D → Store → R D := runT 1 (m_is_whole fu)
noncomputable def m_is_value (fu : Nat) : SM :=
    (sRet (mAnd (mApp 1 (F_is_whole fu) (mCons (mVar 0) mNil)) (mChain leD leD (mUn negD (mC (.int 9999))) (mVar 0) (mC (.int 9999)))))
noncomputable def F_is_value (fu : Nat) : List D → Store → R D := runT 1 (m_is_value fu)
noncomputable def m_is_name (fu : Nat) : SM :=
    (sRet (mAnd (mCall isiD (mCons (mVar 0) (mCons (mC (.ty "str")) mNil))) (mAnd (mChain leD leD (mC (.int 1)) (mCall lenD (mCons (mVar 0) mNil)) (mC (.int 6))) (mCall allD (mCons (mLc (mIter (mVar 0)) [1] (tgN 1) mYes (mChain leD leD (mC (.str "a")) (mVar 1) (mC (.str "z")))) mNil)))))
noncomputable def F_is_name (fu : Nat) : List D → Store → R D := runT 2 (m_is_name fu)
noncomputable def m_is_check (fu : Nat) : SM :=
    (sSeq (sIf (mOrT (mNotT (mTru (mCall isiD (mCons (mVar 0) (mCons (mC (.ty "tuple")) mNil))))) (mOrT (mT (mBin neD (mCall lenD (mCons (mVar 0) mNil)) (mC (.int 3)))) (mNotT (mTru (mCall isiD (mCons (mBin ixD (mVar 0) (mC (.int 0))) (mCons (mC (.ty "str")) mNil))))))) (sRet (mC (.bl false))) sNil)
    (sSeq (sIf (mT (mBin ninTD (mBin ixD (mVar 0) (mC (.int 0))) (mTup (mCons (mC (.str "less")) (mCons (mC (.str "unlike")) mNil))))) (sRet (mC (.bl false))) sNil)
    (sRet (mCall allD (mCons (mLc (mIter (mSl (mVar 0) (mP (mC (.int 1))) mNoP)) [2] (tgN 2) mYes (mOr (mApp 1 (F_is_value fu) (mCons (mVar 2) mNil)) (mAnd (mApp 1 (F_is_name fu) (mCons (mVar 2) mNil)) (mBin inTD (mVar 2) (mVar 1))))) mNil)))))
noncomputable def F_is_check (fu : Nat) : List D → Store → R D := runT 3 (m_is_check fu)
noncomputable def m_is_term (fu : Nat) : SM :=
    (sRet (mOr (mApp 1 (F_is_name fu) (mCons (mVar 0) mNil)) (mApp 1 (F_is_value fu) (mCons (mVar 0) mNil))))
noncomputable def F_is_term (fu : Nat) : List D → Store → R D := runT 1 (m_is_term fu)
noncomputable def m_is_atom (fu : Nat) : SM :=
    (sSeq (sIf (mOrT (mNotT (mTru (mCall isiD (mCons (mVar 0) (mCons (mC (.ty "tuple")) mNil))))) (mOrT (mT (mBin neD (mCall lenD (mCons (mVar 0) mNil)) (mC (.int 2)))) (mOrT (mNotT (mTru (mApp 1 (F_is_name fu) (mCons (mBin ixD (mVar 0) (mC (.int 0))) mNil)))) (mT (mBin dninD (mBin ixD (mVar 0) (mC (.int 0))) (mVar 1)))))) (sRet (mC (.bl false))) sNil)
    (sSeq (sIf (mOrT (mNotT (mTru (mCall isiD (mCons (mBin ixD (mVar 0) (mC (.int 1))) (mCons (mC (.ty "tuple")) mNil))))) (mT (mBin neD (mCall lenD (mCons (mBin ixD (mVar 0) (mC (.int 1))) mNil)) (mBin dgetD (mVar 1) (mBin ixD (mVar 0) (mC (.int 0))))))) (sRet (mC (.bl false))) sNil)
    (sRet (mCall allD (mCons (mLc (mIter (mBin ixD (mVar 0) (mC (.int 1)))) [2] (tgN 2) mYes (mApp 1 (F_is_term fu) (mCons (mVar 2) mNil))) mNil)))))
noncomputable def F_is_atom (fu : Nat) : List D → Store → R D := runT 3 (m_is_atom fu)
noncomputable def m_is_ask (fu : Nat) : SM :=
    (sSeq (sIf (mOrT (mNotT (mTru (mCall isiD (mCons (mVar 1) (mCons (mC (.ty "tuple")) mNil))))) (mOrT (mT (mBin neD (mCall lenD (mCons (mVar 1) mNil)) (mC (.int 2)))) (mNotT (mTru (mCall isiD (mCons (mBin ixD (mVar 1) (mC (.int 0))) (mCons (mC (.ty "tuple")) mNil))))))) (sRet (mC (.bl false))) sNil)
    (sSeq (sAsg (mVar 1) (tgT 2 (tgsCons (tgN 4) (tgsCons (tgN 5) tgsNil))))
    (sSeq (sSet 2 (mDc false (mIter (mVar 0)) [6, 7, 8] (tgT 3 (tgsCons (tgN 6) (tgsCons (tgN 7) (tgsCons (tgN 8) tgsNil)))) mYes (mVar 6) (mVar 7)))
    (sSeq (sIf (mOrT (mNotT (mTru (mCall allD (mCons (mLc (mIter (mVar 4)) [9] (tgN 9) mYes (mApp 2 (F_is_atom fu) (mCons (mVar 9) (mCons (mVar 2) mNil)))) mNil)))) (mNotT (mTru (mCall isiD (mCons (mVar 5) (mCons (mC (.ty "tuple")) mNil)))))) (sRet (mC (.bl false))) sNil)
    (sSeq (sSet 3 (mApp 1 (F_names_of fu) (mCons (mTup (mCons (mVar 4) (mCons (mTup mNil) mNil))) mNil)))
    (sRet (mAnd (mBin neD (mVar 3) (mTup mNil)) (mCall allD (mCons (mLc (mIter (mVar 5)) [9] (tgN 9) mYes (mApp 2 (F_is_check fu) (mCons (mVar 9) (mCons (mVar 3) mNil)))) mNil)))))))))
noncomputable def F_is_ask (fu : Nat) : List D → Store → R D := runT 10 (m_is_ask fu)
noncomputable def m__law_is_name (fu : Nat) : SM :=
    (sRet (mAnd (mCall isiD (mCons (mVar 0) (mCons (mC (.ty "str")) mNil))) (mAnd (mChain ltD ltD (mC (.int 0)) (mCall lenD (mCons (mVar 0) mNil)) (mC (.int 7))) (mUn notVD (mLc (mIter (mVar 0)) [1] (tgN 1) (mNotT (mT (mChain leD leD (mC (.str "a")) (mVar 1) (mC (.str "z"))))) (mVar 1))))))
noncomputable def F__law_is_name (fu : Nat) : List D → Store → R D := runT 2 (m__law_is_name fu)
noncomputable def m__law_is_value (fu : Nat) : SM :=
    (sRet (mAnd (mCall isiD (mCons (mVar 0) (mCons (mC (.ty "int")) mNil))) (mAnd (mNot (mCall isiD (mCons (mVar 0) (mCons (mC (.ty "bool")) mNil)))) (mChain leD leD (mUn negD (mC (.int 9999))) (mVar 0) (mC (.int 9999))))))
noncomputable def F__law_is_value (fu : Nat) : List D → Store → R D := runT 1 (m__law_is_value fu)
noncomputable def m__law_is_ask (fu : Nat) : SM :=
    (sSeq (sIf (mOrT (mNotT (mTru (mCall isiD (mCons (mVar 1) (mCons (mC (.ty "tuple")) mNil))))) (mT (mBin neD (mCall lenD (mCons (mVar 1) mNil)) (mC (.int 2))))) (sRet (mC (.bl false))) sNil)
    (sSeq (sIf (mOrT (mNotT (mTru (mCall isiD (mCons (mBin ixD (mVar 1) (mC (.int 0))) (mCons (mC (.ty "tuple")) mNil))))) (mNotT (mTru (mCall isiD (mCons (mBin ixD (mVar 1) (mC (.int 1))) (mCons (mC (.ty "tuple")) mNil)))))) (sRet (mC (.bl false))) sNil)
    (sSeq (sAsg (mTup (mCons mNewD0 (mCons (mLst mNil) mNil))) (tgT 2 (tgsCons (tgN 4) (tgsCons (tgN 5) tgsNil))))
    (sSeq (sFor (mIter (mVar 0)) (tgT 3 (tgsCons (tgN 6) (tgsCons (tgN 7) (tgsCons (tgN 8) tgsNil)))) (sDPutD (mVar 4) (mVar 6) (mVar 7)))
    (sSeq (sFor (mIter (mBin ixD (mVar 1) (mC (.int 0)))) (tgN 2) (sSeq (sIf (mOrT (mNotT (mTru (mCall isiD (mCons (mVar 2) (mCons (mC (.ty "tuple")) mNil))))) (mOrT (mT (mBin neD (mCall lenD (mCons (mVar 2) mNil)) (mC (.int 2)))) (mNotT (mTru (mApp 1 (F__law_is_name fu) (mCons (mBin ixD (mVar 2) (mC (.int 0))) mNil)))))) (sRet (mC (.bl false))) sNil)
    (sSeq (sIf (mNotT (mTru (mCall isiD (mCons (mBin ixD (mVar 2) (mC (.int 1))) (mCons (mC (.ty "tuple")) mNil))))) (sRet (mC (.bl false))) sNil)
    (sSeq (sIf (mOrT (mT (mBin neD (mDGet2 (mVar 4) (mBin ixD (mVar 2) (mC (.int 0))) (mC (.int 0))) (mCall lenD (mCons (mBin ixD (mVar 2) (mC (.int 1))) mNil)))) (mT (mBin dninD (mBin ixD (mVar 2) (mC (.int 0))) (mVar 4)))) (sRet (mC (.bl false))) sNil)
    (sSeq (sIf (mTru (mLc (mIter (mBin ixD (mVar 2) (mC (.int 1)))) [9] (tgN 9) (mAndT (mNotT (mTru (mApp 1 (F__law_is_name fu) (mCons (mVar 9) mNil)))) (mNotT (mTru (mApp 1 (F__law_is_value fu) (mCons (mVar 9) mNil))))) (mVar 9))) (sRet (mC (.bl false))) sNil)
    (sSet 5 (mBin addD (mVar 5) (mLc (mIter (mBin ixD (mVar 2) (mC (.int 1)))) [9] (tgN 9) (mTru (mCall isiD (mCons (mVar 9) (mCons (mC (.ty "str")) mNil)))) (mVar 9)))))))))
    (sSeq (sFor (mIter (mBin ixD (mVar 1) (mC (.int 1)))) (tgN 3) (sSeq (sIf (mOrT (mNotT (mTru (mCall isiD (mCons (mVar 3) (mCons (mC (.ty "tuple")) mNil))))) (mOrT (mT (mBin neD (mCall lenD (mCons (mVar 3) mNil)) (mC (.int 3)))) (mNotT (mTru (mCall isiD (mCons (mBin ixD (mVar 3) (mC (.int 0))) (mCons (mC (.ty "str")) mNil))))))) (sRet (mC (.bl false))) sNil)
    (sSeq (sIf (mT (mBin ninTD (mBin ixD (mVar 3) (mC (.int 0))) (mTup (mCons (mC (.str "less")) (mCons (mC (.str "unlike")) mNil))))) (sRet (mC (.bl false))) sNil)
    (sIf (mTru (mLc (mIter (mSl (mVar 3) (mP (mC (.int 1))) mNoP)) [9] (tgN 9) (mAndT (mNotT (mTru (mApp 1 (F__law_is_value fu) (mCons (mVar 9) mNil)))) (mNotT (mAndT (mTru (mApp 1 (F__law_is_name fu) (mCons (mVar 9) mNil))) (mT (mBin inTD (mVar 9) (mVar 5)))))) (mVar 9))) (sRet (mC (.bl false))) sNil))))
    (sRet (mBin neD (mVar 5) (mLst mNil)))))))))
noncomputable def F__law_is_ask (fu : Nat) : List D → Store → R D := runT 10 (m__law_is_ask fu)
noncomputable def m_law (fu : Nat) : SM :=
    (sSeq (sSet 1 (mNewL mNil))
    (sSeq (sFor (mRng1 (mCons (mC (.int 6)) mNil)) (tgN 2) (sSeq (sSet 3 (mApp 4 (F__law_drawn_book fu) (mCons (mVar 0) (mCons (mVar 1) (mCons (mC (.int 4)) (mCons (mC (.int 4)) mNil))))))
    (sSeq (sSet 4 (mApp 4 (F__law_drawn_ask fu) (mCons (mVar 0) (mCons (mVar 1) (mCons (mVar 3) (mCons (mC (.int 4)) mNil))))))
    (sSeq (sIf (mNotT (mTru (mApp 2 (F__law_same fu 4) (mCons (mApp 1 (F_names_of fu) (mCons (mVar 4) mNil)) (mCons (mCall tupD (mCons (mApp 1 (F__law_names fu) (mCons (mVar 4) mNil)) mNil)) mNil))))) (sRet (mC (.bl false))) sNil)
    (sSeq (sAsg (mVar 4) (tgT 2 (tgsCons (tgN 10) (tgsCons (tgN 11) tgsNil))))
    (sSeq (sAsg (mBin ixD (mVar 3) (mC (.int 0))) (tgT 3 (tgsCons (tgN 12) (tgsCons (tgN 13) (tgsCons (tgN 14) tgsNil)))))
    (sSeq (sSet 5 (mNewL (mCons (mVar 4) (mCons (mTup (mCons (mVar 10) mNil)) (mCons (mTup (mCons (mVar 11) (mCons (mVar 10) mNil))) (mCons (mCall lstD (mCons (mVar 4) mNil)) (mCons (mC .non) (mCons (mTup (mCons (mTup mNil) (mCons (mTup mNil) mNil))) mNil))))))))
    (sSeq (sSet 5 (mBinN catN (mVar 5) (mLst (mCons (mTup (mCons (mCall lstD (mCons (mVar 10) mNil)) (mCons (mVar 11) mNil))) (mCons (mTup (mCons (mVar 10) (mCons (mCall lstD (mCons (mVar 11) mNil)) mNil))) mNil)))))
    (sSeq (sSet 6 (mLst (mCons (mTup (mCons (mVar 12) (mCons (mBin mulTD (mTup (mCons (mC (.str "a")) mNil)) (mBin addD (mVar 13) (mC (.int 1)))) mNil))) (mCons (mTup (mCons (mVar 12) (mCons (mBin mulTD (mTup (mCons (mC (.str "a")) mNil)) (mVar 13)) mNil))) (mCons (mTup (mCons (mC (.str "zz")) (mCons (mTup (mCons (mC (.str "a")) mNil)) mNil))) mNil)))))
    (sSeq (sSet 6 (mBin addD (mVar 6) (mLst (mCons (mTup (mCons (mVar 12) (mCons (mBin mulTD (mTup (mCons (mC (.int 1)) mNil)) (mVar 13)) mNil))) (mCons (mTup (mCons (mVar 12) (mCons (mBin mulTD (mTup (mCons (mC (.str "A")) mNil)) (mVar 13)) mNil))) mNil)))))
    (sSeq (sFor (mIter (mVar 6)) (tgN 7) (sSet 5 (mBinN catN (mVar 5) (mLst (mCons (mTup (mCons (mBin addD (mVar 10) (mTup (mCons (mVar 7) mNil))) (mCons (mVar 11) mNil))) (mCons (mTup (mCons (mTup (mCons (mVar 7) mNil)) (mCons (mTup mNil) mNil))) mNil))))))
    (sSeq (sSet 8 (mLst (mCons (mTup (mCons (mC (.str "less")) (mCons (mC (.str "a")) (mCons (mC (.int 1)) mNil)))) (mCons (mTup (mCons (mC (.str "less")) (mCons (mC (.int 1)) (mCons (mC (.int 2)) mNil)))) (mCons (mTup (mCons (mC (.str "more")) (mCons (mC (.str "a")) (mCons (mC (.str "a")) mNil)))) mNil)))))
    (sSeq (sSet 8 (mBin addD (mVar 8) (mLst (mCons (mTup (mCons (mC (.str "unlike")) (mCons (mC (.str "e")) (mCons (mC (.str "a")) mNil)))) (mCons (mTup (mCons (mC (.str "less")) (mCons (mC (.str "a")) mNil))) (mCons (mTup (mCons (mC (.str "less")) (mCons (mC (.str "a")) (mCons (mC (.int 10000)) mNil)))) mNil))))))
    (sSeq (sFor (mIter (mVar 8)) (tgN 9) (sDrop (mAppend (mVar 5) (mTup (mCons (mVar 10) (mCons (mBin addD (mVar 11) (mTup (mCons (mVar 9) mNil))) mNil))))))
    (sSeq (sSet 5 (mBinN catN (mVar 5) (mLst (mCons (mTup (mCons (mVar 10) (mCons (mTup (mCons (mTup (mCons (mC (.str "less")) (mCons (mC (.bl true)) (mCons (mC (.str "a")) mNil)))) mNil)) mNil))) (mCons (mTup (mCons (mVar 10) (mCons (mTup (mCons (mTup (mCons (mC (.str "unlike")) (mCons (mC (.str "a")) (mCons (mC .non) mNil)))) mNil)) mNil))) mNil)))))
    (sSeq (sSet 5 (mBinN catN (mVar 5) (mLst (mCons (mTup (mCons (mTup (mCons (mTup (mCons (mVar 12) (mCons (mBin mulTD (mLst (mCons (mC (.str "a")) mNil)) (mVar 13)) mNil))) mNil)) (mCons (mTup mNil) mNil))) mNil))))
    (sSeq (sSet 5 (mBinN catN (mVar 5) (mLc (mRng1 (mCons (mC (.int 10)) mNil)) [15] (tgN 15) mYes (mApp 3 (F__law_bent fu 7) (mCons (mVar 0) (mCons (mVar 1) (mCons (mVar 4) mNil)))))))
    (sIf (mNotT (mTru (mCall allD (mCons (mLcG false (mIterG (mVar 5)) [16] (tgN 16) mYes (mApp 2 (F__law_same fu 4) (mCons (mApp 2 (F_is_ask fu) (mCons (mVar 3) (mCons (mVar 16) mNil))) (mCons (mApp 2 (F__law_is_ask fu) (mCons (mVar 3) (mCons (mVar 16) mNil))) mNil)))) mNil)))) (sRet (mC (.bl false))) sNil))))))))))))))))))
    (sRet (mC (.bl true)))))
noncomputable def F_law (fu : Nat) : List D → Store → R D := runT 17 (m_law fu)
end Law
namespace Law
open PySem L2 Dv
/-! ### what the top has left -/
structure Tx (K : PySem.W.Frag) (mg : Str → Option Value) (a__law_draw a__law_pick a__law_drawn_rows a__law_drawn_book a__law_drawn_ask a__law_same a_names_in a_names_of a__law_bent a__law_names a_is_whole a_is_value a_is_name a_is_check a_is_term a_is_atom a_is_ask a__law_is_name a__law_is_value a__law_is_ask a_law : Addr) (d__law_draw d__law_pick d__law_drawn_rows d__law_drawn_book d__law_drawn_ask d__law_same d_names_in d_names_of d__law_bent d__law_names d_is_whole d_is_value d_is_name d_is_check d_is_term d_is_atom d_is_ask d__law_is_name d__law_is_value d__law_is_ask d_law : FuncData) (kt_MOST : Tok) : Prop where
  z_abs : mg "abs" = none
  z_all : mg "all" = none
  z_bool : mg "bool" = none
  z_int : mg "int" = none
  z_isinstance : mg "isinstance" = none
  z_len : mg "len" = none
  z_list : mg "list" = none
  z_max : mg "max" = none
  z_range : mg "range" = none
  z_sorted : mg "sorted" = none
  z_str : mg "str" = none
  z_tuple : mg "tuple" = none
  z_zip : mg "zip" = none
  k_MOST : mg "MOST" = some (.int 9999 kt_MOST)
  F__law_draw : Fun K "_law_draw" "_law_draw" s__law_draw a__law_draw d__law_draw
  b__law_draw : Binds K d__law_draw P__law_draw []
  g__law_draw : mg "_law_draw" = some (.ref a__law_draw)
  F__law_pick : Fun K "_law_pick" "_law_pick" s__law_pick a__law_pick d__law_pick
  b__law_pick : Binds K d__law_pick P__law_pick []
  g__law_pick : mg "_law_pick" = some (.ref a__law_pick)
  F__law_drawn_rows : Fun K "_law_drawn_rows" "_law_drawn_rows" s__law_drawn_rows a__law_drawn_rows d__law_drawn_rows
  b__law_drawn_rows : Binds K d__law_drawn_rows P__law_drawn_rows []
  g__law_drawn_rows : mg "_law_drawn_rows" = some (.ref a__law_drawn_rows)
  F__law_drawn_book : Fun K "_law_drawn_book" "_law_drawn_book" s__law_drawn_book a__law_drawn_book d__law_drawn_book
  b__law_drawn_book : Binds K d__law_drawn_book P__law_drawn_book []
  g__law_drawn_book : mg "_law_drawn_book" = some (.ref a__law_drawn_book)
  F__law_drawn_ask : Fun K "_law_drawn_ask" "_law_drawn_ask" s__law_drawn_ask a__law_drawn_ask d__law_drawn_ask
  b__law_drawn_ask : Binds K d__law_drawn_ask P__law_drawn_ask []
  g__law_drawn_ask : mg "_law_drawn_ask" = some (.ref a__law_drawn_ask)
  F__law_same : Fun K "_law_same" "_law_same" s__law_same a__law_same d__law_same
  b__law_same : Binds K d__law_same P__law_same []
  g__law_same : mg "_law_same" = some (.ref a__law_same)
  F_names_in : Fun K "names_in" "names_in" s_names_in a_names_in d_names_in
  b_names_in : Binds K d_names_in P_names_in []
  g_names_in : mg "names_in" = some (.ref a_names_in)
  F_names_of : Fun K "names_of" "names_of" s_names_of a_names_of d_names_of
  b_names_of : Binds K d_names_of P_names_of []
  g_names_of : mg "names_of" = some (.ref a_names_of)
  F__law_bent : Fun K "_law_bent" "_law_bent" s__law_bent a__law_bent d__law_bent
  b__law_bent : Binds K d__law_bent P__law_bent []
  g__law_bent : mg "_law_bent" = some (.ref a__law_bent)
  F__law_names : Fun K "_law_names" "_law_names" s__law_names a__law_names d__law_names
  b__law_names : Binds K d__law_names P__law_names []
  g__law_names : mg "_law_names" = some (.ref a__law_names)
  F_is_whole : Fun K "is_whole" "is_whole" s_is_whole a_is_whole d_is_whole
  b_is_whole : Binds K d_is_whole P_is_whole []
  g_is_whole : mg "is_whole" = some (.ref a_is_whole)
  F_is_value : Fun K "is_value" "is_value" s_is_value a_is_value d_is_value
  b_is_value : Binds K d_is_value P_is_value []
  g_is_value : mg "is_value" = some (.ref a_is_value)
  F_is_name : Fun K "is_name" "is_name" s_is_name a_is_name d_is_name
  b_is_name : Binds K d_is_name P_is_name []
  g_is_name : mg "is_name" = some (.ref a_is_name)
  F_is_check : Fun K "is_check" "is_check" s_is_check a_is_check d_is_check
  b_is_check : Binds K d_is_check P_is_check []
  g_is_check : mg "is_check" = some (.ref a_is_check)
  F_is_term : Fun K "is_term" "is_term" s_is_term a_is_term d_is_term
  b_is_term : Binds K d_is_term P_is_term []
  g_is_term : mg "is_term" = some (.ref a_is_term)
  F_is_atom : Fun K "is_atom" "is_atom" s_is_atom a_is_atom d_is_atom
  b_is_atom : Binds K d_is_atom P_is_atom []
  g_is_atom : mg "is_atom" = some (.ref a_is_atom)
  F_is_ask : Fun K "is_ask" "is_ask" s_is_ask a_is_ask d_is_ask
  b_is_ask : Binds K d_is_ask P_is_ask []
  g_is_ask : mg "is_ask" = some (.ref a_is_ask)
  F__law_is_name : Fun K "_law_is_name" "_law_is_name" s__law_is_name a__law_is_name d__law_is_name
  b__law_is_name : Binds K d__law_is_name P__law_is_name []
  g__law_is_name : mg "_law_is_name" = some (.ref a__law_is_name)
  F__law_is_value : Fun K "_law_is_value" "_law_is_value" s__law_is_value a__law_is_value d__law_is_value
  b__law_is_value : Binds K d__law_is_value P__law_is_value []
  g__law_is_value : mg "_law_is_value" = some (.ref a__law_is_value)
  F__law_is_ask : Fun K "_law_is_ask" "_law_is_ask" s__law_is_ask a__law_is_ask d__law_is_ask
  b__law_is_ask : Binds K d__law_is_ask P__law_is_ask []
  g__law_is_ask : mg "_law_is_ask" = some (.ref a__law_is_ask)
  F_law : Fun K "law" "law" s_law a_law d_law
  b_law : Binds K d_law P_law []
  g_law : mg "law" = some (.ref a_law)
section
variable {P : Program} {w : World} {K : PySem.W.Frag} {mg : Str → Option Value} {base : Heap} {a__law_draw a__law_pick a__law_drawn_rows a__law_drawn_book a__law_drawn_ask a__law_same a_names_in a_names_of a__law_bent a__law_names a_is_whole a_is_value a_is_name a_is_check a_is_term a_is_atom a_is_ask a__law_is_name a__law_is_value a__law_is_ask a_law : Addr} {d__law_draw d__law_pick d__law_drawn_rows d__law_drawn_book d__law_drawn_ask d__law_same d_names_in d_names_of d__law_bent d__law_names d_is_whole d_is_value d_is_name d_is_check d_is_term d_is_atom d_is_ask d__law_is_name d__law_is_value d__law_is_ask d_law : FuncData} {kt_MOST : Tok}
theorem ok__law_draw (T : Tx K mg a__law_draw a__law_pick a__law_drawn_rows a__law_drawn_book a__law_drawn_ask a__law_same a_names_in a_names_of a__law_bent a__law_names a_is_whole a_is_value a_is_name a_is_check a_is_term a_is_atom a_is_ask a__law_is_name a__law_is_value a__law_is_ask a_law d__law_draw d__law_pick d__law_drawn_rows d__law_drawn_book d__law_drawn_ask d__law_same d_names_in d_names_of d__law_bent d__law_names d_is_whole d_is_value d_is_name d_is_check d_is_term d_is_atom d_is_ask d__law_is_name d__law_is_value d__law_is_ask d_law kt_MOST) (fu : Nat) : FnOk P w K mg base (L2.CX P w) 1 a__law_draw d__law_draw P__law_draw (spD K mg 3 (F__law_draw fu)) := by
  refine fnT (N := N__law_draw) (b := m__law_draw fu) T.F__law_draw sc__law_draw fun cdv A outer s H E hr => ?_
  have tk : Takes (cxOf (L2.CX P w) P w K mg base N__law_draw "_law_draw" (defScope s__law_draw) a__law_draw cdv A outer s H E) (fun c d _ H => E c d H) := takes_of rfl rfl rfl rfl
  exact (js_cons (js_if (jt_not (jt_tru (jv 1))) (js_one (js_drop (j_append (jv 1) (j_callB (cr_max rfl) pok_max (by rfl) T.z_max (by decide +kernel) (ja_cons (j_bin op_addA pok_add (j_lc (own := [("cell", 4)]) (sl := [4]) (by decide) rfl sc__law_draw.nd (ji_seq (jv 0)) (blkOk_by (own := [("cell", 4)]) (N := N__law_draw) (sc := defScope s__law_draw) (by decide +kernel)) (fun _ _ _ _ _ => (jg_name (i := 4) sc__law_draw.nd rfl (by first | exact Or.inl rfl | exact Or.inr rfl))) (fun _ _ _ _ _ => jts_nil) (fun _ _ _ _ _ => (j_callB call_abs pok_abs (by rfl) T.z_abs (by decide +kernel) (ja_cons (jv 4) ja_nil)))) (j_lst (ja_cons j_int ja_nil))) ja_nil))))) js_nil)
    (js_cons (js_drop (j_append (jv 1) j_int))
    (js_cons (js_set (i := 3) sc__law_draw.nd rfl (by first | exact Or.inl rfl | exact Or.inr rfl) (j_callB call_len pok_len (by rfl) T.z_len (by decide +kernel) (ja_cons (jv 1) ja_nil)))
    (js_cons (js_set (i := 4) sc__law_draw.nd rfl (by first | exact Or.inl rfl | exact Or.inr rfl) (j_if (jt_tru (jv 0)) (j_ix ix_seq pok_ix (fun _ _ => rfl) (jv 0) (j_bin op_mod pok_mod (jv 3) (j_callB call_len pok_len (by rfl) T.z_len (by decide +kernel) (ja_cons (jv 0) ja_nil)))) j_int))
    (js_cons (js_set (i := 5) sc__law_draw.nd rfl (by first | exact Or.inl rfl | exact Or.inr rfl) (j_bin op_mod pok_mod (j_ix ix_seq pok_ix (fun _ _ => rfl) (jv 1) j_int) j_int))
    (js_cons (js_setIx (j_bin op_fdiv pok_fdiv (j_ix ix_seq pok_ix (fun _ _ => rfl) (jv 1) j_int) j_int) (jv 1) j_int)
    (js_cons (js_set (i := 6) sc__law_draw.nd rfl (by first | exact Or.inl rfl | exact Or.inr rfl) (j_bin op_mod pok_mod (j_bin op_addA pok_add (j_bin op_addA pok_add (jv 4) (j_bin op_mulA pok_mul j_int (jv 5))) (j_bin op_mulA pok_mul j_int (jv 3))) j_int))
    (js_cons (js_set (i := 6) sc__law_draw.nd rfl (by first | exact Or.inl rfl | exact Or.inr rfl) (j_bin op_mod pok_mod (j_bin op_mulA pok_mul (j_bin op_mod pok_mod (j_bin op_mulA pok_mul (jv 6) (jv 6)) j_int) j_int) j_int))
    (js_cons (js_set (i := 7) sc__law_draw.nd rfl (by first | exact Or.inl rfl | exact Or.inr rfl) (j_bin op_mod pok_mod (j_bin op_mulA pok_mul (j_bin op_mod pok_mod (j_bin op_mulA pok_mul (jv 6) (jv 6)) j_int) j_int) j_int))
    (js_one (js_ret (j_bin op_mod pok_mod (j_bin op_addA pok_add (j_bin op_mulA pok_mul (j_bin op_fdiv pok_fdiv (jv 6) j_int) j_int) (j_bin op_fdiv pok_fdiv (jv 7) j_int)) (jv 2)))))))))))))
theorem ok__law_pick (T : Tx K mg a__law_draw a__law_pick a__law_drawn_rows a__law_drawn_book a__law_drawn_ask a__law_same a_names_in a_names_of a__law_bent a__law_names a_is_whole a_is_value a_is_name a_is_check a_is_term a_is_atom a_is_ask a__law_is_name a__law_is_value a__law_is_ask a_law d__law_draw d__law_pick d__law_drawn_rows d__law_drawn_book d__law_drawn_ask d__law_same d_names_in d_names_of d__law_bent d__law_names d_is_whole d_is_value d_is_name d_is_check d_is_term d_is_atom d_is_ask d__law_is_name d__law_is_value d__law_is_ask d_law kt_MOST) (fu : Nat) : FnOk P w K mg base (L2.CX P w) 2 a__law_pick d__law_pick P__law_pick (spD K mg 3 (F__law_pick fu)) := by
  refine fnT (N := N__law_pick) (b := m__law_pick fu) T.F__law_pick sc__law_pick fun cdv A outer s H E hr => ?_
  have tk : Takes (cxOf (L2.CX P w) P w K mg base N__law_pick "_law_pick" (defScope s__law_pick) a__law_pick cdv A outer s H E) (fun c d _ H => E c d H) := takes_of rfl rfl rfl rfl
  exact (js_one (js_ret (j_ix ix_seq pok_ix (fun _ _ => rfl) (jv 2) (j_call (ok__law_draw T fu) (hr.mono (by decide)) (by rfl) T.g__law_draw T.F__law_draw.kp T.b__law_draw tk (ja_cons (jv 0) (ja_cons (jv 1) (ja_cons (j_callB call_len pok_len (by rfl) T.z_len (by decide +kernel) (ja_cons (jv 2) ja_nil)) ja_nil)))))))
theorem ok__law_drawn_rows (T : Tx K mg a__law_draw a__law_pick a__law_drawn_rows a__law_drawn_book a__law_drawn_ask a__law_same a_names_in a_names_of a__law_bent a__law_names a_is_whole a_is_value a_is_name a_is_check a_is_term a_is_atom a_is_ask a__law_is_name a__law_is_value a__law_is_ask a_law d__law_draw d__law_pick d__law_drawn_rows d__law_drawn_book d__law_drawn_ask d__law_same d_names_in d_names_of d__law_bent d__law_names d_is_whole d_is_value d_is_name d_is_check d_is_term d_is_atom d_is_ask d__law_is_name d__law_is_value d__law_is_ask d_law kt_MOST) (fu : Nat) : FnOk P w K mg base (L2.CX P w) 2 a__law_drawn_rows d__law_drawn_rows P__law_drawn_rows (spD K mg 5 (F__law_drawn_rows fu)) := by
  refine fnT (N := N__law_drawn_rows) (b := m__law_drawn_rows fu) T.F__law_drawn_rows sc__law_drawn_rows fun cdv A outer s H E hr => ?_
  have tk : Takes (cxOf (L2.CX P w) P w K mg base N__law_drawn_rows "_law_drawn_rows" (defScope s__law_drawn_rows) a__law_drawn_rows cdv A outer s H E) (fun c d _ H => E c d H) := takes_of rfl rfl rfl rfl
  exact (js_cons (js_set (i := 5) sc__law_drawn_rows.nd rfl (by first | exact Or.inl rfl | exact Or.inr rfl) (j_lst ja_nil))
    (js_cons (js_for (passes_of rfl) rfl (ji_rng1 (by rfl) T.z_range (ja_cons (j_call (ok__law_draw T fu) (hr.mono (by decide)) (by rfl) T.g__law_draw T.F__law_draw.kp T.b__law_draw tk (ja_cons (jv 0) (ja_cons (jv 1) (ja_cons (j_bin op_addA pok_add (jv 3) j_int) ja_nil)))) ja_nil)) (jg_name (i := 6) sc__law_drawn_rows.nd rfl (by first | exact Or.inl rfl | exact Or.inr rfl)) (js_cons (js_set (i := 7) sc__law_drawn_rows.nd rfl (by first | exact Or.inl rfl | exact Or.inr rfl) (j_callT call_tuple_of pok_tup (by rfl) T.z_tuple (by decide +kernel) (ja_cons (j_lc (own := [("j", 8)]) (sl := [8]) (by decide) rfl sc__law_drawn_rows.nd (ji_rng1 (by rfl) T.z_range (ja_cons (jv 2) ja_nil)) (blkOk_by (own := [("j", 8)]) (N := N__law_drawn_rows) (sc := defScope s__law_drawn_rows) (by decide +kernel)) (fun _ _ _ _ _ => (jg_name (i := 8) sc__law_drawn_rows.nd rfl (by first | exact Or.inl rfl | exact Or.inr rfl))) (fun _ _ _ _ _ => jts_nil) (fun _ _ _ _ _ => (j_call (ok__law_draw T fu) (hr.mono (by decide)) (by rfl) T.g__law_draw T.F__law_draw.kp T.b__law_draw takes0 (ja_cons (jv 0) (ja_cons (jv 1) (ja_cons (jv 4) ja_nil)))))) ja_nil)))
    (js_one (js_set (i := 5) sc__law_drawn_rows.nd rfl (by first | exact Or.inl rfl | exact Or.inr rfl) (j_bin op_addA pok_add (jv 5) (j_bin op_mulA pok_mul (j_lst (ja_cons (jv 7) ja_nil)) (j_callT call_int1 pok_int (by rfl) T.z_int (by decide +kernel) (ja_cons (j_cmp (op_notInD (room65 hr)) pok_nin (by rfl) (jv 7) (jv 5)) ja_nil))))))))
    (js_one (js_ret (j_callT call_tuple_of pok_tup (by rfl) T.z_tuple (by decide +kernel) (ja_cons (j_callB cr_sortA pok_sort (by rfl) T.z_sorted (by decide +kernel) (ja_cons (jv 5) ja_nil)) ja_nil))))))
theorem ok__law_drawn_book (T : Tx K mg a__law_draw a__law_pick a__law_drawn_rows a__law_drawn_book a__law_drawn_ask a__law_same a_names_in a_names_of a__law_bent a__law_names a_is_whole a_is_value a_is_name a_is_check a_is_term a_is_atom a_is_ask a__law_is_name a__law_is_value a__law_is_ask a_law d__law_draw d__law_pick d__law_drawn_rows d__law_drawn_book d__law_drawn_ask d__law_same d_names_in d_names_of d__law_bent d__law_names d_is_whole d_is_value d_is_name d_is_check d_is_term d_is_atom d_is_ask d__law_is_name d__law_is_value d__law_is_ask d_law kt_MOST) (fu : Nat) : FnOk P w K mg base (L2.CX P w) 3 a__law_drawn_book d__law_drawn_book P__law_drawn_book (spD K mg 4 (F__law_drawn_book fu)) := by
  refine fnT (N := N__law_drawn_book) (b := m__law_drawn_book fu) T.F__law_drawn_book sc__law_drawn_book fun cdv A outer s H E hr => ?_
  have tk : Takes (cxOf (L2.CX P w) P w K mg base N__law_drawn_book "_law_drawn_book" (defScope s__law_drawn_book) a__law_drawn_book cdv A outer s H E) (fun c d _ H => E c d H) := takes_of rfl rfl rfl rfl
  exact (js_cons (js_set (i := 4) sc__law_drawn_book.nd rfl (by first | exact Or.inl rfl | exact Or.inr rfl) (j_newL ja_nil))
    (js_cons (js_for (passes_of rfl) rfl (ji_seq (j_tup (ja_cons j_str (ja_cons j_str (ja_cons j_str (ja_cons j_str ja_nil)))))) (jg_name (i := 5) sc__law_drawn_book.nd rfl (by first | exact Or.inl rfl | exact Or.inr rfl)) (js_cons (js_set (i := 6) sc__law_drawn_book.nd rfl (by first | exact Or.inl rfl | exact Or.inr rfl) (j_call (ok__law_pick T fu) (hr.mono (by decide)) (by rfl) T.g__law_pick T.F__law_pick.kp T.b__law_pick tk (ja_cons (jv 0) (ja_cons (jv 1) (ja_cons (j_lst (ja_cons j_int (ja_cons j_int (ja_cons j_int (ja_cons j_int (ja_cons j_int ja_nil)))))) ja_nil)))))
    (js_one (js_drop (j_append (jv 4) (j_tup (ja_cons (jv 5) (ja_cons (jv 6) (ja_cons (j_call (ok__law_drawn_rows T fu) (hr.mono (by decide)) (by rfl) T.g__law_drawn_rows T.F__law_drawn_rows.kp T.b__law_drawn_rows tk (ja_cons (jv 0) (ja_cons (jv 1) (ja_cons (jv 6) (ja_cons (jv 2) (ja_cons (jv 3) ja_nil)))))) ja_nil)))))))))
    (js_one (js_ret (j_callT call_tuple_of pok_tup (by rfl) T.z_tuple (by decide +kernel) (ja_cons (j_slice (jv 4) (jo_some (j_call (ok__law_draw T fu) (hr.mono (by decide)) (by rfl) T.g__law_draw T.F__law_draw.kp T.b__law_draw tk (ja_cons (jv 0) (ja_cons (jv 1) (ja_cons j_int ja_nil))))) jo_none) ja_nil))))))
theorem ok__law_drawn_ask (T : Tx K mg a__law_draw a__law_pick a__law_drawn_rows a__law_drawn_book a__law_drawn_ask a__law_same a_names_in a_names_of a__law_bent a__law_names a_is_whole a_is_value a_is_name a_is_check a_is_term a_is_atom a_is_ask a__law_is_name a__law_is_value a__law_is_ask a_law d__law_draw d__law_pick d__law_drawn_rows d__law_drawn_book d__law_drawn_ask d__law_same d_names_in d_names_of d__law_bent d__law_names d_is_whole d_is_value d_is_name d_is_check d_is_term d_is_atom d_is_ask d__law_is_name d__law_is_value d__law_is_ask d_law kt_MOST) (fu : Nat) : FnOk P w K mg base (L2.CX P w) 3 a__law_drawn_ask d__law_drawn_ask P__law_drawn_ask (spD K mg 4 (F__law_drawn_ask fu)) := by
  refine fnT (N := N__law_drawn_ask) (b := m__law_drawn_ask fu) T.F__law_drawn_ask sc__law_drawn_ask fun cdv A outer s H E hr => ?_
  have tk : Takes (cxOf (L2.CX P w) P w K mg base N__law_drawn_ask "_law_drawn_ask" (defScope s__law_drawn_ask) a__law_drawn_ask cdv A outer s H E) (fun c d _ H => E c d H) := takes_of rfl rfl rfl rfl
  exact (js_cons (js_set (i := 4) sc__law_drawn_ask.nd rfl (by first | exact Or.inl rfl | exact Or.inr rfl) (j_newL ja_nil))
    (js_cons (js_set (i := 5) sc__law_drawn_ask.nd rfl (by first | exact Or.inl rfl | exact Or.inr rfl) (j_slice (j_lst (ja_cons j_str (ja_cons j_str (ja_cons j_str (ja_cons j_str ja_nil))))) jo_none (jo_some (j_bin op_addA pok_add j_int (j_call (ok__law_draw T fu) (hr.mono (by decide)) (by rfl) T.g__law_draw T.F__law_draw.kp T.b__law_draw tk (ja_cons (jv 0) (ja_cons (jv 1) (ja_cons j_int ja_nil))))))))
    (js_cons (js_for (passes_of rfl) rfl (ji_rng1 (by rfl) T.z_range (ja_cons (j_bin op_addA pok_add j_int (j_call (ok__law_draw T fu) (hr.mono (by decide)) (by rfl) T.g__law_draw T.F__law_draw.kp T.b__law_draw tk (ja_cons (jv 0) (ja_cons (jv 1) (ja_cons (jv 3) ja_nil))))) ja_nil)) (jg_name (i := 6) sc__law_drawn_ask.nd rfl (by first | exact Or.inl rfl | exact Or.inr rfl)) (js_cons (js_asg (j_call (ok__law_pick T fu) (hr.mono (by decide)) (by rfl) T.g__law_pick T.F__law_pick.kp T.b__law_pick tk (ja_cons (jv 0) (ja_cons (jv 1) (ja_cons (jv 2) ja_nil)))) (jg_tup rfl (jgs_cons (jg_name (i := 10) sc__law_drawn_ask.nd rfl (by first | exact Or.inl rfl | exact Or.inr rfl)) (jgs_cons (jg_name (i := 12) sc__law_drawn_ask.nd rfl (by first | exact Or.inl rfl | exact Or.inr rfl)) (jgs_cons (jg_name (i := 13) sc__law_drawn_ask.nd rfl (by first | exact Or.inl rfl | exact Or.inr rfl)) jgs_nil)))))
    (js_cons (js_setLcG (i := 7) (own := [("j", 14)]) (sl := [14]) (by decide) rfl sc__law_drawn_ask.nd rfl rfl (sw_true rfl rfl rfl (by decide +kernel)) (ji_pl (ji_rng1 (by rfl) T.z_range (ja_cons (jv 12) ja_nil))) (blkOk_by (own := [("j", 14)]) (N := N__law_drawn_ask) (sc := defScope s__law_drawn_ask) (by decide +kernel)) (fun _ _ _ _ _ => (jg_name (i := 14) sc__law_drawn_ask.nd rfl (by first | exact Or.inl rfl | exact Or.inr rfl))) (fun _ _ _ _ _ => jts_nil) (fun _ _ _ _ _ => (j_call (ok__law_pick T fu) (hr.mono (by decide)) (by rfl) T.g__law_pick T.F__law_pick.kp T.b__law_pick takes0 (ja_cons (jv 0) (ja_cons (jv 1) (ja_cons (j_bin op_addA pok_add (j_bin op_addA pok_add (j_bin op_addA pok_add (jv 5) (jv 5)) (jv 5)) (j_lst (ja_cons (j_call (ok__law_draw T fu) (hr.mono (by decide)) (by rfl) T.g__law_draw T.F__law_draw.kp T.b__law_draw takes0 (ja_cons (jv 0) (ja_cons (jv 1) (ja_cons j_int ja_nil)))) ja_nil))) ja_nil))))))
    (js_cons (js_setIx (j_if (jt_cmp (op_eqA hr.units) pok_eq (nomark _) (jv 6) j_int) (j_ix ix_seq pok_ix (fun _ _ => rfl) (jv 5) j_int) (j_ix ix_seq pok_ix (fun _ _ => rfl) (jv 7) j_int)) (jv 7) j_int)
    (js_one (js_drop (j_append (jv 4) (j_tup (ja_cons (jv 10) (ja_cons (j_callT call_tuple_of pok_tup (by rfl) T.z_tuple (by decide +kernel) (ja_cons (jv 7) ja_nil)) ja_nil))))))))))
    (js_cons (js_par (i := 8) (j := 9) rfl sc__law_drawn_ask.nd rfl rfl (by decide) rfl rfl (ja_cons (j_lst ja_nil) (ja_cons (j_newL ja_nil) ja_nil)) (by rfl))
    (js_cons (js_forG (passes_of rfl) rfl (ji_seqG (jv 4)) (jg_tup rfl (jgs_cons (jg_name (i := 10) sc__law_drawn_ask.nd rfl (by first | exact Or.inl rfl | exact Or.inr rfl)) (jgs_cons (jg_name (i := 7) sc__law_drawn_ask.nd rfl (by first | exact Or.inl rfl | exact Or.inr rfl)) jgs_nil))) (js_one (js_set (i := 8) sc__law_drawn_ask.nd rfl (by first | exact Or.inl rfl | exact Or.inr rfl) (j_bin op_addA pok_add (jv 8) (j_lc (own := [("one", 15)]) (sl := [15]) (by decide) rfl sc__law_drawn_ask.nd (ji_seq (jv 7)) (blkOk_by (own := [("one", 15)]) (N := N__law_drawn_ask) (sc := defScope s__law_drawn_ask) (by decide +kernel)) (fun _ _ _ _ _ => (jg_name (i := 15) sc__law_drawn_ask.nd rfl (by first | exact Or.inl rfl | exact Or.inr rfl))) (fun _ _ _ _ _ => (jts_one (jt_tru (j_callB call_isi pok_isi (by rfl) T.z_isinstance (by decide +kernel) (ja_cons (jv 15) (ja_cons (j_ty (by rfl) T.z_str (by decide +kernel)) ja_nil)))))) (fun _ _ _ _ _ => (jv 15)))))))
    (js_cons (js_for (passes_of rfl) rfl (ji_rng1 (by rfl) T.z_range (ja_cons (j_call (ok__law_pick T fu) (hr.mono (by decide)) (by rfl) T.g__law_pick T.F__law_pick.kp T.b__law_pick tk (ja_cons (jv 0) (ja_cons (jv 1) (ja_cons (j_lst (ja_cons j_int (ja_cons j_int (ja_cons j_int (ja_cons j_int ja_nil))))) ja_nil)))) ja_nil)) (jg_name (i := 6) sc__law_drawn_ask.nd rfl (by first | exact Or.inl rfl | exact Or.inr rfl)) (js_cons (js_set (i := 11) sc__law_drawn_ask.nd rfl (by first | exact Or.inl rfl | exact Or.inr rfl) (j_tup (ja_cons (j_call (ok__law_pick T fu) (hr.mono (by decide)) (by rfl) T.g__law_pick T.F__law_pick.kp T.b__law_pick tk (ja_cons (jv 0) (ja_cons (jv 1) (ja_cons (jv 8) ja_nil)))) (ja_cons (j_call (ok__law_pick T fu) (hr.mono (by decide)) (by rfl) T.g__law_pick T.F__law_pick.kp T.b__law_pick tk (ja_cons (jv 0) (ja_cons (jv 1) (ja_cons (j_bin op_addA pok_add (jv 8) (j_lst (ja_cons j_int ja_nil))) ja_nil)))) ja_nil))))
    (js_one (js_drop (j_append (jv 9) (j_bin op_addA pok_add (j_tup (ja_cons (j_call (ok__law_pick T fu) (hr.mono (by decide)) (by rfl) T.g__law_pick T.F__law_pick.kp T.b__law_pick tk (ja_cons (jv 0) (ja_cons (jv 1) (ja_cons (j_lst (ja_cons j_str (ja_cons j_str ja_nil))) ja_nil)))) ja_nil)) (jv 11)))))))
    (js_one (js_ret (j_tup (ja_cons (j_callT call_tuple_of pok_tup (by rfl) T.z_tuple (by decide +kernel) (ja_cons (jv 4) ja_nil)) (ja_cons (j_callT call_tuple_of pok_tup (by rfl) T.z_tuple (by decide +kernel) (ja_cons (jv 9) ja_nil)) ja_nil)))))))))))
theorem ok__law_same (T : Tx K mg a__law_draw a__law_pick a__law_drawn_rows a__law_drawn_book a__law_drawn_ask a__law_same a_names_in a_names_of a__law_bent a__law_names a_is_whole a_is_value a_is_name a_is_check a_is_term a_is_atom a_is_ask a__law_is_name a__law_is_value a__law_is_ask a_law d__law_draw d__law_pick d__law_drawn_rows d__law_drawn_book d__law_drawn_ask d__law_same d_names_in d_names_of d__law_bent d__law_names d_is_whole d_is_value d_is_name d_is_check d_is_term d_is_atom d_is_ask d__law_is_name d__law_is_value d__law_is_ask d_law kt_MOST) (fu : Nat) : ∀ n : Nat, FnOk P w K mg base (L2.CX P w) (1 + n) a__law_same d__law_same P__law_same (spD K mg 2 (F__law_same fu n))
  | 0 => fn_bad
  | n + 1 => by
    have ih := ok__law_same T fu n
    refine fnT (k := 1 + n) (N := N__law_same) (b := m__law_same fu (F__law_same fu n)) T.F__law_same sc__law_same fun cdv A outer s H E hr => ?_
    have tk : Takes (cxOf (L2.CX P w) P w K mg base N__law_same "_law_same" (defScope s__law_same) a__law_same cdv A outer s H E) (fun c d _ H => E c d H) := takes_of rfl rfl rfl rfl
    exact (js_cons (js_if (jt_cmp op_isN pok_isN (nomark _) (jv 1) j_non) (js_one (js_ret (j_cmp op_isN pok_isN (nomark _) (jv 0) j_non))) js_nil)
    (js_cons (js_if (jt_tru (j_callB call_isi pok_isi (by rfl) T.z_isinstance (by decide +kernel) (ja_cons (jv 1) (ja_cons (j_ty (by rfl) T.z_bool (by decide +kernel)) ja_nil)))) (js_one (js_ret (j_and (j_callB call_isi pok_isi (by rfl) T.z_isinstance (by decide +kernel) (ja_cons (jv 0) (ja_cons (j_ty (by rfl) T.z_bool (by decide +kernel)) ja_nil))) (j_one (j_cmp (op_eqA hr.units) pok_eq (nomark _) (jv 0) (jv 1)))))) js_nil)
    (js_cons (js_if (jt_tru (j_callB call_isi pok_isi (by rfl) T.z_isinstance (by decide +kernel) (ja_cons (jv 1) (ja_cons (j_ty (by rfl) T.z_tuple (by decide +kernel)) ja_nil)))) (js_cons (js_if (jw_pt (jw_or (jt_not (jt_tru (j_callB call_isi pok_isi (by rfl) T.z_isinstance (by decide +kernel) (ja_cons (jv 0) (ja_cons (j_ty (by rfl) T.z_tuple (by decide +kernel)) ja_nil))))) (jw_or1 (jt_cmp (op_neA hr.units) pok_ne (nomark _) (j_callB call_len pok_len (by rfl) T.z_len (by decide +kernel) (ja_cons (jv 0) ja_nil)) (j_callB call_len pok_len (by rfl) T.z_len (by decide +kernel) (ja_cons (jv 1) ja_nil)))))) (js_one (js_ret j_bl)) js_nil)
    (js_one (js_ret (j_callB (cr_all rfl) pok_all (by rfl) T.z_all (by decide +kernel) (ja_cons (j_lc (own := [("one", 2), ("other", 3)]) (sl := [2, 3]) (by decide) rfl sc__law_same.nd (ji_zip (by rfl) T.z_zip (ja_cons (jv 0) (ja_cons (jv 1) ja_nil))) (blkOk_by (own := [("one", 2), ("other", 3)]) (N := N__law_same) (sc := defScope s__law_same) (by decide +kernel)) (fun _ _ _ _ _ => (jg_tup rfl (jgs_cons (jg_name (i := 2) sc__law_same.nd rfl (by first | exact Or.inl rfl | exact Or.inr rfl)) (jgs_cons (jg_name (i := 3) sc__law_same.nd rfl (by first | exact Or.inl rfl | exact Or.inr rfl)) jgs_nil)))) (fun _ _ _ _ _ => jts_nil) (fun _ _ _ _ _ => (j_call ih (hr.mono (by omega)) (by rfl) T.g__law_same T.F__law_same.kp T.b__law_same takes0 (ja_cons (jv 2) (ja_cons (jv 3) ja_nil))))) ja_nil))))) js_nil)
    (js_cons (js_if (jt_tru (j_callB call_isi pok_isi (by rfl) T.z_isinstance (by decide +kernel) (ja_cons (jv 1) (ja_cons (j_ty (by rfl) T.z_str (by decide +kernel)) ja_nil)))) (js_one (js_ret (j_and (j_callB call_isi pok_isi (by rfl) T.z_isinstance (by decide +kernel) (ja_cons (jv 0) (ja_cons (j_ty (by rfl) T.z_str (by decide +kernel)) ja_nil))) (j_one (j_cmp (op_eqA hr.units) pok_eq (nomark _) (jv 0) (jv 1)))))) js_nil)
    (js_one (js_ret (j_and (j_callB call_isi pok_isi (by rfl) T.z_isinstance (by decide +kernel) (ja_cons (jv 0) (ja_cons (j_ty (by rfl) T.z_int (by decide +kernel)) ja_nil))) (j_and (j_not (j_callB call_isi pok_isi (by rfl) T.z_isinstance (by decide +kernel) (ja_cons (jv 0) (ja_cons (j_ty (by rfl) T.z_bool (by decide +kernel)) ja_nil)))) (j_one (j_cmp (op_eqA hr.units) pok_eq (nomark _) (jv 0) (jv 1)))))))))))
theorem ok_names_in (T : Tx K mg a__law_draw a__law_pick a__law_drawn_rows a__law_drawn_book a__law_drawn_ask a__law_same a_names_in a_names_of a__law_bent a__law_names a_is_whole a_is_value a_is_name a_is_check a_is_term a_is_atom a_is_ask a__law_is_name a__law_is_value a__law_is_ask a_law d__law_draw d__law_pick d__law_drawn_rows d__law_drawn_book d__law_drawn_ask d__law_same d_names_in d_names_of d__law_bent d__law_names d_is_whole d_is_value d_is_name d_is_check d_is_term d_is_atom d_is_ask d__law_is_name d__law_is_value d__law_is_ask d_law kt_MOST) (fu : Nat) : FnOk P w K mg base (L2.CX P w) 1 a_names_in d_names_in P_names_in (spD K mg 1 (F_names_in fu)) := by
  refine fnT (N := N_names_in) (b := m_names_in fu) T.F_names_in sc_names_in fun cdv A outer s H E hr => ?_
  have tk : Takes (cxOf (L2.CX P w) P w K mg base N_names_in "names_in" (defScope s_names_in) a_names_in cdv A outer s H E) (fun c d _ H => E c d H) := takes_of rfl rfl rfl rfl
  exact (js_cons (js_set (i := 1) sc_names_in.nd rfl (by first | exact Or.inl rfl | exact Or.inr rfl) (j_newL ja_nil))
    (js_cons (js_for (passes_of rfl) rfl (ji_seq (jv 0)) (jg_name (i := 2) sc_names_in.nd rfl (by first | exact Or.inl rfl | exact Or.inr rfl)) (js_one (js_if (jw_pt (jw_and (jt_tru (j_callB call_isi pok_isi (by rfl) T.z_isinstance (by decide +kernel) (ja_cons (jv 2) (ja_cons (j_ty (by rfl) T.z_str (by decide +kernel)) ja_nil)))) (jw_and1 (jt_cmp (op_ninT (room65 hr)) pok_ninT (by rfl) (jv 2) (jv 1))))) (js_one (js_drop (j_append (jv 1) (jv 2)))) js_nil)))
    (js_one (js_ret (j_callT call_tuple_of pok_tup (by rfl) T.z_tuple (by decide +kernel) (ja_cons (jv 1) ja_nil))))))
theorem ok_names_of (T : Tx K mg a__law_draw a__law_pick a__law_drawn_rows a__law_drawn_book a__law_drawn_ask a__law_same a_names_in a_names_of a__law_bent a__law_names a_is_whole a_is_value a_is_name a_is_check a_is_term a_is_atom a_is_ask a__law_is_name a__law_is_value a__law_is_ask a_law d__law_draw d__law_pick d__law_drawn_rows d__law_drawn_book d__law_drawn_ask d__law_same d_names_in d_names_of d__law_bent d__law_names d_is_whole d_is_value d_is_name d_is_check d_is_term d_is_atom d_is_ask d__law_is_name d__law_is_value d__law_is_ask d_law kt_MOST) (fu : Nat) : FnOk P w K mg base (L2.CX P w) 2 a_names_of d_names_of P_names_of (spD K mg 1 (F_names_of fu)) := by
  refine fnT (N := N_names_of) (b := m_names_of fu) T.F_names_of sc_names_of fun cdv A outer s H E hr => ?_
  have tk : Takes (cxOf (L2.CX P w) P w K mg base N_names_of "names_of" (defScope s_names_of) a_names_of cdv A outer s H E) (fun c d _ H => E c d H) := takes_of rfl rfl rfl rfl
  exact (js_one (js_ret (j_call (ok_names_in T fu) (hr.mono (by decide)) (by rfl) T.g_names_in T.F_names_in.kp T.b_names_in tk (ja_cons (j_lc2 (own := [("word", 1), ("terms", 2), ("term", 3)]) (sl := [1, 2]) (sl1 := [3]) (vs1 := [3]) (by decide) (by decide) (by decide) rfl sc_names_of.nd (ji_seq (j_ix ix_seq pok_ix (fun _ _ => rfl) (jv 0) j_int)) (blkOk_by (own := [("word", 1), ("terms", 2), ("term", 3)]) (N := N_names_of) (sc := defScope s_names_of) (by decide +kernel)) (fun _ _ _ _ _ => (jg_tup rfl (jgs_cons (jg_name (i := 1) sc_names_of.nd rfl (by first | exact Or.inl rfl | exact Or.inr rfl)) (jgs_cons (jg_name (i := 2) sc_names_of.nd rfl (by first | exact Or.inl rfl | exact Or.inr rfl)) jgs_nil)))) (fun _ _ _ _ _ => jts_nil) (fun _ _ _ _ _ => (ji_seq (jv 2))) (fun _ _ _ _ _ => (jg_name (i := 3) sc_names_of.nd rfl (by first | exact Or.inl rfl | exact Or.inr rfl))) (fun _ _ _ _ _ => jts_nil) (fun _ _ _ _ _ => (jv 3))) ja_nil))))
theorem ok__law_bent (T : Tx K mg a__law_draw a__law_pick a__law_drawn_rows a__law_drawn_book a__law_drawn_ask a__law_same a_names_in a_names_of a__law_bent a__law_names a_is_whole a_is_value a_is_name a_is_check a_is_term a_is_atom a_is_ask a__law_is_name a__law_is_value a__law_is_ask a_law d__law_draw d__law_pick d__law_drawn_rows d__law_drawn_book d__law_drawn_ask d__law_same d_names_in d_names_of d__law_bent d__law_names d_is_whole d_is_value d_is_name d_is_check d_is_term d_is_atom d_is_ask d__law_is_name d__law_is_value d__law_is_ask d_law kt_MOST) (fu : Nat) : ∀ n : Nat, FnOk P w K mg base (L2.CX P w) (2 + n) a__law_bent d__law_bent P__law_bent (spD K mg 3 (F__law_bent fu n))
  | 0 => fn_bad
  | n + 1 => by
    have ih := ok__law_bent T fu n
    refine fnT (k := 2 + n) (N := N__law_bent) (b := m__law_bent fu (F__law_bent fu n)) T.F__law_bent sc__law_bent fun cdv A outer s H E hr => ?_
    have tk : Takes (cxOf (L2.CX P w) P w K mg base N__law_bent "_law_bent" (defScope s__law_bent) a__law_bent cdv A outer s H E) (fun c d _ H => E c d H) := takes_of rfl rfl rfl rfl
    exact (js_cons (js_if (jw_pt (jw_or (jt_not (jt_tru (j_callB call_isi pok_isi (by rfl) T.z_isinstance (by decide +kernel) (ja_cons (jv 2) (ja_cons (j_ty (by rfl) T.z_tuple (by decide +kernel)) ja_nil))))) (jw_or (jt_not (jt_tru (jv 2))) (jw_or1 (jt_cmp (op_eqA hr.units) pok_eq (nomark _) (j_call (ok__law_draw T fu) (hr.mono (by omega)) (by rfl) T.g__law_draw T.F__law_draw.kp T.b__law_draw tk (ja_cons (jv 0) (ja_cons (jv 1) (ja_cons j_int ja_nil)))) j_int))))) (js_cons (js_set (i := 4) sc__law_bent.nd rfl (by first | exact Or.inl rfl | exact Or.inr rfl) (j_lst (ja_cons j_non (ja_cons j_bl (ja_cons j_bl (ja_cons j_int (ja_cons j_int (ja_cons (j_un un_neg pok_neg j_int) (ja_cons j_int (ja_cons j_int (ja_cons j_str (ja_cons j_str (ja_cons j_str (ja_cons j_str (ja_cons (j_tup ja_nil) (ja_cons (j_lst ja_nil) (ja_cons (j_tup (ja_cons j_int ja_nil)) (ja_cons (j_tup (ja_cons j_str (ja_cons j_str ja_nil))) (ja_cons (j_tup (ja_cons j_str (ja_cons j_int (ja_cons (j_tup ja_nil) ja_nil)))) ja_nil)))))))))))))))))))
    (js_cons (js_if (jt_tru (j_callB call_isi pok_isi (by rfl) T.z_isinstance (by decide +kernel) (ja_cons (jv 2) (ja_cons (j_ty (by rfl) T.z_tuple (by decide +kernel)) ja_nil)))) (js_one (js_set (i := 4) sc__law_bent.nd rfl (by first | exact Or.inl rfl | exact Or.inr rfl) (j_bin op_addA pok_add (jv 4) (j_lst (ja_cons (j_callT call_list_of pok_lst (by rfl) T.z_list (by decide +kernel) (ja_cons (jv 2) ja_nil)) (ja_cons (j_slice (jv 2) jo_none (jo_some (j_un un_neg pok_neg j_int))) (ja_cons (j_bin op_addA pok_add (jv 2) (j_slice (jv 2) (jo_some (j_un un_neg pok_neg j_int)) jo_none)) (ja_cons (j_slice (jv 2) (jo_some j_int) jo_none) (ja_cons (j_revT (jv 2)) (ja_cons (j_bin op_addA pok_add (jv 2) (j_tup (ja_cons j_non ja_nil))) ja_nil)))))))))) js_nil)
    (js_cons (js_if (jt_tru (j_callB call_isi pok_isi (by rfl) T.z_isinstance (by decide +kernel) (ja_cons (jv 2) (ja_cons (j_ty (by rfl) T.z_int (by decide +kernel)) ja_nil)))) (js_one (js_set (i := 4) sc__law_bent.nd rfl (by first | exact Or.inl rfl | exact Or.inr rfl) (j_bin op_addA pok_add (jv 4) (j_bin op_mulA pok_mul (j_lst (ja_cons (j_bin op_addA pok_add (jv 2) j_int) (ja_cons (j_bin op_sub pok_sub (jv 2) j_int) (ja_cons (j_notV (jv 2)) (ja_cons (j_tup (ja_cons (jv 2) ja_nil)) (ja_cons (j_callT call_str_int pok_str (by rfl) T.z_str (by decide +kernel) (ja_cons (jv 2) ja_nil)) ja_nil)))))) j_int)))) js_nil)
    (js_one (js_ret (j_call (ok__law_pick T fu) (hr.mono (by omega)) (by rfl) T.g__law_pick T.F__law_pick.kp T.b__law_pick tk (ja_cons (jv 0) (ja_cons (jv 1) (ja_cons (jv 4) ja_nil))))))))) js_nil)
    (js_cons (js_set (i := 3) sc__law_bent.nd rfl (by first | exact Or.inl rfl | exact Or.inr rfl) (j_call (ok__law_draw T fu) (hr.mono (by omega)) (by rfl) T.g__law_draw T.F__law_draw.kp T.b__law_draw tk (ja_cons (jv 0) (ja_cons (jv 1) (ja_cons (j_callB call_len pok_len (by rfl) T.z_len (by decide +kernel) (ja_cons (jv 2) ja_nil)) ja_nil)))))
    (js_one (js_ret (j_bin op_addA pok_add (j_bin op_addA pok_add (j_slice (jv 2) jo_none (jo_some (jv 3))) (j_tup (ja_cons (j_call ih (hr.mono (by omega)) (by rfl) T.g__law_bent T.F__law_bent.kp T.b__law_bent tk (ja_cons (jv 0) (ja_cons (jv 1) (ja_cons (j_ix ix_seq pok_ix (fun _ _ => rfl) (jv 2) (jv 3)) ja_nil)))) ja_nil))) (j_slice (jv 2) (jo_some (j_bin op_addA pok_add (jv 3) j_int)) jo_none))))))
theorem ok__law_names (T : Tx K mg a__law_draw a__law_pick a__law_drawn_rows a__law_drawn_book a__law_drawn_ask a__law_same a_names_in a_names_of a__law_bent a__law_names a_is_whole a_is_value a_is_name a_is_check a_is_term a_is_atom a_is_ask a__law_is_name a__law_is_value a__law_is_ask a_law d__law_draw d__law_pick d__law_drawn_rows d__law_drawn_book d__law_drawn_ask d__law_same d_names_in d_names_of d__law_bent d__law_names d_is_whole d_is_value d_is_name d_is_check d_is_term d_is_atom d_is_ask d__law_is_name d__law_is_value d__law_is_ask d_law kt_MOST) (fu : Nat) : FnOk P w K mg base (L2.CX P w) 1 a__law_names d__law_names P__law_names (spD K mg 1 (F__law_names fu)) := by
  refine fnT (N := N__law_names) (b := m__law_names fu) T.F__law_names sc__law_names fun cdv A outer s H E hr => ?_
  have tk : Takes (cxOf (L2.CX P w) P w K mg base N__law_names "_law_names" (defScope s__law_names) a__law_names cdv A outer s H E) (fun c d _ H => E c d H) := takes_of rfl rfl rfl rfl
  exact (js_cons (js_set (i := 1) sc__law_names.nd rfl (by first | exact Or.inl rfl | exact Or.inr rfl) (j_lst ja_nil))
    (js_cons (js_for (passes_of rfl) rfl (ji_seq (j_ix ix_seq pok_ix (fun _ _ => rfl) (jv 0) j_int)) (jg_tup rfl (jgs_cons (jg_name (i := 2) sc__law_names.nd rfl (by first | exact Or.inl rfl | exact Or.inr rfl)) (jgs_cons (jg_name (i := 3) sc__law_names.nd rfl (by first | exact Or.inl rfl | exact Or.inr rfl)) jgs_nil))) (js_one (js_for (passes_of rfl) rfl (ji_seq (jv 3)) (jg_name (i := 4) sc__law_names.nd rfl (by first | exact Or.inl rfl | exact Or.inr rfl)) (js_one (js_set (i := 1) sc__law_names.nd rfl (by first | exact Or.inl rfl | exact Or.inr rfl) (j_bin op_addA pok_add (jv 1) (j_bin op_mulA pok_mul (j_lst (ja_cons (jv 4) ja_nil)) (j_callT call_int1 pok_int (by rfl) T.z_int (by decide +kernel) (ja_cons (j_and (j_callB call_isi pok_isi (by rfl) T.z_isinstance (by decide +kernel) (ja_cons (jv 4) (ja_cons (j_ty (by rfl) T.z_str (by decide +kernel)) ja_nil))) (j_one (j_cmp (op_ninT (room65 hr)) pok_ninT (by rfl) (jv 4) (jv 1)))) ja_nil)))))))))
    (js_one (js_ret (jv 1)))))
theorem ok_is_whole (T : Tx K mg a__law_draw a__law_pick a__law_drawn_rows a__law_drawn_book a__law_drawn_ask a__law_same a_names_in a_names_of a__law_bent a__law_names a_is_whole a_is_value a_is_name a_is_check a_is_term a_is_atom a_is_ask a__law_is_name a__law_is_value a__law_is_ask a_law d__law_draw d__law_pick d__law_drawn_rows d__law_drawn_book d__law_drawn_ask d__law_same d_names_in d_names_of d__law_bent d__law_names d_is_whole d_is_value d_is_name d_is_check d_is_term d_is_atom d_is_ask d__law_is_name d__law_is_value d__law_is_ask d_law kt_MOST) (fu : Nat) : FnOk P w K mg base (L2.CX P w) 1 a_is_whole d_is_whole P_is_whole (spD K mg 1 (F_is_whole fu)) := by
  refine fnT (N := N_is_whole) (b := m_is_whole fu) T.F_is_whole sc_is_whole fun cdv A outer s H E hr => ?_
  have tk : Takes (cxOf (L2.CX P w) P w K mg base N_is_whole "is_whole" (defScope s_is_whole) a_is_whole cdv A outer s H E) (fun c d _ H => E c d H) := takes_of rfl rfl rfl rfl
  exact (js_one (js_ret (j_and (j_callB call_isi pok_isi (by rfl) T.z_isinstance (by decide +kernel) (ja_cons (jv 0) (ja_cons (j_ty (by rfl) T.z_int (by decide +kernel)) ja_nil))) (j_one (j_not (j_callB call_isi pok_isi (by rfl) T.z_isinstance (by decide +kernel) (ja_cons (jv 0) (ja_cons (j_ty (by rfl) T.z_bool (by decide +kernel)) ja_nil))))))))
theorem ok_is_value (T : Tx K mg a__law_draw a__law_pick a__law_drawn_rows a__law_drawn_book a__law_drawn_ask a__law_same a_names_in a_names_of a__law_bent a__law_names a_is_whole a_is_value a_is_name a_is_check a_is_term a_is_atom a_is_ask a__law_is_name a__law_is_value a__law_is_ask a_law d__law_draw d__law_pick d__law_drawn_rows d__law_drawn_book d__law_drawn_ask d__law_same d_names_in d_names_of d__law_bent d__law_names d_is_whole d_is_value d_is_name d_is_check d_is_term d_is_atom d_is_ask d__law_is_name d__law_is_value d__law_is_ask d_law kt_MOST) (fu : Nat) : FnOk P w K mg base (L2.CX P w) 2 a_is_value d_is_value P_is_value (spD K mg 1 (F_is_value fu)) := by
  refine fnT (N := N_is_value) (b := m_is_value fu) T.F_is_value sc_is_value fun cdv A outer s H E hr => ?_
  have tk : Takes (cxOf (L2.CX P w) P w K mg base N_is_value "is_value" (defScope s_is_value) a_is_value cdv A outer s H E) (fun c d _ H => E c d H) := takes_of rfl rfl rfl rfl
  exact (js_one (js_ret (j_and (j_call (ok_is_whole T fu) (hr.mono (by decide)) (by rfl) T.g_is_whole T.F_is_whole.kp T.b_is_whole tk (ja_cons (jv 0) ja_nil)) (j_one (j_chain op_leA pok_le op_leA pok_le (j_un un_neg pok_neg (j_globI (by rfl) T.k_MOST)) (jv 0) (j_globI (by rfl) T.k_MOST))))))
theorem ok_is_name (T : Tx K mg a__law_draw a__law_pick a__law_drawn_rows a__law_drawn_book a__law_drawn_ask a__law_same a_names_in a_names_of a__law_bent a__law_names a_is_whole a_is_value a_is_name a_is_check a_is_term a_is_atom a_is_ask a__law_is_name a__law_is_value a__law_is_ask a_law d__law_draw d__law_pick d__law_drawn_rows d__law_drawn_book d__law_drawn_ask d__law_same d_names_in d_names_of d__law_bent d__law_names d_is_whole d_is_value d_is_name d_is_check d_is_term d_is_atom d_is_ask d__law_is_name d__law_is_value d__law_is_ask d_law kt_MOST) (fu : Nat) : FnOk P w K mg base (L2.CX P w) 1 a_is_name d_is_name P_is_name (spD K mg 1 (F_is_name fu)) := by
  refine fnT (N := N_is_name) (b := m_is_name fu) T.F_is_name sc_is_name fun cdv A outer s H E hr => ?_
  have tk : Takes (cxOf (L2.CX P w) P w K mg base N_is_name "is_name" (defScope s_is_name) a_is_name cdv A outer s H E) (fun c d _ H => E c d H) := takes_of rfl rfl rfl rfl
  exact (js_one (js_ret (j_and (j_callB call_isi pok_isi (by rfl) T.z_isinstance (by decide +kernel) (ja_cons (jv 0) (ja_cons (j_ty (by rfl) T.z_str (by decide +kernel)) ja_nil))) (j_and (j_chain op_leA pok_le op_leA pok_le j_int (j_callB call_len pok_len (by rfl) T.z_len (by decide +kernel) (ja_cons (jv 0) ja_nil)) j_int) (j_one (j_callB (cr_all rfl) pok_all (by rfl) T.z_all (by decide +kernel) (ja_cons (j_lc (own := [("sign", 1)]) (sl := [1]) (by decide) rfl sc_is_name.nd (ji_seq (jv 0)) (blkOk_by (own := [("sign", 1)]) (N := N_is_name) (sc := defScope s_is_name) (by decide +kernel)) (fun _ _ _ _ _ => (jg_name (i := 1) sc_is_name.nd rfl (by first | exact Or.inl rfl | exact Or.inr rfl))) (fun _ _ _ _ _ => jts_nil) (fun _ _ _ _ _ => (j_chain op_leA pok_le op_leA pok_le j_str (jv 1) j_str))) ja_nil)))))))
theorem ok_is_check (T : Tx K mg a__law_draw a__law_pick a__law_drawn_rows a__law_drawn_book a__law_drawn_ask a__law_same a_names_in a_names_of a__law_bent a__law_names a_is_whole a_is_value a_is_name a_is_check a_is_term a_is_atom a_is_ask a__law_is_name a__law_is_value a__law_is_ask a_law d__law_draw d__law_pick d__law_drawn_rows d__law_drawn_book d__law_drawn_ask d__law_same d_names_in d_names_of d__law_bent d__law_names d_is_whole d_is_value d_is_name d_is_check d_is_term d_is_atom d_is_ask d__law_is_name d__law_is_value d__law_is_ask d_law kt_MOST) (fu : Nat) : FnOk P w K mg base (L2.CX P w) 3 a_is_check d_is_check P_is_check (spD K mg 2 (F_is_check fu)) := by
  refine fnT (N := N_is_check) (b := m_is_check fu) T.F_is_check sc_is_check fun cdv A outer s H E hr => ?_
  have tk : Takes (cxOf (L2.CX P w) P w K mg base N_is_check "is_check" (defScope s_is_check) a_is_check cdv A outer s H E) (fun c d _ H => E c d H) := takes_of rfl rfl rfl rfl
  exact (js_cons (js_if (jw_pt (jw_or (jt_not (jt_tru (j_callB call_isi pok_isi (by rfl) T.z_isinstance (by decide +kernel) (ja_cons (jv 0) (ja_cons (j_ty (by rfl) T.z_tuple (by decide +kernel)) ja_nil))))) (jw_or (jt_cmp (op_neA hr.units) pok_ne (nomark _) (j_callB call_len pok_len (by rfl) T.z_len (by decide +kernel) (ja_cons (jv 0) ja_nil)) j_int) (jw_or1 (jt_not (jt_tru (j_callB call_isi pok_isi (by rfl) T.z_isinstance (by decide +kernel) (ja_cons (j_ix ix_seq pok_ix (fun _ _ => rfl) (jv 0) j_int) (ja_cons (j_ty (by rfl) T.z_str (by decide +kernel)) ja_nil))))))))) (js_one (js_ret j_bl)) js_nil)
    (js_cons (js_if (jt_cmp (op_ninT (room65 hr)) pok_ninT (by rfl) (j_ix ix_seq pok_ix (fun _ _ => rfl) (jv 0) j_int) (j_tup (ja_cons j_str (ja_cons j_str ja_nil)))) (js_one (js_ret j_bl)) js_nil)
    (js_one (js_ret (j_callB (cr_all rfl) pok_all (by rfl) T.z_all (by decide +kernel) (ja_cons (j_lc (own := [("one", 2)]) (sl := [2]) (by decide) rfl sc_is_check.nd (ji_seq (j_slice (jv 0) (jo_some j_int) jo_none)) (blkOk_by (own := [("one", 2)]) (N := N_is_check) (sc := defScope s_is_check) (by decide +kernel)) (fun _ _ _ _ _ => (jg_name (i := 2) sc_is_check.nd rfl (by first | exact Or.inl rfl | exact Or.inr rfl))) (fun _ _ _ _ _ => jts_nil) (fun _ _ _ _ _ => (j_or (j_call (ok_is_value T fu) (hr.mono (by decide)) (by rfl) T.g_is_value T.F_is_value.kp T.b_is_value takes0 (ja_cons (jv 2) ja_nil)) (j_one (j_and (j_call (ok_is_name T fu) (hr.mono (by decide)) (by rfl) T.g_is_name T.F_is_name.kp T.b_is_name takes0 (ja_cons (jv 2) ja_nil)) (j_one (j_cmp (op_inT (room65 hr)) pok_inT (by rfl) (jv 2) (jv 1)))))))) ja_nil))))))
theorem ok_is_term (T : Tx K mg a__law_draw a__law_pick a__law_drawn_rows a__law_drawn_book a__law_drawn_ask a__law_same a_names_in a_names_of a__law_bent a__law_names a_is_whole a_is_value a_is_name a_is_check a_is_term a_is_atom a_is_ask a__law_is_name a__law_is_value a__law_is_ask a_law d__law_draw d__law_pick d__law_drawn_rows d__law_drawn_book d__law_drawn_ask d__law_same d_names_in d_names_of d__law_bent d__law_names d_is_whole d_is_value d_is_name d_is_check d_is_term d_is_atom d_is_ask d__law_is_name d__law_is_value d__law_is_ask d_law kt_MOST) (fu : Nat) : FnOk P w K mg base (L2.CX P w) 3 a_is_term d_is_term P_is_term (spD K mg 1 (F_is_term fu)) := by
  refine fnT (N := N_is_term) (b := m_is_term fu) T.F_is_term sc_is_term fun cdv A outer s H E hr => ?_
  have tk : Takes (cxOf (L2.CX P w) P w K mg base N_is_term "is_term" (defScope s_is_term) a_is_term cdv A outer s H E) (fun c d _ H => E c d H) := takes_of rfl rfl rfl rfl
  exact (js_one (js_ret (j_or (j_call (ok_is_name T fu) (hr.mono (by decide)) (by rfl) T.g_is_name T.F_is_name.kp T.b_is_name tk (ja_cons (jv 0) ja_nil)) (j_one (j_call (ok_is_value T fu) (hr.mono (by decide)) (by rfl) T.g_is_value T.F_is_value.kp T.b_is_value tk (ja_cons (jv 0) ja_nil))))))
theorem ok_is_atom (T : Tx K mg a__law_draw a__law_pick a__law_drawn_rows a__law_drawn_book a__law_drawn_ask a__law_same a_names_in a_names_of a__law_bent a__law_names a_is_whole a_is_value a_is_name a_is_check a_is_term a_is_atom a_is_ask a__law_is_name a__law_is_value a__law_is_ask a_law d__law_draw d__law_pick d__law_drawn_rows d__law_drawn_book d__law_drawn_ask d__law_same d_names_in d_names_of d__law_bent d__law_names d_is_whole d_is_value d_is_name d_is_check d_is_term d_is_atom d_is_ask d__law_is_name d__law_is_value d__law_is_ask d_law kt_MOST) (fu : Nat) : FnOk P w K mg base (L2.CX P w) 4 a_is_atom d_is_atom P_is_atom (spD K mg 2 (F_is_atom fu)) := by
  refine fnT (N := N_is_atom) (b := m_is_atom fu) T.F_is_atom sc_is_atom fun cdv A outer s H E hr => ?_
  have tk : Takes (cxOf (L2.CX P w) P w K mg base N_is_atom "is_atom" (defScope s_is_atom) a_is_atom cdv A outer s H E) (fun c d _ H => E c d H) := takes_of rfl rfl rfl rfl
  exact (js_cons (js_if (jw_pt (jw_or (jt_not (jt_tru (j_callB call_isi pok_isi (by rfl) T.z_isinstance (by decide +kernel) (ja_cons (jv 0) (ja_cons (j_ty (by rfl) T.z_tuple (by decide +kernel)) ja_nil))))) (jw_or (jt_cmp (op_neA hr.units) pok_ne (nomark _) (j_callB call_len pok_len (by rfl) T.z_len (by decide +kernel) (ja_cons (jv 0) ja_nil)) j_int) (jw_or (jt_not (jt_tru (j_call (ok_is_name T fu) (hr.mono (by decide)) (by rfl) T.g_is_name T.F_is_name.kp T.b_is_name tk (ja_cons (j_ix ix_seq pok_ix (fun _ _ => rfl) (jv 0) j_int) ja_nil)))) (jw_or1 (jt_dnin (Nat.lt_of_succ_lt (room65 hr)) (j_ix ix_seq pok_ix (fun _ _ => rfl) (jv 0) j_int) (jv 1))))))) (js_one (js_ret j_bl)) js_nil)
    (js_cons (js_if (jw_pt (jw_or (jt_not (jt_tru (j_callB call_isi pok_isi (by rfl) T.z_isinstance (by decide +kernel) (ja_cons (j_ix ix_seq pok_ix (fun _ _ => rfl) (jv 0) j_int) (ja_cons (j_ty (by rfl) T.z_tuple (by decide +kernel)) ja_nil))))) (jw_or1 (jt_cmp (op_neA hr.units) pok_ne (nomark _) (j_callB call_len pok_len (by rfl) T.z_len (by decide +kernel) (ja_cons (j_ix ix_seq pok_ix (fun _ _ => rfl) (jv 0) j_int) ja_nil)) (j_dget (Nat.lt_of_succ_lt (room65 hr)) (fun _ _ => rfl) (jv 1) (j_ix ix_seq pok_ix (fun _ _ => rfl) (jv 0) j_int)))))) (js_one (js_ret j_bl)) js_nil)
    (js_one (js_ret (j_callB (cr_all rfl) pok_all (by rfl) T.z_all (by decide +kernel) (ja_cons (j_lc (own := [("one", 2)]) (sl := [2]) (by decide) rfl sc_is_atom.nd (ji_seq (j_ix ix_seq pok_ix (fun _ _ => rfl) (jv 0) j_int)) (blkOk_by (own := [("one", 2)]) (N := N_is_atom) (sc := defScope s_is_atom) (by decide +kernel)) (fun _ _ _ _ _ => (jg_name (i := 2) sc_is_atom.nd rfl (by first | exact Or.inl rfl | exact Or.inr rfl))) (fun _ _ _ _ _ => jts_nil) (fun _ _ _ _ _ => (j_call (ok_is_term T fu) (hr.mono (by decide)) (by rfl) T.g_is_term T.F_is_term.kp T.b_is_term takes0 (ja_cons (jv 2) ja_nil)))) ja_nil))))))
theorem ok_is_ask (T : Tx K mg a__law_draw a__law_pick a__law_drawn_rows a__law_drawn_book a__law_drawn_ask a__law_same a_names_in a_names_of a__law_bent a__law_names a_is_whole a_is_value a_is_name a_is_check a_is_term a_is_atom a_is_ask a__law_is_name a__law_is_value a__law_is_ask a_law d__law_draw d__law_pick d__law_drawn_rows d__law_drawn_book d__law_drawn_ask d__law_same d_names_in d_names_of d__law_bent d__law_names d_is_whole d_is_value d_is_name d_is_check d_is_term d_is_atom d_is_ask d__law_is_name d__law_is_value d__law_is_ask d_law kt_MOST) (fu : Nat) : FnOk P w K mg base (L2.CX P w) 5 a_is_ask d_is_ask P_is_ask (spD K mg 2 (F_is_ask fu)) := by
  refine fnT (N := N_is_ask) (b := m_is_ask fu) T.F_is_ask sc_is_ask fun cdv A outer s H E hr => ?_
  have tk : Takes (cxOf (L2.CX P w) P w K mg base N_is_ask "is_ask" (defScope s_is_ask) a_is_ask cdv A outer s H E) (fun c d _ H => E c d H) := takes_of rfl rfl rfl rfl
  exact (js_cons (js_if (jw_pt (jw_or (jt_not (jt_tru (j_callB call_isi pok_isi (by rfl) T.z_isinstance (by decide +kernel) (ja_cons (jv 1) (ja_cons (j_ty (by rfl) T.z_tuple (by decide +kernel)) ja_nil))))) (jw_or (jt_cmp (op_neA hr.units) pok_ne (nomark _) (j_callB call_len pok_len (by rfl) T.z_len (by decide +kernel) (ja_cons (jv 1) ja_nil)) j_int) (jw_or1 (jt_not (jt_tru (j_callB call_isi pok_isi (by rfl) T.z_isinstance (by decide +kernel) (ja_cons (j_ix ix_seq pok_ix (fun _ _ => rfl) (jv 1) j_int) (ja_cons (j_ty (by rfl) T.z_tuple (by decide +kernel)) ja_nil))))))))) (js_one (js_ret j_bl)) js_nil)
    (js_cons (js_asg (jv 1) (jg_tup rfl (jgs_cons (jg_name (i := 4) sc_is_ask.nd rfl (by first | exact Or.inl rfl | exact Or.inr rfl)) (jgs_cons (jg_name (i := 5) sc_is_ask.nd rfl (by first | exact Or.inl rfl | exact Or.inr rfl)) jgs_nil))))
    (js_cons (js_set (i := 2) sc_is_ask.nd rfl (by first | exact Or.inl rfl | exact Or.inr rfl) (j_dc (nw := false) (own := [("word", 6), ("width", 7), ("rows", 8)]) (sl := [6, 7, 8]) (by decide) rfl sc_is_ask.nd (ji_seq (jv 0)) (blkOk_by (own := [("word", 6), ("width", 7), ("rows", 8)]) (N := N_is_ask) (sc := defScope s_is_ask) (by decide +kernel)) (fun _ _ _ _ _ => (jg_tup rfl (jgs_cons (jg_name (i := 6) sc_is_ask.nd rfl (by first | exact Or.inl rfl | exact Or.inr rfl)) (jgs_cons (jg_name (i := 7) sc_is_ask.nd rfl (by first | exact Or.inl rfl | exact Or.inr rfl)) (jgs_cons (jg_name (i := 8) sc_is_ask.nd rfl (by first | exact Or.inl rfl | exact Or.inr rfl)) jgs_nil))))) (fun _ _ _ _ _ => jts_nil) (fun _ _ _ _ _ => (jv 6)) (fun _ _ _ _ _ => (jv 7))))
    (js_cons (js_if (jw_pt (jw_or (jt_not (jt_tru (j_callB (cr_all rfl) pok_all (by rfl) T.z_all (by decide +kernel) (ja_cons (j_lc (own := [("one", 9)]) (sl := [9]) (by decide) rfl sc_is_ask.nd (ji_seq (jv 4)) (blkOk_by (own := [("one", 9)]) (N := N_is_ask) (sc := defScope s_is_ask) (by decide +kernel)) (fun _ _ _ _ _ => (jg_name (i := 9) sc_is_ask.nd rfl (by first | exact Or.inl rfl | exact Or.inr rfl))) (fun _ _ _ _ _ => jts_nil) (fun _ _ _ _ _ => (j_call (ok_is_atom T fu) (hr.mono (by decide)) (by rfl) T.g_is_atom T.F_is_atom.kp T.b_is_atom takes0 (ja_cons (jv 9) (ja_cons (jv 2) ja_nil))))) ja_nil)))) (jw_or1 (jt_not (jt_tru (j_callB call_isi pok_isi (by rfl) T.z_isinstance (by decide +kernel) (ja_cons (jv 5) (ja_cons (j_ty (by rfl) T.z_tuple (by decide +kernel)) ja_nil)))))))) (js_one (js_ret j_bl)) js_nil)
    (js_cons (js_set (i := 3) sc_is_ask.nd rfl (by first | exact Or.inl rfl | exact Or.inr rfl) (j_call (ok_names_of T fu) (hr.mono (by decide)) (by rfl) T.g_names_of T.F_names_of.kp T.b_names_of tk (ja_cons (j_tup (ja_cons (jv 4) (ja_cons (j_tup ja_nil) ja_nil))) ja_nil)))
    (js_one (js_ret (j_and (j_cmp (op_neA hr.units) pok_ne (nomark _) (jv 3) (j_tup ja_nil)) (j_one (j_callB (cr_all rfl) pok_all (by rfl) T.z_all (by decide +kernel) (ja_cons (j_lc (own := [("one", 9)]) (sl := [9]) (by decide) rfl sc_is_ask.nd (ji_seq (jv 5)) (blkOk_by (own := [("one", 9)]) (N := N_is_ask) (sc := defScope s_is_ask) (by decide +kernel)) (fun _ _ _ _ _ => (jg_name (i := 9) sc_is_ask.nd rfl (by first | exact Or.inl rfl | exact Or.inr rfl))) (fun _ _ _ _ _ => jts_nil) (fun _ _ _ _ _ => (j_call (ok_is_check T fu) (hr.mono (by decide)) (by rfl) T.g_is_check T.F_is_check.kp T.b_is_check takes0 (ja_cons (jv 9) (ja_cons (jv 3) ja_nil))))) ja_nil)))))))))))
theorem ok__law_is_name (T : Tx K mg a__law_draw a__law_pick a__law_drawn_rows a__law_drawn_book a__law_drawn_ask a__law_same a_names_in a_names_of a__law_bent a__law_names a_is_whole a_is_value a_is_name a_is_check a_is_term a_is_atom a_is_ask a__law_is_name a__law_is_value a__law_is_ask a_law d__law_draw d__law_pick d__law_drawn_rows d__law_drawn_book d__law_drawn_ask d__law_same d_names_in d_names_of d__law_bent d__law_names d_is_whole d_is_value d_is_name d_is_check d_is_term d_is_atom d_is_ask d__law_is_name d__law_is_value d__law_is_ask d_law kt_MOST) (fu : Nat) : FnOk P w K mg base (L2.CX P w) 1 a__law_is_name d__law_is_name P__law_is_name (spD K mg 1 (F__law_is_name fu)) := by
  refine fnT (N := N__law_is_name) (b := m__law_is_name fu) T.F__law_is_name sc__law_is_name fun cdv A outer s H E hr => ?_
  have tk : Takes (cxOf (L2.CX P w) P w K mg base N__law_is_name "_law_is_name" (defScope s__law_is_name) a__law_is_name cdv A outer s H E) (fun c d _ H => E c d H) := takes_of rfl rfl rfl rfl
  exact (js_one (js_ret (j_and (j_callB call_isi pok_isi (by rfl) T.z_isinstance (by decide +kernel) (ja_cons (jv 0) (ja_cons (j_ty (by rfl) T.z_str (by decide +kernel)) ja_nil))) (j_and (j_chain op_ltA pok_lt op_ltA pok_lt j_int (j_callB call_len pok_len (by rfl) T.z_len (by decide +kernel) (ja_cons (jv 0) ja_nil)) j_int) (j_one (j_notV (j_lc (own := [("sign", 1)]) (sl := [1]) (by decide) rfl sc__law_is_name.nd (ji_seq (jv 0)) (blkOk_by (own := [("sign", 1)]) (N := N__law_is_name) (sc := defScope s__law_is_name) (by decide +kernel)) (fun _ _ _ _ _ => (jg_name (i := 1) sc__law_is_name.nd rfl (by first | exact Or.inl rfl | exact Or.inr rfl))) (fun _ _ _ _ _ => (jts_one (jt_not (jt_chain op_leA pok_le op_leA pok_le j_str (jv 1) j_str)))) (fun _ _ _ _ _ => (jv 1)))))))))
theorem ok__law_is_value (T : Tx K mg a__law_draw a__law_pick a__law_drawn_rows a__law_drawn_book a__law_drawn_ask a__law_same a_names_in a_names_of a__law_bent a__law_names a_is_whole a_is_value a_is_name a_is_check a_is_term a_is_atom a_is_ask a__law_is_name a__law_is_value a__law_is_ask a_law d__law_draw d__law_pick d__law_drawn_rows d__law_drawn_book d__law_drawn_ask d__law_same d_names_in d_names_of d__law_bent d__law_names d_is_whole d_is_value d_is_name d_is_check d_is_term d_is_atom d_is_ask d__law_is_name d__law_is_value d__law_is_ask d_law kt_MOST) (fu : Nat) : FnOk P w K mg base (L2.CX P w) 1 a__law_is_value d__law_is_value P__law_is_value (spD K mg 1 (F__law_is_value fu)) := by
  refine fnT (N := N__law_is_value) (b := m__law_is_value fu) T.F__law_is_value sc__law_is_value fun cdv A outer s H E hr => ?_
  have tk : Takes (cxOf (L2.CX P w) P w K mg base N__law_is_value "_law_is_value" (defScope s__law_is_value) a__law_is_value cdv A outer s H E) (fun c d _ H => E c d H) := takes_of rfl rfl rfl rfl
  exact (js_one (js_ret (j_and (j_callB call_isi pok_isi (by rfl) T.z_isinstance (by decide +kernel) (ja_cons (jv 0) (ja_cons (j_ty (by rfl) T.z_int (by decide +kernel)) ja_nil))) (j_and (j_not (j_callB call_isi pok_isi (by rfl) T.z_isinstance (by decide +kernel) (ja_cons (jv 0) (ja_cons (j_ty (by rfl) T.z_bool (by decide +kernel)) ja_nil)))) (j_one (j_chain op_leA pok_le op_leA pok_le (j_un un_neg pok_neg j_int) (jv 0) j_int))))))
theorem ok__law_is_ask (T : Tx K mg a__law_draw a__law_pick a__law_drawn_rows a__law_drawn_book a__law_drawn_ask a__law_same a_names_in a_names_of a__law_bent a__law_names a_is_whole a_is_value a_is_name a_is_check a_is_term a_is_atom a_is_ask a__law_is_name a__law_is_value a__law_is_ask a_law d__law_draw d__law_pick d__law_drawn_rows d__law_drawn_book d__law_drawn_ask d__law_same d_names_in d_names_of d__law_bent d__law_names d_is_whole d_is_value d_is_name d_is_check d_is_term d_is_atom d_is_ask d__law_is_name d__law_is_value d__law_is_ask d_law kt_MOST) (fu : Nat) : FnOk P w K mg base (L2.CX P w) 2 a__law_is_ask d__law_is_ask P__law_is_ask (spD K mg 2 (F__law_is_ask fu)) := by
  refine fnT (N := N__law_is_ask) (b := m__law_is_ask fu) T.F__law_is_ask sc__law_is_ask fun cdv A outer s H E hr => ?_
  have tk : Takes (cxOf (L2.CX P w) P w K mg base N__law_is_ask "_law_is_ask" (defScope s__law_is_ask) a__law_is_ask cdv A outer s H E) (fun c d _ H => E c d H) := takes_of rfl rfl rfl rfl
  exact (js_cons (js_if (jw_pt (jw_or (jt_not (jt_tru (j_callB call_isi pok_isi (by rfl) T.z_isinstance (by decide +kernel) (ja_cons (jv 1) (ja_cons (j_ty (by rfl) T.z_tuple (by decide +kernel)) ja_nil))))) (jw_or1 (jt_cmp (op_neA hr.units) pok_ne (nomark _) (j_callB call_len pok_len (by rfl) T.z_len (by decide +kernel) (ja_cons (jv 1) ja_nil)) j_int)))) (js_one (js_ret j_bl)) js_nil)
    (js_cons (js_if (jw_pt (jw_or (jt_not (jt_tru (j_callB call_isi pok_isi (by rfl) T.z_isinstance (by decide +kernel) (ja_cons (j_ix ix_seq pok_ix (fun _ _ => rfl) (jv 1) j_int) (ja_cons (j_ty (by rfl) T.z_tuple (by decide +kernel)) ja_nil))))) (jw_or1 (jt_not (jt_tru (j_callB call_isi pok_isi (by rfl) T.z_isinstance (by decide +kernel) (ja_cons (j_ix ix_seq pok_ix (fun _ _ => rfl) (jv 1) j_int) (ja_cons (j_ty (by rfl) T.z_tuple (by decide +kernel)) ja_nil)))))))) (js_one (js_ret j_bl)) js_nil)
    (js_cons (js_asg (j_tup (ja_cons j_newD0 (ja_cons (j_lst ja_nil) ja_nil))) (jg_tup rfl (jgs_cons (jg_name (i := 4) sc__law_is_ask.nd rfl (by first | exact Or.inl rfl | exact Or.inr rfl)) (jgs_cons (jg_name (i := 5) sc__law_is_ask.nd rfl (by first | exact Or.inl rfl | exact Or.inr rfl)) jgs_nil))))
    (js_cons (js_for (passes_of rfl) rfl (ji_seq (jv 0)) (jg_tup rfl (jgs_cons (jg_name (i := 6) sc__law_is_ask.nd rfl (by first | exact Or.inl rfl | exact Or.inr rfl)) (jgs_cons (jg_name (i := 7) sc__law_is_ask.nd rfl (by first | exact Or.inl rfl | exact Or.inr rfl)) (jgs_cons (jg_name (i := 8) sc__law_is_ask.nd rfl (by first | exact Or.inl rfl | exact Or.inr rfl)) jgs_nil)))) (js_one (js_dput (Nat.lt_of_succ_lt (room65 hr)) (jv 7) (jv 4) (jv 6))))
    (js_cons (js_for (passes_of rfl) rfl (ji_seq (j_ix ix_seq pok_ix (fun _ _ => rfl) (jv 1) j_int)) (jg_name (i := 2) sc__law_is_ask.nd rfl (by first | exact Or.inl rfl | exact Or.inr rfl)) (js_cons (js_if (jw_pt (jw_or (jt_not (jt_tru (j_callB call_isi pok_isi (by rfl) T.z_isinstance (by decide +kernel) (ja_cons (jv 2) (ja_cons (j_ty (by rfl) T.z_tuple (by decide +kernel)) ja_nil))))) (jw_or (jt_cmp (op_neA hr.units) pok_ne (nomark _) (j_callB call_len pok_len (by rfl) T.z_len (by decide +kernel) (ja_cons (jv 2) ja_nil)) j_int) (jw_or1 (jt_not (jt_tru (j_call (ok__law_is_name T fu) (hr.mono (by decide)) (by rfl) T.g__law_is_name T.F__law_is_name.kp T.b__law_is_name tk (ja_cons (j_ix ix_seq pok_ix (fun _ _ => rfl) (jv 2) j_int) ja_nil)))))))) (js_one (js_ret j_bl)) js_nil)
    (js_cons (js_if (jt_not (jt_tru (j_callB call_isi pok_isi (by rfl) T.z_isinstance (by decide +kernel) (ja_cons (j_ix ix_seq pok_ix (fun _ _ => rfl) (jv 2) j_int) (ja_cons (j_ty (by rfl) T.z_tuple (by decide +kernel)) ja_nil))))) (js_one (js_ret j_bl)) js_nil)
    (js_cons (js_if (jw_pt (jw_or (jt_cmp (op_neA hr.units) pok_ne (nomark _) (j_dget2 (Nat.lt_of_succ_lt (room65 hr)) (jv 4) (j_ix ix_seq pok_ix (fun _ _ => rfl) (jv 2) j_int) j_int ⟨rfl, rfl, rfl, rfl⟩) (j_callB call_len pok_len (by rfl) T.z_len (by decide +kernel) (ja_cons (j_ix ix_seq pok_ix (fun _ _ => rfl) (jv 2) j_int) ja_nil))) (jw_or1 (jt_dnin (Nat.lt_of_succ_lt (room65 hr)) (j_ix ix_seq pok_ix (fun _ _ => rfl) (jv 2) j_int) (jv 4))))) (js_one (js_ret j_bl)) js_nil)
    (js_cons (js_if (jt_tru (j_lc (own := [("one", 9)]) (sl := [9]) (by decide) rfl sc__law_is_ask.nd (ji_seq (j_ix ix_seq pok_ix (fun _ _ => rfl) (jv 2) j_int)) (blkOk_by (own := [("one", 9)]) (N := N__law_is_ask) (sc := defScope s__law_is_ask) (by decide +kernel)) (fun _ _ _ _ _ => (jg_name (i := 9) sc__law_is_ask.nd rfl (by first | exact Or.inl rfl | exact Or.inr rfl))) (fun _ _ _ _ _ => (jts_one (jw_pt (jw_and (jt_not (jt_tru (j_call (ok__law_is_name T fu) (hr.mono (by decide)) (by rfl) T.g__law_is_name T.F__law_is_name.kp T.b__law_is_name takes0 (ja_cons (jv 9) ja_nil)))) (jw_and1 (jt_not (jt_tru (j_call (ok__law_is_value T fu) (hr.mono (by decide)) (by rfl) T.g__law_is_value T.F__law_is_value.kp T.b__law_is_value takes0 (ja_cons (jv 9) ja_nil))))))))) (fun _ _ _ _ _ => (jv 9)))) (js_one (js_ret j_bl)) js_nil)
    (js_one (js_set (i := 5) sc__law_is_ask.nd rfl (by first | exact Or.inl rfl | exact Or.inr rfl) (j_bin op_addA pok_add (jv 5) (j_lc (own := [("one", 9)]) (sl := [9]) (by decide) rfl sc__law_is_ask.nd (ji_seq (j_ix ix_seq pok_ix (fun _ _ => rfl) (jv 2) j_int)) (blkOk_by (own := [("one", 9)]) (N := N__law_is_ask) (sc := defScope s__law_is_ask) (by decide +kernel)) (fun _ _ _ _ _ => (jg_name (i := 9) sc__law_is_ask.nd rfl (by first | exact Or.inl rfl | exact Or.inr rfl))) (fun _ _ _ _ _ => (jts_one (jt_tru (j_callB call_isi pok_isi (by rfl) T.z_isinstance (by decide +kernel) (ja_cons (jv 9) (ja_cons (j_ty (by rfl) T.z_str (by decide +kernel)) ja_nil)))))) (fun _ _ _ _ _ => (jv 9)))))))))))
    (js_cons (js_for (passes_of rfl) rfl (ji_seq (j_ix ix_seq pok_ix (fun _ _ => rfl) (jv 1) j_int)) (jg_name (i := 3) sc__law_is_ask.nd rfl (by first | exact Or.inl rfl | exact Or.inr rfl)) (js_cons (js_if (jw_pt (jw_or (jt_not (jt_tru (j_callB call_isi pok_isi (by rfl) T.z_isinstance (by decide +kernel) (ja_cons (jv 3) (ja_cons (j_ty (by rfl) T.z_tuple (by decide +kernel)) ja_nil))))) (jw_or (jt_cmp (op_neA hr.units) pok_ne (nomark _) (j_callB call_len pok_len (by rfl) T.z_len (by decide +kernel) (ja_cons (jv 3) ja_nil)) j_int) (jw_or1 (jt_not (jt_tru (j_callB call_isi pok_isi (by rfl) T.z_isinstance (by decide +kernel) (ja_cons (j_ix ix_seq pok_ix (fun _ _ => rfl) (jv 3) j_int) (ja_cons (j_ty (by rfl) T.z_str (by decide +kernel)) ja_nil))))))))) (js_one (js_ret j_bl)) js_nil)
    (js_cons (js_if (jt_cmp (op_ninT (room65 hr)) pok_ninT (by rfl) (j_ix ix_seq pok_ix (fun _ _ => rfl) (jv 3) j_int) (j_tup (ja_cons j_str (ja_cons j_str ja_nil)))) (js_one (js_ret j_bl)) js_nil)
    (js_one (js_if (jt_tru (j_lc (own := [("one", 9)]) (sl := [9]) (by decide) rfl sc__law_is_ask.nd (ji_seq (j_slice (jv 3) (jo_some j_int) jo_none)) (blkOk_by (own := [("one", 9)]) (N := N__law_is_ask) (sc := defScope s__law_is_ask) (by decide +kernel)) (fun _ _ _ _ _ => (jg_name (i := 9) sc__law_is_ask.nd rfl (by first | exact Or.inl rfl | exact Or.inr rfl))) (fun _ _ _ _ _ => (jts_one (jw_pt (jw_and (jt_not (jt_tru (j_call (ok__law_is_value T fu) (hr.mono (by decide)) (by rfl) T.g__law_is_value T.F__law_is_value.kp T.b__law_is_value takes0 (ja_cons (jv 9) ja_nil)))) (jw_and1 (jt_not (jw_pt (jw_and (jt_tru (j_call (ok__law_is_name T fu) (hr.mono (by decide)) (by rfl) T.g__law_is_name T.F__law_is_name.kp T.b__law_is_name takes0 (ja_cons (jv 9) ja_nil))) (jw_and1 (jt_cmp (op_inT (room65 hr)) pok_inT (by rfl) (jv 9) (jv 5))))))))))) (fun _ _ _ _ _ => (jv 9)))) (js_one (js_ret j_bl)) js_nil)))))
    (js_one (js_ret (j_cmp (op_neA hr.units) pok_ne (nomark _) (jv 5) (j_lst ja_nil))))))))))
theorem ok_law (T : Tx K mg a__law_draw a__law_pick a__law_drawn_rows a__law_drawn_book a__law_drawn_ask a__law_same a_names_in a_names_of a__law_bent a__law_names a_is_whole a_is_value a_is_name a_is_check a_is_term a_is_atom a_is_ask a__law_is_name a__law_is_value a__law_is_ask a_law d__law_draw d__law_pick d__law_drawn_rows d__law_drawn_book d__law_drawn_ask d__law_same d_names_in d_names_of d__law_bent d__law_names d_is_whole d_is_value d_is_name d_is_check d_is_term d_is_atom d_is_ask d__law_is_name d__law_is_value d__law_is_ask d_law kt_MOST) (fu : Nat) : FnOk P w K mg base (L2.CX P w) 10 a_law d_law P_law (spD K mg 1 (F_law fu)) := by
  refine fnT (N := N_law) (b := m_law fu) T.F_law sc_law fun cdv A outer s H E hr => ?_
  have tk : Takes (cxOf (L2.CX P w) P w K mg base N_law "law" (defScope s_law) a_law cdv A outer s H E) (fun c d _ H => E c d H) := takes_of rfl rfl rfl rfl
  exact (js_cons (js_set (i := 1) sc_law.nd rfl (by first | exact Or.inl rfl | exact Or.inr rfl) (j_newL ja_nil))
    (js_cons (js_for (passes_of rfl) rfl (ji_rng1 (by rfl) T.z_range (ja_cons j_int ja_nil)) (jg_name (i := 2) sc_law.nd rfl (by first | exact Or.inl rfl | exact Or.inr rfl)) (js_cons (js_set (i := 3) sc_law.nd rfl (by first | exact Or.inl rfl | exact Or.inr rfl) (j_call (ok__law_drawn_book T fu) (hr.mono (by decide)) (by rfl) T.g__law_drawn_book T.F__law_drawn_book.kp T.b__law_drawn_book tk (ja_cons (jv 0) (ja_cons (jv 1) (ja_cons j_int (ja_cons j_int ja_nil))))))
    (js_cons (js_set (i := 4) sc_law.nd rfl (by first | exact Or.inl rfl | exact Or.inr rfl) (j_call (ok__law_drawn_ask T fu) (hr.mono (by decide)) (by rfl) T.g__law_drawn_ask T.F__law_drawn_ask.kp T.b__law_drawn_ask tk (ja_cons (jv 0) (ja_cons (jv 1) (ja_cons (jv 3) (ja_cons j_int ja_nil))))))
    (js_cons (js_if (jt_not (jt_tru (j_call (ok__law_same T fu 4) (hr.mono (by decide)) (by rfl) T.g__law_same T.F__law_same.kp T.b__law_same tk (ja_cons (j_call (ok_names_of T fu) (hr.mono (by decide)) (by rfl) T.g_names_of T.F_names_of.kp T.b_names_of tk (ja_cons (jv 4) ja_nil)) (ja_cons (j_callT call_tuple_of pok_tup (by rfl) T.z_tuple (by decide +kernel) (ja_cons (j_call (ok__law_names T fu) (hr.mono (by decide)) (by rfl) T.g__law_names T.F__law_names.kp T.b__law_names tk (ja_cons (jv 4) ja_nil)) ja_nil)) ja_nil))))) (js_one (js_ret j_bl)) js_nil)
    (js_cons (js_asg (jv 4) (jg_tup rfl (jgs_cons (jg_name (i := 10) sc_law.nd rfl (by first | exact Or.inl rfl | exact Or.inr rfl)) (jgs_cons (jg_name (i := 11) sc_law.nd rfl (by first | exact Or.inl rfl | exact Or.inr rfl)) jgs_nil))))
    (js_cons (js_asg (j_ix ix_seq pok_ix (fun _ _ => rfl) (jv 3) j_int) (jg_tup rfl (jgs_cons (jg_name (i := 12) sc_law.nd rfl (by first | exact Or.inl rfl | exact Or.inr rfl)) (jgs_cons (jg_name (i := 13) sc_law.nd rfl (by first | exact Or.inl rfl | exact Or.inr rfl)) (jgs_cons (jg_name (i := 14) sc_law.nd rfl (by first | exact Or.inl rfl | exact Or.inr rfl)) jgs_nil)))))
    (js_cons (js_set (i := 5) sc_law.nd rfl (by first | exact Or.inl rfl | exact Or.inr rfl) (j_newL (ja_cons (jv 4) (ja_cons (j_tup (ja_cons (jv 10) ja_nil)) (ja_cons (j_tup (ja_cons (jv 11) (ja_cons (jv 10) ja_nil))) (ja_cons (j_callT call_list_of pok_lst (by rfl) T.z_list (by decide +kernel) (ja_cons (jv 4) ja_nil)) (ja_cons j_non (ja_cons (j_tup (ja_cons (j_tup ja_nil) (ja_cons (j_tup ja_nil) ja_nil))) ja_nil))))))))
    (js_cons (js_set (i := 5) sc_law.nd rfl (by first | exact Or.inl rfl | exact Or.inr rfl) (j_binN op_addA pok_catN (jv 5) (j_lst (ja_cons (j_tup (ja_cons (j_callT call_list_of pok_lst (by rfl) T.z_list (by decide +kernel) (ja_cons (jv 10) ja_nil)) (ja_cons (jv 11) ja_nil))) (ja_cons (j_tup (ja_cons (jv 10) (ja_cons (j_callT call_list_of pok_lst (by rfl) T.z_list (by decide +kernel) (ja_cons (jv 11) ja_nil)) ja_nil))) ja_nil)))))
    (js_cons (js_set (i := 6) sc_law.nd rfl (by first | exact Or.inl rfl | exact Or.inr rfl) (j_lst (ja_cons (j_tup (ja_cons (jv 12) (ja_cons (j_bin op_mulT pok_mulT (j_tup (ja_cons j_str ja_nil)) (j_bin op_addA pok_add (jv 13) j_int)) ja_nil))) (ja_cons (j_tup (ja_cons (jv 12) (ja_cons (j_bin op_mulT pok_mulT (j_tup (ja_cons j_str ja_nil)) (jv 13)) ja_nil))) (ja_cons (j_tup (ja_cons j_str (ja_cons (j_tup (ja_cons j_str ja_nil)) ja_nil))) ja_nil)))))
    (js_cons (js_set (i := 6) sc_law.nd rfl (by first | exact Or.inl rfl | exact Or.inr rfl) (j_bin op_addA pok_add (jv 6) (j_lst (ja_cons (j_tup (ja_cons (jv 12) (ja_cons (j_bin op_mulT pok_mulT (j_tup (ja_cons j_int ja_nil)) (jv 13)) ja_nil))) (ja_cons (j_tup (ja_cons (jv 12) (ja_cons (j_bin op_mulT pok_mulT (j_tup (ja_cons j_str ja_nil)) (jv 13)) ja_nil))) ja_nil)))))
    (js_cons (js_for (passes_of rfl) rfl (ji_seq (jv 6)) (jg_name (i := 7) sc_law.nd rfl (by first | exact Or.inl rfl | exact Or.inr rfl)) (js_one (js_set (i := 5) sc_law.nd rfl (by first | exact Or.inl rfl | exact Or.inr rfl) (j_binN op_addA pok_catN (jv 5) (j_lst (ja_cons (j_tup (ja_cons (j_bin op_addA pok_add (jv 10) (j_tup (ja_cons (jv 7) ja_nil))) (ja_cons (jv 11) ja_nil))) (ja_cons (j_tup (ja_cons (j_tup (ja_cons (jv 7) ja_nil)) (ja_cons (j_tup ja_nil) ja_nil))) ja_nil)))))))
    (js_cons (js_set (i := 8) sc_law.nd rfl (by first | exact Or.inl rfl | exact Or.inr rfl) (j_lst (ja_cons (j_tup (ja_cons j_str (ja_cons j_str (ja_cons j_int ja_nil)))) (ja_cons (j_tup (ja_cons j_str (ja_cons j_int (ja_cons j_int ja_nil)))) (ja_cons (j_tup (ja_cons j_str (ja_cons j_str (ja_cons j_str ja_nil)))) ja_nil)))))
    (js_cons (js_set (i := 8) sc_law.nd rfl (by first | exact Or.inl rfl | exact Or.inr rfl) (j_bin op_addA pok_add (jv 8) (j_lst (ja_cons (j_tup (ja_cons j_str (ja_cons j_str (ja_cons j_str ja_nil)))) (ja_cons (j_tup (ja_cons j_str (ja_cons j_str ja_nil))) (ja_cons (j_tup (ja_cons j_str (ja_cons j_str (ja_cons j_int ja_nil)))) ja_nil))))))
    (js_cons (js_for (passes_of rfl) rfl (ji_seq (jv 8)) (jg_name (i := 9) sc_law.nd rfl (by first | exact Or.inl rfl | exact Or.inr rfl)) (js_one (js_drop (j_append (jv 5) (j_tup (ja_cons (jv 10) (ja_cons (j_bin op_addA pok_add (jv 11) (j_tup (ja_cons (jv 9) ja_nil))) ja_nil)))))))
    (js_cons (js_set (i := 5) sc_law.nd rfl (by first | exact Or.inl rfl | exact Or.inr rfl) (j_binN op_addA pok_catN (jv 5) (j_lst (ja_cons (j_tup (ja_cons (jv 10) (ja_cons (j_tup (ja_cons (j_tup (ja_cons j_str (ja_cons j_bl (ja_cons j_str ja_nil)))) ja_nil)) ja_nil))) (ja_cons (j_tup (ja_cons (jv 10) (ja_cons (j_tup (ja_cons (j_tup (ja_cons j_str (ja_cons j_str (ja_cons j_non ja_nil)))) ja_nil)) ja_nil))) ja_nil)))))
    (js_cons (js_set (i := 5) sc_law.nd rfl (by first | exact Or.inl rfl | exact Or.inr rfl) (j_binN op_addA pok_catN (jv 5) (j_lst (ja_cons (j_tup (ja_cons (j_tup (ja_cons (j_tup (ja_cons (jv 12) (ja_cons (j_bin op_mulT pok_mulT (j_lst (ja_cons j_str ja_nil)) (jv 13)) ja_nil))) ja_nil)) (ja_cons (j_tup ja_nil) ja_nil))) ja_nil))))
    (js_cons (js_set (i := 5) sc_law.nd rfl (by first | exact Or.inl rfl | exact Or.inr rfl) (j_binN op_addA pok_catN (jv 5) (j_lc (own := [("j", 15)]) (sl := [15]) (by decide) rfl sc_law.nd (ji_rng1 (by rfl) T.z_range (ja_cons j_int ja_nil)) (blkOk_by (own := [("j", 15)]) (N := N_law) (sc := defScope s_law) (by decide +kernel)) (fun _ _ _ _ _ => (jg_name (i := 15) sc_law.nd rfl (by first | exact Or.inl rfl | exact Or.inr rfl))) (fun _ _ _ _ _ => jts_nil) (fun _ _ _ _ _ => (j_call (ok__law_bent T fu 7) (hr.mono (by decide)) (by rfl) T.g__law_bent T.F__law_bent.kp T.b__law_bent takes0 (ja_cons (jv 0) (ja_cons (jv 1) (ja_cons (jv 4) ja_nil))))))))
    (js_one (js_if (jt_not (jt_tru (j_callB (cr_all rfl) pok_all (by rfl) T.z_all (by decide +kernel) (ja_cons (j_lcG (own := [("thing", 16)]) (sl := [16]) (by decide) rfl sc_law.nd (ji_seqG (jv 5)) (blkOk_by (own := [("thing", 16)]) (N := N_law) (sc := defScope s_law) (by decide +kernel)) (fun _ _ _ _ _ => (jg_name (i := 16) sc_law.nd rfl (by first | exact Or.inl rfl | exact Or.inr rfl))) (fun _ _ _ _ _ => jts_nil) (fun _ _ _ _ _ => (j_call (ok__law_same T fu 4) (hr.mono (by decide)) (by rfl) T.g__law_same T.F__law_same.kp T.b__law_same takes0 (ja_cons (j_call (ok_is_ask T fu) (hr.mono (by decide)) (by rfl) T.g_is_ask T.F_is_ask.kp T.b_is_ask takes0 (ja_cons (jv 3) (ja_cons (jv 16) ja_nil))) (ja_cons (j_call (ok__law_is_ask T fu) (hr.mono (by decide)) (by rfl) T.g__law_is_ask T.F__law_is_ask.kp T.b__law_is_ask takes0 (ja_cons (jv 3) (ja_cons (jv 16) ja_nil))) ja_nil))))) ja_nil)))) (js_one (js_ret j_bl)) js_nil)))))))))))))))))))
    (js_one (js_ret j_bl))))
end
end Law
namespace Law
open PySem L2 Dv
/-- plain things: no deeper than so, not too long -/
def pn : Nat → D → Bool
  | _, .non => true
  | _, .bl _ => true
  | _, .int _ => true
  | _, .str x => decide (x.length ≤ 100)
  | k + 1, .tup xs => decide (xs.length ≤ 1000) && xs.all (pn k)
  | k + 1, .lst xs => decide (xs.length ≤ 1000) && xs.all (pn k)
  | _, _ => false
def isT : D → Bool
  | .tup _ => true
  | _ => false
def isS : D → Bool
  | .str _ => true
  | _ => false
def isI : D → Bool
  | .int _ => true
  | .bl _ => true
  | _ => false
def isB : D → Bool
  | .bl _ => true
  | _ => false
section
variable {S : Store} {d : D} {k fu : Nat}
theorem isi_T (h : pn k d = true) : isiD [d, .ty "tuple"] S = some (.bl (isT d)) := by
  cases d <;> first | rfl | (cases k <;> cases h)
theorem isi_S (h : pn k d = true) : isiD [d, .ty "str"] S = some (.bl (isS d)) := by
  cases d <;> first | rfl | (cases k <;> cases h)
theorem isi_I (h : pn k d = true) : isiD [d, .ty "int"] S = some (.bl (isI d)) := by
  cases d <;> first | rfl | (cases k <;> cases h)
theorem isi_B (h : pn k d = true) : isiD [d, .ty "bool"] S = some (.bl (isB d)) := by
  cases d <;> first | rfl | (cases k <;> cases h)
theorem fn_ret {sz : Nat} {m : SM} {ds : List D} {b : D} (hb : clo S.length b = true) (h : ∃ rho, m (frame sz ds) S = .ok (.ret b) rho S) : runT sz m ds S = .ok b S := by
  obtain ⟨rho, h⟩ := h
  show finT S (m (frame sz ds) S) = _
  rw [h]
  exact fin_ret0 hb
def isW : D → Bool
  | .int _ => true
  | _ => false
theorem whole_ok (h : pn k d = true) : F_is_whole fu [d] S = .ok (.bl (isW d)) S := by
  refine fn_ret rfl ⟨[some d], ?_⟩
  show m_is_whole fu [some d] S = _
  unfold m_is_whole
  have e1 := isi_I (S := S) h
  have e2 := isi_B (S := S) h
  cases d <;> simp [e1, e2, isI, isB, isW]
def valB : D → Bool
  | .int i => decide (-9999 ≤ i) && decide (i ≤ 9999)
  | _ => false
theorem value_ok (h : pn k d = true) : F_is_value fu [d] S = .ok (.bl (valB d)) S := by
  refine fn_ret rfl ⟨[some d], ?_⟩
  show m_is_value fu [some d] S = _
  unfold m_is_value
  have e1 := whole_ok (S := S) (fu := fu) h
  cases d with
  | int i =>
    by_cases c : -9999 ≤ i
    · simp [e1, isW, valB, c]
    · simp [e1, isW, valB, c]
  | _ => simp [e1, isW, valB]
theorem hvalue_ok (h : pn k d = true) : F__law_is_value fu [d] S = .ok (.bl (valB d)) S := by
  refine fn_ret rfl ⟨[some d], ?_⟩
  show m__law_is_value fu [some d] S = _
  unfold m__law_is_value
  have e1 := isi_I (S := S) h
  have e2 := isi_B (S := S) h
  cases d with
  | int i =>
    by_cases c : -9999 ≤ i
    · simp [e1, e2, isI, isB, valB, c]
    · simp [e1, e2, isI, isB, valB, c]
  | _ => simp [e1, e2, isI, isB, valB]
/-- a sign from a to z -/
def chOk (c : Nat) : Bool := (!decide ([c] < [97])) && !decide ([122] < [c])
theorem chain_ok (r : Dv.Env) (c : Nat) (h : r[1]? = some (some (chD c))) : mChain leD leD (mC (.str "a")) (mVar 1) (mC (.str "z")) r S = .ok (.bl (chOk c)) S := by
  have l1 : leD (.str "a") (chD c) S = some (.bl (!decide ([c] < [97]))) := rfl
  have l2 : leD (chD c) (.str "z") S = some (.bl (!decide ([122] < [c]))) := rfl
  rw [mChain_ap, mC_ap, rb_ok]
  simp only [mVar_ap, h, rb_ok, l1, ofO_some]
  unfold chOk
  cases hq : (!decide ([c] < [97])) with
  | false => rfl
  | true =>
    show (R.ok (D.str "z") S).bind _ = _
    rw [rb_ok, l2]
    rfl
def nameB : D → Bool
  | .str x => decide (1 ≤ x.length ∧ x.length ≤ 6) && x.cps.toList.all chOk
  | _ => false
theorem len_str {x : Str} (h : x.length ≤ 100) : lenD [.str x] S = some (.int x.length) := if_pos (by omega)
theorem seq_str {x : Str} (h : x.length ≤ 100) : seqD (.str x) = some (x.cps.toList.map chD) := if_pos (show x.cps.size ≤ 100000 from Nat.le_trans h (by decide))
theorem name_ok (h : pn k d = true) : F_is_name fu [d] S = .ok (.bl (nameB d)) S := by
  refine fn_ret rfl ⟨[some d, none], ?_⟩
  show m_is_name fu [some d, none] S = _
  unfold m_is_name
  have e1 := isi_S (S := S) h
  cases d with
  | str x =>
    have hl : x.length ≤ 100 := by
      have : decide (x.length ≤ 100) = true := by cases k <;> exact h
      exact of_decide_eq_true this
    have lc : lcL (tgN 1) mYes (mChain leD leD (mC (.str "a")) (mVar 1) (mC (.str "z"))) [some (.str x), none] (x.cps.toList.map chD) S = .ok ((x.cps.toList.map chOk).map D.bl) S := by
      rw [lc_map (fun d => match d with | .str z => .bl (match z.cps.toList with | [c] => chOk c | _ => false) | d => d) _ fun d hd => by
        obtain ⟨c, hc, rfl⟩ := List.mem_map.mp hd
        exact ⟨_, rfl, chain_ok _ c rfl⟩]
      congr 1
      rw [List.map_map, List.map_map]
      rfl
    by_cases c1 : (1 : Int) ≤ x.length
    · by_cases c2 : (x.length : Int) ≤ 6
      · have c3 : 1 ≤ x.length ∧ x.length ≤ 6 := by omega
        simp [e1, isS, len_str hl, seq_str hl, lc, nameB, c1, c2, c3, -List.map_map]
      · have c3 : ¬ (1 ≤ x.length ∧ x.length ≤ 6) := by omega
        simp [e1, isS, len_str hl, nameB, c1, c2, c3]
    · have c3 : ¬ (1 ≤ x.length ∧ x.length ≤ 6) := by omega
      simp [e1, isS, len_str hl, nameB, c1, c3]
  | _ => simp [e1, isS, nameB]
theorem hname_ok (h : pn k d = true) : F__law_is_name fu [d] S = .ok (.bl (nameB d)) S := by
  refine fn_ret rfl ⟨[some d, none], ?_⟩
  show m__law_is_name fu [some d, none] S = _
  unfold m__law_is_name
  have e1 := isi_S (S := S) h
  cases d with
  | str x =>
    have hl : x.length ≤ 100 := by
      have : decide (x.length ≤ 100) = true := by cases k <;> exact h
      exact of_decide_eq_true this
    have lc : lcL (tgN 1) (mNotT (mT (mChain leD leD (mC (.str "a")) (mVar 1) (mC (.str "z"))))) (mVar 1) [some (.str x), none] (x.cps.toList.map chD) S = .ok ((x.cps.toList.filter fun c => !chOk c).map chD) S := by
      rw [lc_pure (fun d => match d with | .str z => (match z.cps.toList with | [c] => !chOk c | _ => false) | d => false) id _ fun d hd => by
        obtain ⟨c, hc, rfl⟩ := List.mem_map.mp hd
        have := chain_ok (S := S) [some (.str x), some (chD c)] c rfl
        refine ⟨_, rfl, ?_, fun _ => by simp⟩
        show mNotT (mT (mChain leD leD (mC (.str "a")) (mVar 1) (mC (.str "z")))) [some (.str x), some (chD c)] S = .ok (!chOk c) S
        rw [mNotT_ap, mT_ap, this]
        rfl]
      congr 1
      rw [List.map_id, List.filter_map]
      rfl
    have tr : notVD (.lst ((x.cps.toList.filter fun c => !chOk c).map chD)) S = some (.bl (x.cps.toList.all chOk)) := by
      show some (D.bl (!(!((x.cps.toList.filter fun c => !chOk c).map chD).isEmpty))) = _
      congr 2
      rw [Bool.not_not, Bool.eq_iff_iff, List.isEmpty_iff, List.map_eq_nil_iff, List.filter_eq_nil_iff, List.all_eq_true]
      simp
    by_cases c1 : 0 < x.length
    · by_cases c2 : (x.length : Int) < 7
      · have c3 : 1 ≤ x.length ∧ x.length ≤ 6 := by omega
        simp [e1, isS, len_str hl, seq_str hl, lc, tr, nameB, c1, c2, c3]
      · have c3 : ¬ (1 ≤ x.length ∧ x.length ≤ 6) := by omega
        simp [e1, isS, len_str hl, nameB, c1, c2, c3]
    · have c3 : ¬ (1 ≤ x.length ∧ x.length ≤ 6) := by omega
      simp [e1, isS, len_str hl, nameB, c1, c3]
  | _ => simp [e1, isS, nameB]
theorem term_ok (h : pn k d = true) : F_is_term fu [d] S = .ok (.bl (nameB d || valB d)) S := by
  refine fn_ret rfl ⟨[some d], ?_⟩
  show m_is_term fu [some d] S = _
  unfold m_is_term
  have e1 := name_ok (S := S) (fu := fu) h
  have e2 := value_ok (S := S) (fu := fu) h
  cases q : nameB d <;> simp [e1, e2, q]
end
end Law
namespace Law
open PySem L2 Dv
theorem pn_tup {k : Nat} {xs : List D} (h : pn k (.tup xs) = true) : ∃ j, k = j + 1 ∧ xs.length ≤ 1000 ∧ ∀ x ∈ xs, pn j x = true := by
  cases k with
  | zero => cases h
  | succ j =>
    have h : (decide (xs.length ≤ 1000) && xs.all (pn j)) = true := h
    rw [Bool.and_eq_true, decide_eq_true_eq, List.all_eq_true] at h
    exact ⟨j, rfl, h.1, h.2⟩
def wd (kds : List (Key × D)) (a : D) : Option Int := match keyOf a with
  | some k => match valKD kds k with
    | some (.int w) => some w
    | _ => none
  | none => none
def termB (d : D) : Bool := nameB d || valB d
def atomB (kds : List (Key × D)) : D → Bool
  | .tup [a, .tup ts] => nameB a && (match wd kds a with | some w => decide ((ts.length : Int) = w) | none => false) && ts.all termB
  | _ => false
/-- all widths are ints -/
def Wds (kds : List (Key × D)) : Prop := ∀ k d, valKD kds k = some d → ∃ w : Int, d = .int w
section
variable {S : Store} {d : D} {k fu : Nat} {kds : List (Key × D)}
theorem name_str (h : nameB d = true) : ∃ x, d = .str x := by
  cases d with
  | str x => exact ⟨x, rfl⟩
  | _ => cases h
theorem terms_lc {r0 : Dv.Env} (h2 : 2 < r0.length) {ts : List D} (ht : ∀ t ∈ ts, pn k t = true) : lcL (tgN 2) mYes (mApp 1 (F_is_term fu) (mCons (mVar 2) mNil)) r0 ts S = .ok ((ts.map termB).map D.bl) S := by
  rw [lc_map (fun d => .bl (termB d)) _ fun d hd => by
    refine ⟨_, rfl, ?_⟩
    have e : (r0.set 2 (some d))[2]? = some (some d) := List.getElem?_set_self h2
    simp only [mApp_ap, mCons_ap, mVar_ap, e, rb_ok, mNil_ap, List.length_cons, List.length_nil]
    exact term_ok (ht d hd)]
  rw [List.map_map]
  rfl
theorem atom_ok (hw : Wds kds) (h : pn k d = true) : F_is_atom fu [d, .dct kds] S = .ok (.bl (atomB kds d)) S := by
  refine fn_ret rfl ⟨[some d, some (.dct kds), none], ?_⟩
  show m_is_atom fu [some d, some (.dct kds), none] S = _
  unfold m_is_atom
  have e1 := isi_T (S := S) h
  cases d with
  | tup xs =>
    obtain ⟨j, rfl, hl, hx⟩ := pn_tup h
    match xs, hl, hx, h, e1 with
    | [], _, _, _, e1 => simp [e1, isT, atomB]
    | [a], _, _, _, e1 => simp [e1, isT, atomB]
    | a :: b :: c :: xs, hl, hx, _, e1 =>
      have : ¬ ((xs.length : Int) + 1 + 1 + 1 = 2) := by omega
      simp [e1, isT, atomB, this]
    | [a, b], hl, hx, _, e1 =>
      have ha := hx a (by simp)
      have hb := hx b (by simp)
      have n1 := name_ok (S := S) (fu := fu) ha
      have x0 : atI [a, b] 0 = some a := atI_zero _ _
      have x1 : atI [a, b] 1 = some b := atI_nat (j := 1) rfl
      cases q : nameB a with
      | false =>
        have hf : atomB kds (.tup [a, b]) = false := by
          cases b <;> simp [atomB, q]
        rw [q] at n1
        simp [e1, isT, x0, n1, hf]
      | true =>
        obtain ⟨x, rfl⟩ := name_str q
        rw [q] at n1
        have e2 : dninD (.str x) (.dct kds) S = some (.bl (!(valKD kds (.inr x)).isSome)) := rfl
        have e4 := isi_T (S := S) hb
        have e5 : dgetD (.dct kds) (.str x) S = valKD kds (.inr x) := rfl
        cases v : valKD kds (.inr x) with
        | none =>
          have hf : atomB kds (.tup [.str x, b]) = false := by
            cases b <;> simp [atomB, wd, v]
          simp [e1, isT, x0, n1, e2, v, hf]
        | some wv =>
          obtain ⟨w, rfl⟩ := hw _ _ v
          cases b with
          | tup ts =>
            obtain ⟨i, rfl, tl, ht⟩ := pn_tup hb
            have lc := terms_lc (S := S) (fu := fu) (r0 := [some (.tup [.str x, .tup ts]), some (.dct kds), none]) (by simp) ht
            by_cases c : (ts.length : Int) = w
            · have hf : atomB kds (.tup [.str x, .tup ts]) = ts.all termB := by simp [atomB, wd, v, q, c]
              have ea : (ts.map termB).all id = ts.all termB := by rw [List.all_map]; rfl
              simp [e1, isT, x0, x1, n1, e2, v, e4, e5, c, lc, hf, ea, -List.map_map, -List.all_map]
            · have hf : atomB kds (.tup [.str x, .tup ts]) = false := by simp [atomB, wd, v, q, c]
              simp [e1, isT, x0, x1, n1, e2, v, e4, e5, c, hf]
          | _ =>
            simp [e1, isT, x0, x1, n1, e2, v, e4, atomB]
  | _ => simp [e1, isT, atomB]
end
end Law
namespace Law
open PySem L2 Dv
def okB (ns : List Str) (z : D) : Bool := valB z || (nameB z && (match z with | .str x => decide (x ∈ ns) | _ => false))
def sortB (s : Str) : Bool := decide (s ∈ (["less", "unlike"] : List Str))
def checkB (ns : List Str) : D → Bool
  | .tup [.str s, b, c] => sortB s && (okB ns b && okB ns c)
  | _ => false
section
variable {S : Store} {d : D} {k fu : Nat} {ns : List Str}
theorem cut_one {α : Type} (x : α) (xs : List α) : cutL (x :: xs) (some 1) none = xs := by
  unfold cutL
  rw [HT.sIx_none, show (1 : Int) = ((1 : Nat) : Int) from rfl, HT.sIx_nat, List.length_cons, Nat.min_eq_left (by omega)]
  exact List.take_of_length_le (by simp)
theorem eqv_str (a b : Str) : eqvD (.str a) (.str b) = decide (a = b) := by
  show PyData.eqv (.str a) (.str b) = _
  simp only [PyData.eqv]
  exact Bool.beq_eq_decide_eq a b
theorem any_str (x : Str) : ∀ ns : List Str, ((ns.map D.str).any fun z => eqvD z (.str x)) = decide (x ∈ ns)
  | [] => by simp
  | y :: ns => by
    rw [List.map_cons, List.any_cons, any_str x ns, eqv_str]
    rw [Bool.eq_iff_iff]
    simp only [Bool.or_eq_true, decide_eq_true_eq, List.mem_cons]
    exact ⟨fun h => h.imp Eq.symm id, fun h => h.imp Eq.symm id⟩
theorem inT_strs (x : Str) (ns : List Str) : inTO (.str x) (.tup (ns.map D.str)) = some (decide (x ∈ ns)) := by
  have h1 : (ns.map D.str).all flatD = true := by simp [flatD]
  show (if flatD (.str x) = true ∧ (ns.map D.str).all flatD = true then some ((ns.map D.str).any fun z => eqvD z (.str x)) else none) = _
  rw [if_pos ⟨rfl, h1⟩, any_str]
theorem inTD_strs (x : Str) (ns : List Str) : inTD (.str x) (.tup (ns.map D.str)) S = some (.bl (decide (x ∈ ns))) := by
  show (inTO (.str x) (.tup (ns.map D.str))).map D.bl = _
  rw [inT_strs]
  rfl
theorem ninTD_strs (x : Str) (ns : List Str) : ninTD (.str x) (.tup (ns.map D.str)) S = some (.bl (!decide (x ∈ ns))) := by
  show (inTO (.str x) (.tup (ns.map D.str))).map (fun k => D.bl (!k)) = _
  rw [inT_strs]
  rfl
theorem chOk_le {c : Nat} (h : chOk c = true) : c < 0x110000 := by
  unfold chOk at h
  rw [Bool.and_eq_true] at h
  have h2 := h.2
  rw [Bool.not_eq_true', decide_eq_false_iff_not] at h2
  have : ¬ (122 < c) := fun q => h2 (List.Lex.rel q)
  omega
theorem name_pl {x : Str} (h : nameB (.str x) = true) : pl 0 (.str x) = true := by
  have h : (decide (1 ≤ x.length ∧ x.length ≤ 6) && x.cps.toList.all chOk) = true := h
  rw [Bool.and_eq_true] at h
  show PyData.strOk x = true
  unfold PyData.strOk
  rw [Array.all_eq_true_iff_forall_mem]
  intro c hc
  exact decide_eq_true (chOk_le (List.all_eq_true.mp h.2 c (Array.mem_toList_iff.mpr hc)))
theorem inL_strs {x : Str} {ns : List Str} (hx : nameB (.str x) = true) (hn : ∀ y ∈ ns, nameB (.str y) = true) : inTO (.str x) (.lst (ns.map D.str)) = some (decide (x ∈ ns)) := by
  show inO (.str x) (.lst (ns.map D.str)) = _
  rw [inO_pl (k := 0) (name_pl hx) (List.all_eq_true.mpr fun d hd => by
    obtain ⟨y, hy, rfl⟩ := List.mem_map.mp hd
    exact name_pl (hn y hy)) (by decide)]
  congr 1
  refine decide_eq_decide.mpr ?_
  simp
theorem ok_lc {r0 : Dv.Env} (h2 : 2 < r0.length) (h1 : r0[1]? = some (some (.tup (ns.map D.str)))) {ts : List D} (ht : ∀ t ∈ ts, pn k t = true) :
    lcL (tgN 2) mYes (mOr (mApp 1 (F_is_value fu) (mCons (mVar 2) mNil)) (mAnd (mApp 1 (F_is_name fu) (mCons (mVar 2) mNil)) (mBin inTD (mVar 2) (mVar 1)))) r0 ts S = .ok ((ts.map (okB ns)).map D.bl) S := by
  rw [lc_map (fun d => .bl (okB ns d)) _ fun d hd => by
    refine ⟨_, rfl, ?_⟩
    have e : (r0.set 2 (some d))[2]? = some (some d) := List.getElem?_set_self h2
    have e' : (r0.set 2 (some d))[1]? = some (some (.tup (ns.map D.str))) := by rw [List.getElem?_set_ne (by decide)]; exact h1
    have v := value_ok (S := S) (fu := fu) (ht d hd)
    have n := name_ok (S := S) (fu := fu) (ht d hd)
    simp only [mOr_ap, mAnd_ap, mApp_ap, mCons_ap, mVar_ap, mBin_ap, e, e', rb_ok, mNil_ap, List.length_cons, List.length_nil]
    cases q : valB d with
    | true => simp [v, q, okB]
    | false =>
      cases q2 : nameB d with
      | false => simp [v, n, q, q2, okB]
      | true =>
        obtain ⟨x, rfl⟩ := name_str q2
        simp [v, n, q, q2, okB, inTD_strs]]
  rw [List.map_map]
  rfl
theorem check_ok (h : pn k d = true) : F_is_check fu [d, .tup (ns.map D.str)] S = .ok (.bl (checkB ns d)) S := by
  refine fn_ret rfl ⟨[some d, some (.tup (ns.map D.str)), none], ?_⟩
  show m_is_check fu [some d, some (.tup (ns.map D.str)), none] S = _
  unfold m_is_check
  have e1 := isi_T (S := S) h
  cases d with
  | tup xs =>
    obtain ⟨j, rfl, hl, hx⟩ := pn_tup h
    match xs, hl, hx, h, e1 with
    | [], _, _, _, e1 => simp [e1, isT, checkB]
    | [a], _, _, _, e1 => simp [e1, isT, checkB]
    | [a, b], _, _, _, e1 => simp [e1, isT, checkB]
    | a :: b :: c :: e :: xs, hl, hx, _, e1 =>
      have : ¬ ((xs.length : Int) + 1 + 1 + 1 + 1 = 3) := by omega
      have hf : checkB ns (.tup (a :: b :: c :: e :: xs)) = false := by cases a <;> rfl
      simp [e1, isT, hf, this]
    | [a, b, c], hl, hx, _, e1 =>
      have ha := hx a (by simp)
      have e2 := isi_S (S := S) ha
      have x0 : atI [a, b, c] 0 = some a := atI_zero _ _
      cases a with
      | str s =>
        have e3 := ninTD_strs (S := S) s ["less", "unlike"]
        have e3' : ninTD (.str s) (.tup [.str "less", .str "unlike"]) S = some (.bl (!sortB s)) := e3
        cases q : sortB s with
        | false =>
          rw [q] at e3'
          simp [e1, isT, x0, e2, isS, e3', checkB, q]
        | true =>
          rw [q] at e3'
          have sl : slD (.tup [.str s, b, c]) (some 1) none S = some (.tup [b, c]) := by
            show some (D.tup (cutL [.str s, b, c] (some 1) none)) = _
            rw [cut_one]
          have lc := ok_lc (S := S) (fu := fu) (ns := ns) (r0 := [some (.tup [.str s, b, c]), some (.tup (ns.map D.str)), none]) (by simp) rfl (ts := [b, c]) (fun t ht => hx t (by
            simp at ht
            rcases ht with rfl | rfl <;> simp))
          have lc' : _ = R.ok [D.bl (okB ns b), D.bl (okB ns c)] S := lc
          have al : allD [.lst [D.bl (okB ns b), D.bl (okB ns c)]] S = some (.bl (okB ns b && okB ns c)) := by
            have := allD_bls (S := S) [okB ns b, okB ns c]
            simpa using this
          simp [e1, isT, x0, e2, isS, e3', checkB, q, sl, lc', al, -slD_tup]
      | _ =>
        simp [e1, isT, x0, e2, isS, checkB]
  | _ => simp [e1, isT, checkB]
end
end Law
namespace Law
open PySem L2 Dv
def nmS (acc : List Str) : D → List Str
  | .str x => if x ∈ acc then acc else acc ++ [x]
  | _ => acc
def nmL (ts : List D) : List Str := ts.foldl nmS []
def tms : D → List D
  | .tup [_, .tup ts] => ts
  | _ => []
section
variable {S : Store} {d : D} {k fu : Nat} {ns : List Str}
theorem nmS_ok {acc : List Str} {t : D} (ht : termB t = true) (ha : ∀ y ∈ acc, nameB (.str y) = true) : ∀ y ∈ nmS acc t, nameB (.str y) = true := by
  intro y hy
  cases t with
  | str x =>
    have hx : nameB (.str x) = true := by
      have : (nameB (.str x) || valB (.str x)) = true := ht
      simpa [valB] using this
    have hy : y ∈ (if x ∈ acc then acc else acc ++ [x]) := hy
    split at hy
    · exact ha y hy
    · rcases List.mem_append.mp hy with q | q
      · exact ha y q
      · rw [List.mem_singleton.mp q]; exact hx
  | _ => exact ha y hy
theorem nmL_ok : ∀ {ts : List D} {acc : List Str}, (∀ t ∈ ts, termB t = true) → (∀ y ∈ acc, nameB (.str y) = true) → ∀ y ∈ ts.foldl nmS acc, nameB (.str y) = true
  | [], _, _, ha => ha
  | t :: ts, acc, ht, ha => nmL_ok (ts := ts) (fun u hu => ht u (List.mem_cons_of_mem _ hu)) (nmS_ok (ht t List.mem_cons_self) ha)
theorem nmS_len (acc : List Str) (t : D) : (nmS acc t).length ≤ acc.length + 1 := by
  cases t with
  | str x =>
    show (if x ∈ acc then acc else acc ++ [x]).length ≤ _
    split <;> simp
  | _ => exact Nat.le_succ _
def namesB : SM := (sIf (mAndT (mTru (mCall isiD (mCons (mVar 2) (mCons (mC (.ty "str")) mNil)))) (mT (mBin ninTD (mVar 2) (mVar 1)))) (sDrop (mAppend (mVar 1) (mVar 2))) sNil)
theorem last_at (o : O) : (S ++ [o])[S.length]? = some o := by simp
theorem last_set (o o' : O) : (S ++ [o]).set S.length o' = S ++ [o'] := by simp
theorem names_loop {d0 : D} : ∀ (ts : List D) (acc : List Str) (y2 : Option D), (∀ t ∈ ts, pn k t = true ∧ termB t = true) → (∀ y ∈ acc, nameB (.str y) = true) → acc.length + ts.length ≤ 90000 →
    ∃ y2', sLoop (tgN 2) namesB ts [some d0, some (.loc S.length), y2] (S ++ [.lst (acc.map D.str)]) = .ok .next [some d0, some (.loc S.length), y2'] (S ++ [.lst ((ts.foldl nmS acc).map D.str)])
  | [], acc, y2, _, _, _ => ⟨y2, rfl⟩
  | t :: ts, acc, y2, ht, ha, hl => by
    obtain ⟨hp, hte⟩ := ht t List.mem_cons_self
    have step : namesB [some d0, some (.loc S.length), some t] (S ++ [.lst (acc.map D.str)]) = .ok .next [some d0, some (.loc S.length), some t] (S ++ [.lst ((nmS acc t).map D.str)]) := by
      have e1 := isi_S (S := S ++ [.lst (acc.map D.str)]) hp
      unfold namesB
      cases t with
      | str x =>
        have hx : nameB (.str x) = true := by
          have : (nameB (.str x) || valB (.str x)) = true := hte
          simpa [valB] using this
        have e2 : ninTD (.str x) (.loc S.length) (S ++ [.lst (acc.map D.str)]) = some (.bl (!decide (x ∈ acc))) := by
          have en : now (.loc S.length) (S ++ [.lst (acc.map D.str)]) = .lst (acc.map D.str) := by
            unfold now
            simp only [last_at]
          show (inTO (.str x) (now (.loc S.length) (S ++ [.lst (acc.map D.str)]))).map (fun k => D.bl (!k)) = _
          rw [en, inL_strs hx ha]
          rfl
        have hal : acc.length < 100000 := by simp at hl; omega
        by_cases c : x ∈ acc
        · simp [e1, isS, e2, c, nmS]
        · have e3 : acc.map D.str ++ [D.str x] = (acc ++ [x]).map D.str := by simp
          simp [e1, isS, e2, c, nmS, last_at, last_set, hal]
      | _ => simp [e1, isS, nmS]
    obtain ⟨y2', e⟩ := names_loop (d0 := d0) ts (nmS acc t) (some t) (fun u hu => ht u (List.mem_cons_of_mem _ hu)) (nmS_ok hte ha) (by
      have := nmS_len acc t
      simp at hl
      omega)
    refine ⟨y2', ?_⟩
    rw [sLoop_cons]
    show (match namesB [some d0, some (.loc S.length), some t] (S ++ [.lst (acc.map D.str)]) with
      | .ok .next r2 S2 => sLoop (tgN 2) namesB ts r2 S2
      | .ok .cont r2 S2 => sLoop (tgN 2) namesB ts r2 S2
      | .ok .brk r2 S2 => .ok .next r2 S2
      | .ok (.ret d) r2 S2 => .ok (.ret d) r2 S2
      | .exc x r2 S2 => .exc x r2 S2
      | .bad => .bad) = _
    rw [step]
    exact e
theorem clo_strs (n : Nat) (ns : List Str) : clo n (.tup (ns.map D.str)) = true := by
  show cloL n (ns.map D.str) = true
  refine (cloL_iff n _).mpr fun d hd => ?_
  obtain ⟨x, _, rfl⟩ := List.mem_map.mp hd
  rfl
theorem namesIn_ok {ts : List D} (ht : ∀ t ∈ ts, pn k t = true ∧ termB t = true) (hl : ts.length ≤ 90000) : F_names_in fu [.lst ts] S = .ok (.tup ((nmL ts).map D.str)) S := by
  obtain ⟨y2, e⟩ := names_loop (S := S) (d0 := .lst ts) ts [] none ht (by simp) (by simpa using hl)
  show finT S (m_names_in fu (frame 3 _) S) = _
  have ef : frame 3 [.lst ts] = [some (.lst ts), none, none] := rfl
  have eb : m_names_in fu [some (.lst ts), none, none] S = .ok (.ret (.tup ((nmL ts).map D.str))) [some (.lst ts), some (.loc S.length), y2] (S ++ [.lst ((nmL ts).map D.str)]) := by
    have ed : m_names_in fu = (sSeq (sSet 1 (mNewL mNil)) (sSeq (sFor (mIter (mVar 0)) (tgN 2) namesB) (sRet (mCall tupD (mCons (mVar 1) mNil))))) := rfl
    rw [ed]
    have e' : sLoop (tgN 2) namesB ts [some (.lst ts), some (.loc S.length), none] (S ++ [.lst []]) = _ := e
    simp [e', last_at]
    rfl
  rw [ef, eb]
  exact fin_ret_app _ (fz_clo (clo_strs _ _))
theorem lc2_terms {r0 : Dv.Env} {y0 y1 y2 y3 : Option D} : ∀ as : List D, (∀ a ∈ as, ∃ w ts, a = .tup [w, .tup ts]) → lcL2 (tgT 2 (tgsCons (tgN 1) (tgsCons (tgN 2) tgsNil))) mYes (mIter (mVar 2)) [3] (tgN 3) mYes (mVar 3) [y0, y1, y2, y3] as S = .ok (as.flatMap tms) S
  | [], _ => rfl
  | a :: as, h => by
    obtain ⟨w, ts, rfl⟩ := h a List.mem_cons_self
    have ih := lc2_terms (r0 := r0) (y0 := y0) (y1 := y1) (y2 := y2) (y3 := y3) as fun b hb => h b (List.mem_cons_of_mem _ hb)
    have inner : lcL (tgN 3) mYes (mVar 3) [y0, some w, some (.tup ts), none] ts S = .ok ts S := by
      have := lc_map (gm := tgN 3) (te := mVar 3) (r0 := [y0, some w, some (.tup ts), none]) (S := S) id ts fun d hd => ⟨[y0, some w, some (.tup ts), some d], rfl, rfl⟩
      rw [List.map_id] at this
      exact this
    rw [lcL2_cons]
    simp [inner, ih]
    rfl
theorem namesOf_ok {as : List D} {c : D} (h : ∀ a ∈ as, ∃ w ts, a = .tup [w, .tup ts]) (ht : ∀ t ∈ as.flatMap tms, pn k t = true ∧ termB t = true) (hl : (as.flatMap tms).length ≤ 90000) : F_names_of fu [.tup [.tup as, c]] S = .ok (.tup ((nmL (as.flatMap tms)).map D.str)) S := by
  refine fn_ret (clo_strs _ _) ⟨[some (.tup [.tup as, c]), none, none, none], ?_⟩
  show m_names_of fu [some (.tup [.tup as, c]), none, none, none] S = _
  unfold m_names_of
  have e1 := lc2_terms (S := S) (r0 := []) (y0 := some (.tup [.tup as, c])) (y1 := none) (y2 := none) (y3 := none) as h
  have e2 := namesIn_ok (S := S) (fu := fu) ht hl
  have x0 : atI [.tup as, c] 0 = some (.tup as) := atI_zero _ _
  have hl' : (as.flatMap tms).length ≤ 100000 := by omega
  have e3 : mLc2 (mIter (mBin ixD (mVar 0) (mC (.int 0)))) [1, 2, 3] (tgT 2 (tgsCons (tgN 1) (tgsCons (tgN 2) tgsNil))) mYes (mIter (mVar 2)) [3] (tgN 3) mYes (mVar 3) [some (.tup [.tup as, c]), none, none, none] S = .ok (.lst (as.flatMap tms)) S := by
    unfold mLc2
    simp [x0, e1, lcFin, hl', -List.length_flatMap]
  simp [e3, e2]
end
end Law
namespace Law
open PySem L2 Dv
/-- a table of a book -/
def tbD (t : Str × Int × D) : D := .tup [.str t.1, .int t.2.1, t.2.2]
def wdS (acc : List (Key × D)) (t : Str × Int × D) : List (Key × D) := putKD acc (.inr t.1) (.int t.2.1)
def wds (tb : List (Str × Int × D)) : List (Key × D) := tb.foldl wdS []
def askB (kds : List (Key × D)) : D → Bool
  | .tup [.tup as, .tup cs] => as.all (atomB kds) && (!decide (nmL (as.flatMap tms) = []) && cs.all (checkB (nmL (as.flatMap tms))))
  | _ => false
section
variable {S : Store} {d : D} {k fu : Nat} {ns : List Str} {kds : List (Key × D)}
def IntV (kds : List (Key × D)) : Prop := ∀ kv ∈ kds, ∃ w : Int, kv.2 = .int w
theorem IntV.put (h : IntV kds) (x : Key) (w : Int) : IntV (putKD kds x (.int w)) := by
  intro kv hkv
  unfold putKD at hkv
  split at hkv
  · obtain ⟨kv', h1, rfl⟩ := List.mem_map.mp hkv
    split
    · exact ⟨w, rfl⟩
    · exact h kv' h1
  · rcases List.mem_append.mp hkv with q | q
    · exact h kv q
    · rw [List.mem_singleton.mp q]
      exact ⟨w, rfl⟩
theorem IntV.wds (h : IntV kds) : Wds kds := by
  intro x d e
  unfold valKD at e
  obtain ⟨kv, e1, rfl⟩ := Option.map_eq_some_iff.mp e
  exact h kv (List.mem_of_find?_eq_some e1)
theorem IntV.fold : ∀ {tb : List (Str × Int × D)} {kds : List (Key × D)}, IntV kds → IntV (tb.foldl wdS kds)
  | [], _, h => h
  | t :: tb, _, h => IntV.fold (tb := tb) (IntV.put h _ _)
theorem wds_wds (tb : List (Str × Int × D)) : Wds (wds tb) := IntV.wds (IntV.fold (by intro kv h; cases h))
theorem dc_wds {y0 y1 y2 y3 y4 y5 y9 : Option D} : ∀ (tb : List (Str × Int × D)) (acc : List (Key × D)), acc.length + tb.length ≤ 80000 →
    dcL (tgT 3 (tgsCons (tgN 6) (tgsCons (tgN 7) (tgsCons (tgN 8) tgsNil)))) mYes (mVar 6) (mVar 7) [y0, y1, y2, y3, y4, y5, none, none, none, y9] (tb.map tbD) acc S = .ok (tb.foldl wdS acc) S
  | [], acc, _ => rfl
  | t :: tb, acc, h => by
    have hl := putKD_len acc (.inr t.1) (.int t.2.1)
    have ih := dc_wds (y0 := y0) (y1 := y1) (y2 := y2) (y3 := y3) (y4 := y4) (y5 := y5) (y9 := y9) tb (wdS acc t) (by
      have : (wdS acc t).length ≤ acc.length + 1 := hl
      simp at h
      omega)
    have ha : acc.length < 90000 := by simp at h; omega
    rw [List.map_cons, dcL_cons]
    unfold tbD
    simp [ha]
    exact ih
theorem atoms_lc {y0 y1 y3 y4 y5 y6 y7 y8 : Option D} (hw : Wds kds) {as : List D} (h : ∀ a ∈ as, pn k a = true) : lcL (tgN 9) mYes (mApp 2 (F_is_atom fu) (mCons (mVar 9) (mCons (mVar 2) mNil))) [y0, y1, some (.dct kds), y3, y4, y5, y6, y7, y8, none] as S = .ok ((as.map (atomB kds)).map D.bl) S := by
  rw [lc_map (fun d => .bl (atomB kds d)) _ fun d hd => by
    refine ⟨[y0, y1, some (.dct kds), y3, y4, y5, y6, y7, y8, some d], rfl, ?_⟩
    have := atom_ok (S := S) (fu := fu) hw (h d hd)
    simp [this]]
  rw [List.map_map]
  rfl
theorem checks_lc {y0 y1 y2 y4 y5 y6 y7 y8 : Option D} {cs : List D} (h : ∀ a ∈ cs, pn k a = true) : lcL (tgN 9) mYes (mApp 2 (F_is_check fu) (mCons (mVar 9) (mCons (mVar 3) mNil))) [y0, y1, y2, some (.tup (ns.map D.str)), y4, y5, y6, y7, y8, none] cs S = .ok ((cs.map (checkB ns)).map D.bl) S := by
  rw [lc_map (fun d => .bl (checkB ns d)) _ fun d hd => by
    refine ⟨[y0, y1, y2, some (.tup (ns.map D.str)), y4, y5, y6, y7, y8, some d], rfl, ?_⟩
    have := check_ok (S := S) (fu := fu) (ns := ns) (h d hd)
    simp [this]]
  rw [List.map_map]
  rfl
theorem atomB_shape {a : D} (h : atomB kds a = true) : ∃ w ts, a = .tup [w, .tup ts] ∧ (∀ t ∈ ts, termB t = true) ∧ nameB w = true := by
  unfold atomB at h
  split at h
  · rename_i w ts
    rw [Bool.and_eq_true, Bool.and_eq_true, List.all_eq_true] at h
    exact ⟨w, ts, rfl, h.2, h.1.1⟩
  · cases h
theorem ne_names (hn : ∀ y ∈ ns, nameB (.str y) = true) : neD (.tup (ns.map D.str)) (.tup []) S = some (.bl (!decide (ns = []))) := by
  rw [neD_pl (k := 1) (by
    show (ns.map D.str).all (pl 0) = true
    exact List.all_eq_true.mpr fun d hd => by
      obtain ⟨y, hy, rfl⟩ := List.mem_map.mp hd
      exact name_pl (hn y hy)) (by rfl) (by decide)]
  congr 3
  refine decide_eq_decide.mpr ?_
  show D.tup (ns.map D.str) = D.tup [] ↔ _
  rw [D.tup.injEq, List.map_eq_nil_iff]
theorem terms_of {as : List D} (hp : ∀ a ∈ as, pn k a = true) (ha : ∀ a ∈ as, atomB kds a = true) : (∃ j, ∀ t ∈ as.flatMap tms, pn j t = true ∧ termB t = true) ∧ (as.flatMap tms).length ≤ 1000 * as.length := by
  constructor
  · refine ⟨k - 2, fun t ht => ?_⟩
    obtain ⟨a, h1, h2⟩ := List.mem_flatMap.mp ht
    obtain ⟨w, ts, rfl, h3, _⟩ := atomB_shape (ha a h1)
    obtain ⟨j, rfl, _, hx⟩ := pn_tup (hp _ h1)
    obtain ⟨i, rfl, _, hy⟩ := pn_tup (hx (.tup ts) (by simp))
    exact ⟨hy t h2, h3 t h2⟩
  · clear ha
    induction as with
    | nil => simp
    | cons a as ih =>
      have := ih fun b hb => hp b (List.mem_cons_of_mem _ hb)
      have hh : (tms a).length ≤ 1000 := by
        unfold tms
        split
        · rename_i w ts
          obtain ⟨j, rfl, _, hx⟩ := pn_tup (hp _ List.mem_cons_self)
          obtain ⟨i, rfl, hl, hy⟩ := pn_tup (hx (.tup ts) (by simp))
          exact hl
        · simp
      rw [List.flatMap_cons, List.length_append, List.length_cons]
      omega
theorem ask_ok {tb : List (Str × Int × D)} (htb : tb.length ≤ 100) (h : pn k d = true) (hsm : ∀ as c, d = .tup [.tup as, c] → as.length ≤ 80) : F_is_ask fu [.tup (tb.map tbD), d] S = .ok (.bl (askB (wds tb) d)) S := by
  refine fn_ret rfl ?_
  show ∃ rho, m_is_ask fu [some (.tup (tb.map tbD)), some d, none, none, none, none, none, none, none, none] S = _
  have e1 := isi_T (S := S) h
  unfold m_is_ask
  cases d with
  | tup xs =>
    obtain ⟨j, rfl, hl, hx⟩ := pn_tup h
    match xs, hl, hx, h, e1, hsm with
    | [], _, _, _, e1, _ => exact ⟨_, by simp [e1, isT, askB]; rfl⟩
    | [a], _, _, _, e1, _ => exact ⟨_, by simp [e1, isT, askB]; rfl⟩
    | a :: b :: c :: xs, hl, hx, _, e1, _ =>
      have : ¬ ((xs.length : Int) + 1 + 1 + 1 = 2) := by omega
      have hf : askB (wds tb) (.tup (a :: b :: c :: xs)) = false := by cases a <;> cases b <;> rfl
      exact ⟨_, by simp [e1, isT, hf, this]; rfl⟩
    | [A, C], hl, hx, _, e1, hsm =>
      have hA := hx A (by simp)
      have hC := hx C (by simp)
      have e2 := isi_T (S := S) hA
      have e3 := isi_T (S := S) hC
      have x0 : atI [A, C] 0 = some A := atI_zero _ _
      cases A with
      | tup as =>
        obtain ⟨i, rfl, al, ha⟩ := pn_tup hA
        have dc := fun y3 y4 y5 y9 => dc_wds (S := S) (y0 := some (.tup (tb.map tbD))) (y1 := some (.tup [.tup as, C])) (y2 := none) (y3 := y3) (y4 := y4) (y5 := y5) (y9 := y9) tb [] (by simp; omega)
        have lc := fun y3 y4 y5 y6 y7 y8 => atoms_lc (S := S) (fu := fu) (y0 := some (.tup (tb.map tbD))) (y1 := some (.tup [.tup as, C])) (y3 := y3) (y4 := y4) (y5 := y5) (y6 := y6) (y7 := y7) (y8 := y8) (wds_wds tb) ha
        have ea : (as.map (atomB (wds tb))).all id = as.all (atomB (wds tb)) := by rw [List.all_map]; rfl
        have dc' : ∀ y3 y4 y5 y9, _ = R.ok (wds tb) S := dc
        cases q : as.all (atomB (wds tb)) with
        | false =>
          have hf : askB (wds tb) (.tup [.tup as, C]) = false := by cases C <;> simp [askB, q]
          exact ⟨_, by simp [e1, isT, x0, e2, dc', lc, ea, q, hf, -List.map_map, -List.all_map]; rfl⟩
        | true =>
          cases C with
          | tup cs =>
            obtain ⟨i2, e, cl, hc⟩ := pn_tup hC
            have q' := List.all_eq_true.mp q
            obtain ⟨⟨jj, ht⟩, tl⟩ := terms_of ha q'
            have hs := hsm as (.tup cs) rfl
            have nm := namesOf_ok (S := S) (fu := fu) (c := .tup []) (fun a h => by
              obtain ⟨w, ts, e, _⟩ := atomB_shape (q' a h)
              exact ⟨w, ts, e⟩) ht (by omega)
            have hn : ∀ y ∈ nmL (as.flatMap tms), nameB (.str y) = true := nmL_ok (fun t h => (ht t h).2) (by simp)
            have n1 := ne_names (S := S) hn
            have lk := fun y0 y1 y2 y4 y5 y6 y7 y8 => checks_lc (S := S) (fu := fu) (ns := nmL (as.flatMap tms)) (y0 := y0) (y1 := y1) (y2 := y2) (y4 := y4) (y5 := y5) (y6 := y6) (y7 := y7) (y8 := y8) hc
            have ec : (cs.map (checkB (nmL (as.flatMap tms)))).all id = cs.all (checkB (nmL (as.flatMap tms))) := by rw [List.all_map]; rfl
            by_cases c : nmL (as.flatMap tms) = []
            · have hf : askB (wds tb) (.tup [.tup as, .tup cs]) = false := by simp [askB, q, c]
              rw [decide_eq_true c] at n1
              exact ⟨_, by simp [e1, isT, x0, e2, dc', lc, ea, q, e3, nm, n1, hf, -List.map_map, -List.all_map]; rfl⟩
            · have hf : askB (wds tb) (.tup [.tup as, .tup cs]) = cs.all (checkB (nmL (as.flatMap tms))) := by simp [askB, q, c]
              rw [decide_eq_false c] at n1
              exact ⟨_, by simp [e1, isT, x0, e2, dc', lc, ea, q, e3, nm, n1, lk, ec, hf, -List.map_map, -List.all_map]; rfl⟩
          | _ =>
            exact ⟨_, by simp [e1, isT, x0, e2, dc', lc, ea, q, e3, askB, -List.map_map, -List.all_map]; rfl⟩
      | _ =>
        exact ⟨_, by simp [e1, isT, x0, e2, askB]; rfl⟩
  | _ => exact ⟨_, by simp [e1, isT, askB]; rfl⟩
end
end Law
namespace Law
open PySem L2 Dv
def strO : D → Option Str
  | .str x => some x
  | _ => none
def strL (ts : List D) : List Str := ts.filterMap strO
theorem strs_filter : ∀ ts : List D, ts.filter isS = (strL ts).map D.str
  | [] => rfl
  | t :: ts => by
    have ih := strs_filter ts
    cases t with
    | str x =>
      rw [List.filter_cons_of_pos (by rfl), ih]
      rfl
    | _ =>
      rw [List.filter_cons_of_neg (by simp [isS]), ih]
      rfl
theorem mem_strs {x : Str} {ts : List D} : x ∈ strL ts ↔ D.str x ∈ ts := by
  unfold strL
  rw [List.mem_filterMap]
  constructor
  · rintro ⟨t, h1, h2⟩
    cases t with
    | str y => cases h2; exact h1
    | _ => cases h2
  · intro h
    exact ⟨_, h, rfl⟩
theorem mem_nmL {x : Str} : ∀ {ts : List D} {acc : List Str}, x ∈ ts.foldl nmS acc ↔ x ∈ acc ∨ D.str x ∈ ts
  | [], acc => by simp
  | t :: ts, acc => by
    rw [List.foldl_cons, mem_nmL (ts := ts), List.mem_cons]
    have h : x ∈ nmS acc t ↔ x ∈ acc ∨ D.str x = t := by
      cases t with
      | str y =>
        show x ∈ (if y ∈ acc then acc else acc ++ [y]) ↔ _
        split
        · rename_i hy
          constructor
          · exact .inl
          · rintro (q | q)
            · exact q
            · cases q; exact hy
        · simp
      | _ =>
        constructor
        · exact .inl
        · rintro (q | q)
          · exact q
          · cases q
    rw [h, or_assoc]
theorem okB_congr {ns ns' : List Str} (h : ∀ x, x ∈ ns ↔ x ∈ ns') (z : D) : okB ns z = okB ns' z := by
  unfold okB
  cases z with
  | str x => simp [h x]
  | _ => rfl
theorem checkB_congr {ns ns' : List Str} (h : ∀ x, x ∈ ns ↔ x ∈ ns') (z : D) : checkB ns z = checkB ns' z := by
  unfold checkB
  split
  · rw [okB_congr h, okB_congr h]
  · rfl
section
variable {S : Store} {d : D} {k fu : Nat} {ns : List Str} {kds : List (Key × D)}
theorem hand_wds {y0 y1 y2 y3 y5 y9 : Option D} : ∀ (tb : List (Str × Int × D)) (acc : List (Key × D)) (y6 y7 y8 : Option D), acc.length + tb.length ≤ 80000 →
    ∃ y6' y7' y8', sLoop (tgT 3 (tgsCons (tgN 6) (tgsCons (tgN 7) (tgsCons (tgN 8) tgsNil)))) (sDPutD (mVar 4) (mVar 6) (mVar 7)) (tb.map tbD) [y0, y1, y2, y3, some (.loc S.length), y5, y6, y7, y8, y9] (S ++ [.dct acc]) = .ok .next [y0, y1, y2, y3, some (.loc S.length), y5, y6', y7', y8', y9] (S ++ [.dct (tb.foldl wdS acc)])
  | [], acc, y6, y7, y8, _ => ⟨y6, y7, y8, rfl⟩
  | t :: tb, acc, y6, y7, y8, h => by
    have hl := putKD_len acc (.inr t.1) (.int t.2.1)
    obtain ⟨a, b, c, e⟩ := hand_wds (y0 := y0) (y1 := y1) (y2 := y2) (y3 := y3) (y5 := y5) (y9 := y9) tb (wdS acc t) (some (.str t.1)) (some (.int t.2.1)) (some t.2.2) (by
      have : (wdS acc t).length ≤ acc.length + 1 := hl
      simp at h
      omega)
    refine ⟨a, b, c, ?_⟩
    have ha : acc.length < 90000 := by simp at h; omega
    rw [List.map_cons, sLoop_cons, List.foldl_cons, ← e]
    unfold tbD
    have dp : dputD (.loc S.length) (.str t.1) (.int t.2.1) [y0, y1, y2, y3, some (.loc S.length), y5, some (.str t.1), some (.int t.2.1), some t.2.2, y9] (S ++ [.dct acc]) = .ok .next [y0, y1, y2, y3, some (.loc S.length), y5, some (.str t.1), some (.int t.2.1), some t.2.2, y9] (S ++ [.dct (wdS acc t)]) := by
      unfold dputD
      simp only [last_at, keyOf_str, ha, if_true, last_set]
      rfl
    simp [dp]
noncomputable def handA (fu : Nat) : SM := (sSeq (sIf (mOrT (mNotT (mTru (mCall isiD (mCons (mVar 2) (mCons (mC (.ty "tuple")) mNil))))) (mOrT (mT (mBin neD (mCall lenD (mCons (mVar 2) mNil)) (mC (.int 2)))) (mNotT (mTru (mApp 1 (F__law_is_name fu) (mCons (mBin ixD (mVar 2) (mC (.int 0))) mNil)))))) (sRet (mC (.bl false))) sNil)
    (sSeq (sIf (mNotT (mTru (mCall isiD (mCons (mBin ixD (mVar 2) (mC (.int 1))) (mCons (mC (.ty "tuple")) mNil))))) (sRet (mC (.bl false))) sNil)
    (sSeq (sIf (mOrT (mT (mBin neD (mDGet2 (mVar 4) (mBin ixD (mVar 2) (mC (.int 0))) (mC (.int 0))) (mCall lenD (mCons (mBin ixD (mVar 2) (mC (.int 1))) mNil)))) (mT (mBin dninD (mBin ixD (mVar 2) (mC (.int 0))) (mVar 4)))) (sRet (mC (.bl false))) sNil)
    (sSeq (sIf (mTru (mLc (mIter (mBin ixD (mVar 2) (mC (.int 1)))) [9] (tgN 9) (mAndT (mNotT (mTru (mApp 1 (F__law_is_name fu) (mCons (mVar 9) mNil)))) (mNotT (mTru (mApp 1 (F__law_is_value fu) (mCons (mVar 9) mNil))))) (mVar 9))) (sRet (mC (.bl false))) sNil)
    (sSet 5 (mBin addD (mVar 5) (mLc (mIter (mBin ixD (mVar 2) (mC (.int 1)))) [9] (tgN 9) (mTru (mCall isiD (mCons (mVar 9) (mCons (mC (.ty "str")) mNil)))) (mVar 9))))))))
noncomputable def handC (fu : Nat) : SM := (sSeq (sIf (mOrT (mNotT (mTru (mCall isiD (mCons (mVar 3) (mCons (mC (.ty "tuple")) mNil))))) (mOrT (mT (mBin neD (mCall lenD (mCons (mVar 3) mNil)) (mC (.int 3)))) (mNotT (mTru (mCall isiD (mCons (mBin ixD (mVar 3) (mC (.int 0))) (mCons (mC (.ty "str")) mNil))))))) (sRet (mC (.bl false))) sNil)
    (sSeq (sIf (mT (mBin ninTD (mBin ixD (mVar 3) (mC (.int 0))) (mTup (mCons (mC (.str "less")) (mCons (mC (.str "unlike")) mNil))))) (sRet (mC (.bl false))) sNil)
    (sIf (mTru (mLc (mIter (mSl (mVar 3) (mP (mC (.int 1))) mNoP)) [9] (tgN 9) (mAndT (mNotT (mTru (mApp 1 (F__law_is_value fu) (mCons (mVar 9) mNil)))) (mNotT (mAndT (mTru (mApp 1 (F__law_is_name fu) (mCons (mVar 9) mNil))) (mT (mBin inTD (mVar 9) (mVar 5)))))) (mVar 9))) (sRet (mC (.bl false))) sNil)))
theorem hand_eq (fu : Nat) : m__law_is_ask fu = (sSeq (sIf (mOrT (mNotT (mTru (mCall isiD (mCons (mVar 1) (mCons (mC (.ty "tuple")) mNil))))) (mT (mBin neD (mCall lenD (mCons (mVar 1) mNil)) (mC (.int 2))))) (sRet (mC (.bl false))) sNil)
    (sSeq (sIf (mOrT (mNotT (mTru (mCall isiD (mCons (mBin ixD (mVar 1) (mC (.int 0))) (mCons (mC (.ty "tuple")) mNil))))) (mNotT (mTru (mCall isiD (mCons (mBin ixD (mVar 1) (mC (.int 1))) (mCons (mC (.ty "tuple")) mNil)))))) (sRet (mC (.bl false))) sNil)
    (sSeq (sAsg (mTup (mCons mNewD0 (mCons (mLst mNil) mNil))) (tgT 2 (tgsCons (tgN 4) (tgsCons (tgN 5) tgsNil))))
    (sSeq (sFor (mIter (mVar 0)) (tgT 3 (tgsCons (tgN 6) (tgsCons (tgN 7) (tgsCons (tgN 8) tgsNil)))) (sDPutD (mVar 4) (mVar 6) (mVar 7)))
    (sSeq (sFor (mIter (mBin ixD (mVar 1) (mC (.int 0)))) (tgN 2) (handA fu))
    (sSeq (sFor (mIter (mBin ixD (mVar 1) (mC (.int 1)))) (tgN 3) (handC fu))
    (sRet (mBin neD (mVar 5) (mLst mNil))))))))) := rfl
theorem ev_ret (b : Bool) (rho : Dv.Env) : (Z.ok (Fl.ret (D.bl b)) rho S) = Z.ok (Fl.ret (D.bl b)) rho S := rfl
theorem bad_lc {y0 y1 y2 y3 y4 y5 y6 y7 y8 : Option D} {ts : List D} (h : ∀ t ∈ ts, pn k t = true) : lcL (tgN 9) (mAndT (mNotT (mTru (mApp 1 (F__law_is_name fu) (mCons (mVar 9) mNil)))) (mNotT (mTru (mApp 1 (F__law_is_value fu) (mCons (mVar 9) mNil))))) (mVar 9) [y0, y1, y2, y3, y4, y5, y6, y7, y8, none] ts S = .ok (ts.filter fun t => !termB t) S := by
  rw [lc_pure (fun t => !termB t) id ts fun t ht => by
    refine ⟨[y0, y1, y2, y3, y4, y5, y6, y7, y8, some t], rfl, ?_, fun _ => by simp⟩
    have n := hname_ok (S := S) (fu := fu) (h t ht)
    have v := hvalue_ok (S := S) (fu := fu) (h t ht)
    cases q : nameB t <;> cases q2 : valB t <;> simp [n, v, q, q2, termB], List.map_id]
theorem str_lc {y0 y1 y2 y3 y4 y5 y6 y7 y8 : Option D} {ts : List D} (h : ∀ t ∈ ts, pn k t = true) : lcL (tgN 9) (mTru (mCall isiD (mCons (mVar 9) (mCons (mC (.ty "str")) mNil)))) (mVar 9) [y0, y1, y2, y3, y4, y5, y6, y7, y8, none] ts S = .ok ((strL ts).map D.str) S := by
  rw [lc_pure isS id ts fun t ht => by
    refine ⟨[y0, y1, y2, y3, y4, y5, y6, y7, y8, some t], rfl, ?_, fun _ => by simp⟩
    have e := isi_S (S := S) (h t ht)
    simp [e], List.map_id, strs_filter]
theorem fil_tru {ts : List D} : truD (.lst (ts.filter fun t => !termB t)) S = some (!ts.all termB) := by
  rw [truD_lst]
  congr 2
  rw [Bool.eq_iff_iff, List.isEmpty_iff, List.filter_eq_nil_iff, List.all_eq_true]
  simp
theorem handA_ok {a : D} {n : Nat} {y0 y1 y2 y3 y6 y7 y8 y9 : Option D} {acc : List Str} (hS : S[n]? = some (.dct kds)) (hw : Wds kds) (h : pn k a = true) (hl : acc.length ≤ 90000) :
    (atomB kds a = true ∧ handA fu [y0, y1, some a, y3, some (.loc n), some (.lst (acc.map D.str)), y6, y7, y8, y9] S = .ok .next [y0, y1, some a, y3, some (.loc n), some (.lst ((acc ++ strL (tms a)).map D.str)), y6, y7, y8, y9] S) ∨
    (atomB kds a = false ∧ ∃ rho, handA fu [y0, y1, some a, y3, some (.loc n), some (.lst (acc.map D.str)), y6, y7, y8, y9] S = .ok (.ret (.bl false)) rho S) := by
  have e1 := isi_T (S := S) h
  unfold handA
  cases a with
  | tup xs =>
    obtain ⟨j, rfl, hxl, hx⟩ := pn_tup h
    match xs, hxl, hx, h, e1 with
    | [], _, _, _, e1 => exact .inr ⟨rfl, _, by simp [e1, isT]; rfl⟩
    | [a], _, _, _, e1 => exact .inr ⟨by cases a <;> rfl, _, by simp [e1, isT]; rfl⟩
    | a :: b :: c :: xs, _, _, _, e1 =>
      have : ¬ ((xs.length : Int) + 1 + 1 + 1 = 2) := by omega
      exact .inr ⟨by cases b <;> rfl, _, by simp [e1, isT, this]; rfl⟩
    | [a, b], _, hx, _, e1 =>
      have ha := hx a (by simp)
      have hb := hx b (by simp)
      have n1 := hname_ok (S := S) (fu := fu) ha
      have x0 : atI [a, b] 0 = some a := atI_zero _ _
      have x1 : atI [a, b] 1 = some b := atI_nat (j := 1) rfl
      cases q : nameB a with
      | false =>
        rw [q] at n1
        exact .inr ⟨by cases b <;> simp [atomB, q], _, by simp [e1, isT, x0, n1]; rfl⟩
      | true =>
        rw [q] at n1
        obtain ⟨x, rfl⟩ := name_str q
        have e4 := isi_T (S := S) hb
        cases b with
        | tup ts =>
          obtain ⟨i, rfl, tl, ht⟩ := pn_tup hb
          have dg : mDGet2 (mVar 4) (mBin ixD (mVar 2) (mC (.int 0))) (mC (.int 0)) [y0, y1, some (.tup [.str x, .tup ts]), y3, some (.loc n), some (.lst (acc.map D.str)), y6, y7, y8, y9] S = .ok ((valKD kds (.inr x)).getD (.int 0)) S := by
            unfold mDGet2
            simp [x0, hS]
          have dn : dninD (.str x) (.loc n) S = some (.bl (!(valKD kds (.inr x)).isSome)) := by
            unfold dninD
            simp [hS]
          have lb := fun y2 y4 y5 => bad_lc (S := S) (fu := fu) (y0 := y0) (y1 := y1) (y2 := y2) (y3 := y3) (y4 := y4) (y5 := y5) (y6 := y6) (y7 := y7) (y8 := y8) ht
          have ls := fun y2 y4 y5 => str_lc (S := S) (y0 := y0) (y1 := y1) (y2 := y2) (y3 := y3) (y4 := y4) (y5 := y5) (y6 := y6) (y7 := y7) (y8 := y8) ht
          have ft := fil_tru (S := S) (ts := ts)
          cases v : valKD kds (.inr x) with
          | none =>
            rw [v] at dg dn
            have dg' : _ = R.ok (D.int 0) S := dg
            refine .inr ⟨by simp [atomB, wd, v], ?_⟩
            by_cases c : (0 : Int) = (ts.length : Int)
            · have ts0 : ts = [] := List.eq_nil_of_length_eq_zero (by omega)
              subst ts0
              exact ⟨_, by simp [e1, isT, x0, x1, n1, e4, dg', dn]; rfl⟩
            · exact ⟨_, by simp [e1, isT, x0, x1, n1, e4, dg', c]; rfl⟩
          | some wv =>
            obtain ⟨w, rfl⟩ := hw _ _ v
            rw [v] at dg dn
            have dg' : _ = R.ok (D.int w) S := dg
            by_cases c : w = (ts.length : Int)
            · subst c
              cases q3 : ts.all termB with
              | false =>
                rw [q3] at ft
                exact .inr ⟨by simp [atomB, wd, v, q3], _, by simp [e1, isT, x0, x1, n1, e4, dg', dn, lb, ft, -truD_lst]; rfl⟩
              | true =>
                rw [q3] at ft
                have hl2 : (strL ts).length ≤ 1000 := Nat.le_trans (List.length_filterMap_le _ _) tl
                have ad : addD (.lst (acc.map D.str)) (.lst ((strL ts).map D.str)) S = some (.lst ((acc ++ strL ts).map D.str)) := by
                  rw [addD_lst, if_pos (by rw [List.length_map, List.length_map]; omega), List.map_append]
                have hlz : acc.length + (strL ts).length ≤ 100000 := by omega
                exact .inl ⟨by simp [atomB, wd, v, q, q3], by simp [e1, isT, x0, x1, n1, e4, dg', dn, lb, ft, ls, ad, tms, hlz, -truD_lst]⟩
            · have c' : ¬ ((ts.length : Int) = w) := fun z => c z.symm
              exact .inr ⟨by simp [atomB, wd, v, c'], _, by simp [e1, isT, x0, x1, n1, e4, dg', c]; rfl⟩
        | _ => exact .inr ⟨rfl, _, by simp [e1, isT, x0, x1, n1, e4]; rfl⟩
  | _ => exact .inr ⟨rfl, _, by simp [e1, isT]; rfl⟩
end
end Law
namespace Law
open PySem L2 Dv
section
variable {S : Store} {d : D} {k fu : Nat} {ns : List Str} {kds : List (Key × D)}
theorem loop_step {gm : D → Dv.Env → Option Dv.Env} {b : SM} {t : D} {ts : List D} {r r1 r2 : Dv.Env} {S S2 : Store} (e1 : gm t r = some r1) (e2 : b r1 S = .ok .next r2 S2) : sLoop gm b (t :: ts) r S = sLoop gm b ts r2 S2 := by
  rw [sLoop_cons, e1]
  simp only [e2]
theorem loop_out {gm : D → Dv.Env → Option Dv.Env} {b : SM} {t x : D} {ts : List D} {r r1 r2 : Dv.Env} {S S2 : Store} (e1 : gm t r = some r1) (e2 : b r1 S = .ok (.ret x) r2 S2) : sLoop gm b (t :: ts) r S = .ok (.ret x) r2 S2 := by
  rw [sLoop_cons, e1]
  simp only [e2]
theorem strL_ok {ts : List D} (h : ∀ t ∈ ts, termB t = true) : ∀ y ∈ strL ts, nameB (.str y) = true := fun y hy => by
  have := h _ (mem_strs.mp hy)
  have : (nameB (.str y) || valB (.str y)) = true := this
  simpa [valB] using this
def strA (as : List D) : List Str := as.flatMap fun a => strL (tms a)
theorem handA_loop {n : Nat} {y0 y1 y3 y6 y7 y8 y9 : Option D} (hS : S[n]? = some (.dct kds)) (hw : Wds kds) : ∀ (as : List D) (acc : List Str) (y2 : Option D), (∀ a ∈ as, pn k a = true) → acc.length + 1000 * as.length ≤ 90000 →
    (as.all (atomB kds) = true ∧ ∃ y2', sLoop (tgN 2) (handA fu) as [y0, y1, y2, y3, some (.loc n), some (.lst (acc.map D.str)), y6, y7, y8, y9] S = .ok .next [y0, y1, y2', y3, some (.loc n), some (.lst ((acc ++ strA as).map D.str)), y6, y7, y8, y9] S) ∨
    (as.all (atomB kds) = false ∧ ∃ rho, sLoop (tgN 2) (handA fu) as [y0, y1, y2, y3, some (.loc n), some (.lst (acc.map D.str)), y6, y7, y8, y9] S = .ok (.ret (.bl false)) rho S)
  | [], acc, y2, _, _ => .inl ⟨rfl, y2, by simp [strA]⟩
  | a :: as, acc, y2, h, hl => by
    have hp := h a List.mem_cons_self
    rcases handA_ok (fu := fu) (y0 := y0) (y1 := y1) (y2 := y2) (y3 := y3) (y6 := y6) (y7 := y7) (y8 := y8) (y9 := y9) (acc := acc) hS hw hp (by simp at hl; omega) with ⟨q, e⟩ | ⟨q, rho, e⟩
    · obtain ⟨w, ts, ea, _⟩ := atomB_shape q
      have tl : (strL (tms a)).length ≤ 1000 := by
        subst ea
        obtain ⟨j, rfl, _, hx⟩ := pn_tup hp
        obtain ⟨i, rfl, tl, _⟩ := pn_tup (hx (.tup ts) (by simp))
        exact Nat.le_trans (List.length_filterMap_le _ _) tl
      rw [loop_step (r := [y0, y1, y2, y3, some (.loc n), some (.lst (acc.map D.str)), y6, y7, y8, y9]) rfl e]
      rcases handA_loop (y0 := y0) (y1 := y1) (y3 := y3) (y6 := y6) (y7 := y7) (y8 := y8) (y9 := y9) hS hw as (acc ++ strL (tms a)) (some a) (fun b hb => h b (List.mem_cons_of_mem _ hb)) (by simp at hl ⊢; omega) with ⟨q2, y2', e2⟩ | ⟨q2, rho, e2⟩
      · refine .inl ⟨by rw [List.all_cons, q, q2]; rfl, y2', ?_⟩
        rw [e2, List.append_assoc]
        rfl
      · exact .inr ⟨by rw [List.all_cons, q2, Bool.and_false], rho, e2⟩
    · rw [loop_out (r := [y0, y1, y2, y3, some (.loc n), some (.lst (acc.map D.str)), y6, y7, y8, y9]) rfl e]
      exact .inr ⟨by rw [List.all_cons, q]; rfl, rho, rfl⟩
theorem badc_lc {y0 y1 y2 y3 y4 y6 y7 y8 : Option D} {ts : List D} (hn : ∀ y ∈ ns, nameB (.str y) = true) (h : ∀ t ∈ ts, pn k t = true) : lcL (tgN 9) (mAndT (mNotT (mTru (mApp 1 (F__law_is_value fu) (mCons (mVar 9) mNil)))) (mNotT (mAndT (mTru (mApp 1 (F__law_is_name fu) (mCons (mVar 9) mNil))) (mT (mBin inTD (mVar 9) (mVar 5)))))) (mVar 9) [y0, y1, y2, y3, y4, some (.lst (ns.map D.str)), y6, y7, y8, none] ts S = .ok (ts.filter fun t => !okB ns t) S := by
  rw [lc_pure (fun t => !okB ns t) id ts fun t ht => by
    refine ⟨[y0, y1, y2, y3, y4, some (.lst (ns.map D.str)), y6, y7, y8, some t], rfl, ?_, fun _ => by simp⟩
    have n := hname_ok (S := S) (fu := fu) (h t ht)
    have v := hvalue_ok (S := S) (fu := fu) (h t ht)
    cases q2 : valB t with
    | true => simp [n, v, q2, okB]
    | false =>
      cases q : nameB t with
      | false => simp [n, v, q, q2, okB]
      | true =>
        obtain ⟨x, rfl⟩ := name_str q
        have e : inTD (.str x) (.lst (ns.map D.str)) S = some (.bl (decide (x ∈ ns))) := by
          show (inTO (.str x) (.lst (ns.map D.str))).map D.bl = _
          rw [inL_strs q hn]
          rfl
        by_cases c : x ∈ ns <;> simp [n, v, q, q2, okB, e, c], List.map_id]
theorem handC_ok {a : D} {y0 y1 y2 y3 y4 y6 y7 y8 y9 : Option D} (hn : ∀ y ∈ ns, nameB (.str y) = true) (h : pn k a = true) :
    (checkB ns a = true ∧ handC fu [y0, y1, y2, some a, y4, some (.lst (ns.map D.str)), y6, y7, y8, y9] S = .ok .next [y0, y1, y2, some a, y4, some (.lst (ns.map D.str)), y6, y7, y8, y9] S) ∨
    (checkB ns a = false ∧ ∃ rho, handC fu [y0, y1, y2, some a, y4, some (.lst (ns.map D.str)), y6, y7, y8, y9] S = .ok (.ret (.bl false)) rho S) := by
  have e1 := isi_T (S := S) h
  unfold handC
  cases a with
  | tup xs =>
    obtain ⟨j, rfl, hxl, hx⟩ := pn_tup h
    match xs, hxl, hx, h, e1 with
    | [], _, _, _, e1 => exact .inr ⟨rfl, _, by simp [e1, isT]; rfl⟩
    | [a], _, _, _, e1 => exact .inr ⟨by cases a <;> rfl, _, by simp [e1, isT]; rfl⟩
    | [a, b], _, _, _, e1 => exact .inr ⟨by cases a <;> rfl, _, by simp [e1, isT]; rfl⟩
    | a :: b :: c :: e :: xs, _, _, _, e1 =>
      have : ¬ ((xs.length : Int) + 1 + 1 + 1 + 1 = 3) := by omega
      exact .inr ⟨by cases a <;> rfl, _, by simp [e1, isT, this]; rfl⟩
    | [a, b, c], _, hx, _, e1 =>
      have ha := hx a (by simp)
      have e2 := isi_S (S := S) ha
      have x0 : atI [a, b, c] 0 = some a := atI_zero _ _
      cases a with
      | str s =>
        have e3 : ninTD (.str s) (.tup [.str "less", .str "unlike"]) S = some (.bl (!sortB s)) := ninTD_strs (S := S) s ["less", "unlike"]
        cases q : sortB s with
        | false =>
          rw [q] at e3
          exact .inr ⟨by simp [checkB, q], _, by simp [e1, isT, x0, e2, isS, e3]; rfl⟩
        | true =>
          rw [q] at e3
          have sl : slD (.tup [.str s, b, c]) (some 1) none S = some (.tup [b, c]) := by
            show some (D.tup (cutL [.str s, b, c] (some 1) none)) = _
            rw [cut_one]
          have lb := badc_lc (S := S) (fu := fu) (y0 := y0) (y1 := y1) (y2 := y2) (y3 := some (.tup [.str s, b, c])) (y4 := y4) (y6 := y6) (y7 := y7) (y8 := y8) hn (ts := [b, c]) (fun t ht => hx t (by
            simp at ht
            rcases ht with rfl | rfl <;> simp))
          cases q2 : okB ns b with
          | true =>
            cases q3 : okB ns c with
            | true =>
              have lb' : _ = R.ok [] S := lb.trans (by simp [q2, q3])
              exact .inl ⟨by simp [checkB, q, q2, q3], by simp [e1, isT, x0, e2, isS, e3, sl, lb', -slD_tup]⟩
            | false =>
              have lb' : _ = R.ok [c] S := lb.trans (by simp [q2, q3])
              exact .inr ⟨by simp [checkB, q, q2, q3], _, by simp [e1, isT, x0, e2, isS, e3, sl, lb', -slD_tup]; rfl⟩
          | false =>
            obtain ⟨l, lb'⟩ : ∃ l, _ = R.ok (b :: l) S := by
              refine ⟨[c].filter fun t => !okB ns t, lb.trans ?_⟩
              rw [List.filter_cons_of_pos (by simp [q2])]
            exact .inr ⟨by simp [checkB, q, q2], _, by simp [e1, isT, x0, e2, isS, e3, sl, lb', -slD_tup]; rfl⟩
      | _ => exact .inr ⟨rfl, _, by simp [e1, isT, x0, e2, isS]; rfl⟩
  | _ => exact .inr ⟨rfl, _, by simp [e1, isT]; rfl⟩
theorem handC_loop {y0 y1 y2 y4 y6 y7 y8 y9 : Option D} (hn : ∀ y ∈ ns, nameB (.str y) = true) : ∀ (cs : List D) (y3 : Option D), (∀ a ∈ cs, pn k a = true) →
    (cs.all (checkB ns) = true ∧ ∃ y3', sLoop (tgN 3) (handC fu) cs [y0, y1, y2, y3, y4, some (.lst (ns.map D.str)), y6, y7, y8, y9] S = .ok .next [y0, y1, y2, y3', y4, some (.lst (ns.map D.str)), y6, y7, y8, y9] S) ∨
    (cs.all (checkB ns) = false ∧ ∃ rho, sLoop (tgN 3) (handC fu) cs [y0, y1, y2, y3, y4, some (.lst (ns.map D.str)), y6, y7, y8, y9] S = .ok (.ret (.bl false)) rho S)
  | [], y3, _ => .inl ⟨rfl, y3, rfl⟩
  | a :: cs, y3, h => by
    rcases handC_ok (S := S) (fu := fu) (y0 := y0) (y1 := y1) (y2 := y2) (y3 := y3) (y4 := y4) (y6 := y6) (y7 := y7) (y8 := y8) (y9 := y9) hn (h a List.mem_cons_self) with ⟨q, e⟩ | ⟨q, rho, e⟩
    · rw [loop_step (r := [y0, y1, y2, y3, y4, some (.lst (ns.map D.str)), y6, y7, y8, y9]) rfl e]
      rcases handC_loop (y0 := y0) (y1 := y1) (y2 := y2) (y4 := y4) (y6 := y6) (y7 := y7) (y8 := y8) (y9 := y9) hn cs (some a) (fun b hb => h b (List.mem_cons_of_mem _ hb)) with ⟨q2, y', e2⟩ | ⟨q2, rho, e2⟩
      · exact .inl ⟨by rw [List.all_cons, q, q2]; rfl, y', e2⟩
      · exact .inr ⟨by rw [List.all_cons, q2, Bool.and_false], rho, e2⟩
    · rw [loop_out (r := [y0, y1, y2, y3, y4, some (.lst (ns.map D.str)), y6, y7, y8, y9]) rfl e]
      exact .inr ⟨by rw [List.all_cons, q]; rfl, rho, rfl⟩
end
end Law
namespace Law
open PySem L2 Dv
section
variable {S : Store} {d : D} {k fu : Nat} {ns : List Str} {kds : List (Key × D)}
theorem mem_strA {x : Str} {as : List D} : x ∈ strA as ↔ x ∈ nmL (as.flatMap tms) := by
  unfold strA nmL
  rw [mem_nmL, List.mem_flatMap, List.mem_flatMap]
  constructor
  · rintro ⟨a, h1, h2⟩
    exact .inr ⟨a, h1, mem_strs.mp h2⟩
  · rintro (q | ⟨a, h1, h2⟩)
    · cases q
    · exact ⟨a, h1, mem_strs.mpr h2⟩
theorem strA_nil {as : List D} : strA as = [] ↔ nmL (as.flatMap tms) = [] := by
  constructor
  · intro h
    refine List.eq_nil_iff_forall_not_mem.mpr fun x hx => ?_
    have := mem_strA.mpr hx
    rw [h] at this
    cases this
  · intro h
    refine List.eq_nil_iff_forall_not_mem.mpr fun x hx => ?_
    have := mem_strA.mp hx
    rw [h] at this
    cases this
theorem ne_namesL (hn : ∀ y ∈ ns, nameB (.str y) = true) : neD (.lst (ns.map D.str)) (.lst []) S = some (.bl (!decide (ns = []))) := by
  rw [neD_pl (k := 1) (by
    show (ns.map D.str).all (pl 0) = true
    exact List.all_eq_true.mpr fun d hd => by
      obtain ⟨y, hy, rfl⟩ := List.mem_map.mp hd
      exact name_pl (hn y hy)) (by rfl) (by decide)]
  congr 3
  refine decide_eq_decide.mpr ?_
  show D.lst (ns.map D.str) = D.lst [] ↔ _
  rw [D.lst.injEq, List.map_eq_nil_iff]
theorem hask_ok {tb : List (Str × Int × D)} (htb : tb.length ≤ 100) (h : pn k d = true) (hsm : ∀ as c, d = .tup [.tup as, c] → as.length ≤ 80) : F__law_is_ask fu [.tup (tb.map tbD), d] S = .ok (.bl (askB (wds tb) d)) S := by
  have e1 := isi_T (S := S) h
  have short : ∀ b : Bool, (∃ rho, m__law_is_ask fu [some (.tup (tb.map tbD)), some d, none, none, none, none, none, none, none, none] S = .ok (.ret (.bl b)) rho S) → F__law_is_ask fu [.tup (tb.map tbD), d] S = .ok (.bl b) S := fun b hb => fn_ret rfl hb
  have long : ∀ b : Bool, (∃ rho o, m__law_is_ask fu [some (.tup (tb.map tbD)), some d, none, none, none, none, none, none, none, none] S = .ok (.ret (.bl b)) rho (S ++ [o])) → F__law_is_ask fu [.tup (tb.map tbD), d] S = .ok (.bl b) S := fun b hb => by
    obtain ⟨rho, o, hb⟩ := hb
    show finT S (m__law_is_ask fu [some (.tup (tb.map tbD)), some d, none, none, none, none, none, none, none, none] S) = _
    rw [hb]
    exact fin_ret_app [o] (fz_clo rfl)
  rw [hand_eq] at short long
  cases d with
  | tup xs =>
    obtain ⟨j, rfl, hl, hx⟩ := pn_tup h
    match xs, hl, hx, h, e1, hsm, short, long with
    | [], _, _, _, e1, _, short, _ => exact short _ ⟨_, by simp [e1, isT, askB]; rfl⟩
    | [a], _, _, _, e1, _, short, _ => exact short _ ⟨_, by simp [e1, isT, askB]; rfl⟩
    | a :: b :: c :: xs, hl, hx, _, e1, _, short, _ =>
      have : ¬ ((xs.length : Int) + 1 + 1 + 1 = 2) := by omega
      have hf : askB (wds tb) (.tup (a :: b :: c :: xs)) = false := by cases a <;> cases b <;> rfl
      rw [hf]
      exact short _ ⟨_, by simp [e1, isT, this]; rfl⟩
    | [A, C], hl, hx, _, e1, hsm, short, long =>
      have hA := hx A (by simp)
      have hC := hx C (by simp)
      have e2 := isi_T (S := S) hA
      have e3 := isi_T (S := S) hC
      have x0 : atI [A, C] 0 = some A := atI_zero _ _
      have x1 : atI [A, C] 1 = some C := atI_nat (j := 1) rfl
      cases A with
      | tup as =>
        cases C with
        | tup cs =>
          obtain ⟨i, rfl, al, ha⟩ := pn_tup hA
          obtain ⟨i2, ei, cl, hc⟩ := pn_tup hC
          have hs := hsm as (.tup cs) rfl
          obtain ⟨y6, y7, y8, ew⟩ := hand_wds (S := S) (y0 := some (.tup (tb.map tbD))) (y1 := some (.tup [.tup as, .tup cs])) (y2 := none) (y3 := none) (y5 := some (.lst [])) (y9 := none) tb [] none none none (by simp; omega)
          have nd : mNewD0 [some (.tup (tb.map tbD)), some (.tup [.tup as, .tup cs]), none, none, none, none, none, none, none, none] S = .ok (.loc S.length) (S ++ [.dct []]) := rfl
          rcases handA_loop (fu := fu) (k := i) (y0 := some (.tup (tb.map tbD))) (y1 := some (.tup [.tup as, .tup cs])) (y3 := none) (y6 := y6) (y7 := y7) (y8 := y8) (y9 := none) (last_at (S := S) (.dct (wds tb))) (wds_wds tb) as [] none ha (by simp; omega) with ⟨q, y2', eA⟩ | ⟨q, rho, eA⟩
          · have q' := List.all_eq_true.mp q
            obtain ⟨⟨jj, ht⟩, tl⟩ := terms_of ha q'
            have hn : ∀ y ∈ strA as, nameB (.str y) = true := fun y hy => nmL_ok (fun t h => (ht t h).2) (by simp) y (mem_strA.mp hy)
            have eA' : sLoop (tgN 2) (handA fu) as [some (.tup (tb.map tbD)), some (.tup [.tup as, .tup cs]), none, none, some (.loc S.length), some (.lst []), y6, y7, y8, none] (S ++ [.dct (wds tb)]) = _ := eA
            rw [List.nil_append] at eA'
            have ew' : _ = Z.ok Fl.next _ (S ++ [.dct (wds tb)]) := ew
            have n1 := ne_namesL (S := S ++ [.dct (wds tb)]) hn
            have cc : cs.all (checkB (strA as)) = cs.all (checkB (nmL (as.flatMap tms))) := by
              have : checkB (strA as) = checkB (nmL (as.flatMap tms)) := funext fun z => checkB_congr (fun x => mem_strA) z
              rw [this]
            rcases handC_loop (S := S ++ [.dct (wds tb)]) (fu := fu) (k := i2) (y0 := some (.tup (tb.map tbD))) (y1 := some (.tup [.tup as, .tup cs])) (y2 := y2') (y4 := some (.loc S.length)) (y6 := y6) (y7 := y7) (y8 := y8) (y9 := none) hn cs none hc with ⟨q2, y3', eC⟩ | ⟨q2, rho, eC⟩
            · have hf : askB (wds tb) (.tup [.tup as, .tup cs]) = !decide (strA as = []) := by
                rw [cc] at q2
                have : decide (strA as = []) = decide (nmL (as.flatMap tms) = []) := decide_eq_decide.mpr strA_nil
                simp only [askB, q, q2, this, Bool.true_and, Bool.and_true]
              rw [hf]
              exact long _ ⟨_, _, by simp [e1, isT, x0, x1, e2, e3, nd, ew', eA', eC, n1]; exact ⟨rfl, rfl⟩⟩
            · have hf : askB (wds tb) (.tup [.tup as, .tup cs]) = false := by
                rw [cc] at q2
                simp only [askB, q2, Bool.and_false]
              rw [hf]
              exact long _ ⟨_, _, by simp [e1, isT, x0, x1, e2, e3, nd, ew', eA', eC]; exact ⟨rfl, rfl⟩⟩
          · have hf : askB (wds tb) (.tup [.tup as, .tup cs]) = false := by simp only [askB, q, Bool.false_and]
            have eA' : sLoop (tgN 2) (handA fu) as [some (.tup (tb.map tbD)), some (.tup [.tup as, .tup cs]), none, none, some (.loc S.length), some (.lst []), y6, y7, y8, none] (S ++ [.dct (wds tb)]) = _ := eA
            have ew' : _ = Z.ok Fl.next _ (S ++ [.dct (wds tb)]) := ew
            rw [hf]
            exact long _ ⟨_, _, by simp [e1, isT, x0, x1, e2, e3, nd, ew', eA']; exact ⟨rfl, rfl⟩⟩
        | _ => exact short _ ⟨_, by simp [e1, isT, x0, x1, e2, e3, askB]; rfl⟩
      | _ => exact short _ ⟨_, by simp [e1, isT, x0, x1, e2, e3, askB]; rfl⟩
  | _ => exact short _ ⟨_, by simp [e1, isT, askB]; rfl⟩
end
end Law
namespace Law
open PySem L2 Dv
section
variable {S : Store} {ns : List Int} {n fu t : Nat}
theorem cut_drop {α : Type} (xs : List α) (j : Nat) (h : j ≤ xs.length) : cutL xs (some (j : Int)) none = xs.drop j := by
  unfold cutL
  rw [HT.sIx_none, HT.sIx_nat, Nat.min_eq_left h]
  exact List.take_of_length_le (by simp)
/-- a table as it is drawn -/
def Tbl (x : Str × Int × D) : Prop := x.1 ∈ (["p", "q", "r", "s"] : List Str) ∧ (∃ w : Nat, 1 ≤ w ∧ w ≤ 3 ∧ x.2.1 = w) ∧ ∃ rows : List (List Int), x.2.2 = .tup (rows.map rowD)
noncomputable def bookB (fu : Nat) : SM := (sSeq (sSet 6 (mApp 3 FPick (mCons (mVar 0) (mCons (mVar 1) (mCons (mLst (mCons (mC (.int 1)) (mCons (mC (.int 2)) (mCons (mC (.int 2)) (mCons (mC (.int 2)) (mCons (mC (.int 3)) mNil)))))) mNil)))))
    (sDrop (mAppend (mVar 4) (mTup (mCons (mVar 5) (mCons (mVar 6) (mCons (mApp 5 FRows (mCons (mVar 0) (mCons (mVar 1) (mCons (mVar 6) (mCons (mVar 2) (mCons (mVar 3) mNil)))))) mNil)))))))
theorem book_eq (fu : Nat) : m__law_drawn_book fu = (sSeq (sSet 4 (mNewL mNil)) (sSeq (sFor (mIter (mTup (mCons (mC (.str "p")) (mCons (mC (.str "q")) (mCons (mC (.str "r")) (mCons (mC (.str "s")) mNil)))))) (tgN 5) (bookB fu))
    (sRet (mCall tupD (mCons (mSl (mVar 4) (mP (mApp 3 FDraw (mCons (mVar 0) (mCons (mVar 1) (mCons (mC (.int 2)) mNil))))) mNoP) mNil))))) := rfl
theorem bookB_ok (h63 : ns.length ≤ 63) {w : Str} {L : Nat} {tb : List (Str × Int × D)} {y6 : Option D} (hw : w ∈ (["p", "q", "r", "s"] : List Str)) (hL : L ≠ t) (tw : Twn t n S) (hn : n ≤ 20000) (hS : S[L]? = some (.lst (tb.map tbD))) (ht : ∀ x ∈ tb, Tbl x) (htl : tb.length ≤ 10) :
    ∃ S' y6' x, bookB fu [some (.scr ns), some (.loc t), some (.int 4), some (.int 4), some (.loc L), some (.str w), y6] S = .ok .next [some (.scr ns), some (.loc t), some (.int 4), some (.int 4), some (.loc L), some (.str w), y6'] S' ∧ Tbl x ∧ Twn t (n + 30) S' ∧ S'[L]? = some (.lst ((tb ++ [x]).map tbD)) ∧ S'.length = S.length ∧ ∀ i, i ≠ t → i ≠ L → S'[i]? = S[i]? := by
  obtain ⟨i, d, S1, hd, tw1, d1, e1⟩ := pick_tw (seq := .lst [.int 1, .int 2, .int 2, .int 2, .int 3]) h63 tw (by omega) (.inl rfl) (by simp) (fun m => rfl)
  obtain ⟨wd, hk0, hk, rfl⟩ : ∃ k : Nat, 1 ≤ k ∧ k ≤ 3 ∧ d = .int k := by
    match i, hd with
    | 0, hd => cases hd; exact ⟨1, by omega, by omega, rfl⟩
    | 1, hd => cases hd; exact ⟨2, by omega, by omega, rfl⟩
    | 2, hd => cases hd; exact ⟨2, by omega, by omega, rfl⟩
    | 3, hd => cases hd; exact ⟨2, by omega, by omega, rfl⟩
    | 4, hd => cases hd; exact ⟨3, by omega, by omega, rfl⟩
    | i + 5, hd => cases hd
  have hle : 2 * wd * 4 ≤ 24 := by omega
  obtain ⟨rows, S2, hl, hr, _, tw2, d2, e2⟩ := rows_ok (width := wd) (most := 4) (far := 4) h63 (by omega) (by omega) (by decide) tw1 (by omega) (by decide)
  have e2' : FRows [.scr ns, .loc t, .int wd, .int 4, .int 4] S1 = .ok (.tup (rows.map rowD)) S2 := e2
  have d12 := d1.trans d2
  have hS2 : S2[L]? = some (.lst (tb.map tbD)) := by rw [d12.other hL]; exact hS
  have htl2 : tb.length < 100000 := by omega
  refine ⟨List.set S2 L (.lst ((tb ++ [(w, (wd : Int), D.tup (rows.map rowD))]).map tbD)), some (.int wd), (w, (wd : Int), .tup (rows.map rowD)), ?_, ⟨hw, ⟨wd, hk0, hk, rfl⟩, rows, rfl⟩, ?_, gs hS2 _, ?_, fun i h1 h2 => ?_⟩
  · unfold bookB
    have hS1 : S1[L]? = some (.lst (tb.map tbD)) := by rw [d1.other hL]; exact hS
    simp [e1, e2', hS1, hS2, htl2, tbD]
  · obtain ⟨ts, a, b⟩ := tw2
    exact ⟨ts, by omega, by rw [List.getElem?_set_ne hL]; exact b⟩
  · rw [List.length_set, d12.len]
  · rw [List.getElem?_set_ne (fun q => h2 q.symm), d12.other h1]
theorem book_loop (h63 : ns.length ≤ 63) {L : Nat} (hL : L ≠ t) : ∀ (ws : List Str) {n : Nat} {S : Store} (tb : List (Str × Int × D)) (y5 y6 : Option D), (∀ w ∈ ws, w ∈ (["p", "q", "r", "s"] : List Str)) → Twn t n S → n + 30 * ws.length ≤ 20000 → S[L]? = some (.lst (tb.map tbD)) → (∀ x ∈ tb, Tbl x) → tb.length + ws.length ≤ 10 →
    ∃ (S' : Store) (y5' y6' : Option D) (tb' : List (Str × Int × D)), sLoop (tgN 5) (bookB fu) (ws.map D.str) [some (.scr ns), some (.loc t), some (.int 4), some (.int 4), some (.loc L), y5, y6] S = .ok .next [some (.scr ns), some (.loc t), some (.int 4), some (.int 4), some (.loc L), y5', y6'] S' ∧ (∀ x ∈ tb', Tbl x) ∧ tb'.length = tb.length + ws.length ∧ Twn t (n + 30 * ws.length) S' ∧ S'[L]? = some (.lst (tb'.map tbD)) ∧ S'.length = S.length ∧ ∀ i, i ≠ t → i ≠ L → S'[i]? = S[i]?
  | [], n, S, tb, y5, y6, _, tw, _, hS, ht, _ => ⟨S, y5, y6, tb, rfl, ht, rfl, tw.mono (by omega), hS, rfl, fun _ _ _ => rfl⟩
  | w :: ws, n, S, tb, y5, y6, hw, tw, hn, hS, ht, hl => by
    rw [List.length_cons] at hn hl
    obtain ⟨S1, y6', x, e1, hx, tw1, hS1, sl, ot⟩ := bookB_ok (fu := fu) h63 (y6 := y6) (hw w List.mem_cons_self) hL tw (by omega) hS ht (by omega)
    obtain ⟨S2, y5'', y6'', tb', e2, ht', hl', tw2, hS2, sl2, ot2⟩ := book_loop h63 hL ws (tb ++ [x]) (some (.str w)) y6' (fun v hv => hw v (List.mem_cons_of_mem _ hv)) tw1 (by omega) hS1 (fun z hz => by
      rcases List.mem_append.mp hz with q | q
      · exact ht z q
      · rw [List.mem_singleton.mp q]; exact hx) (by simp; omega)
    refine ⟨S2, y5'', y6'', tb', ?_, ht', by rw [hl', List.length_append, List.length_singleton, List.length_cons]; omega, tw2.mono (by rw [List.length_cons]; omega), hS2, by rw [sl2, sl], fun i h1 h2 => by rw [ot2 i h1 h2, ot i h1 h2]⟩
    rw [List.map_cons, loop_step (r := [some (.scr ns), some (.loc t), some (.int 4), some (.int 4), some (.loc L), y5, y6]) rfl e1]
    exact e2
/-- what one's own list and the town become, told of the rest -/
theorem fin_dif {S1 : Store} {rho : Dv.Env} {d : D} (ht : t < S.length) (hl : S.length ≤ S1.length) (tw : Twn t n S1) (keep : ∀ i, i < S.length → i ≠ t → S1[i]? = S[i]?) (hd : clo S.length d = true) : ∃ S', finT S (.ok (.ret d) rho S1) = .ok d S' ∧ Twn t n S' ∧ Dif t S S' := by
  obtain ⟨ts, t1, t2⟩ := tw
  have tk : S1.take S.length = List.set S t (.lst (ts.map D.int)) := by
    refine List.ext_getElem? fun i => ?_
    rw [List.getElem?_take]
    by_cases hi : i < S.length
    · rw [if_pos hi]
      by_cases q : i = t
      · subst q
        rw [t2, List.getElem?_set_self hi]
      · rw [keep i hi q, List.getElem?_set_ne (fun z => q z.symm)]
    · rw [if_neg hi, List.getElem?_eq_none (by rw [List.length_set]; omega)]
  refine ⟨List.set S t (.lst (ts.map D.int)), ?_, ⟨ts, t1, List.getElem?_set_self ht⟩, ⟨ts, rfl⟩⟩
  rw [← tk]
  refine finT_ret ⟨hl, fun i o hi ho => ?_⟩ (fz_clo hd)
  by_cases q : i = t
  · subst q
    rw [t2] at ho
    cases ho
    exact .inr (cloL_ints _ _)
  · rw [keep i hi q] at ho
    exact .inl ho
theorem clo_tbl {m : Nat} {x : Str × Int × D} (h : Tbl x) : clo m (tbD x) = true := by
  obtain ⟨_, _, rows, e⟩ := h
  show cloL m [.str x.1, .int x.2.1, x.2.2] = true
  refine (cloL_iff m _).mpr fun d hd => ?_
  simp at hd
  rcases hd with rfl | rfl | rfl
  · rfl
  · rfl
  · rw [e]
    exact cloL_rows _ _
theorem book_ok (h63 : ns.length ≤ 63) (tw : Twn t n S) (hn : n ≤ 10000) : ∃ (tb : List (Str × Int × D)) (S' : Store), F__law_drawn_book fu [.scr ns, .loc t, .int 4, .int 4] S = .ok (.tup (tb.map tbD)) S' ∧ (∀ x ∈ tb, Tbl x) ∧ tb ≠ [] ∧ tb.length ≤ 4 ∧ Twn t (n + 122) S' ∧ Dif t S S' := by
  have ht : t < S.length := by
    obtain ⟨ts, a, b⟩ := tw
    exact (List.getElem?_eq_some_iff.mp b).1
  have twA : Twn t n (S ++ [.lst []]) := by
    obtain ⟨ts, a, b⟩ := tw
    exact ⟨ts, a, by rw [List.getElem?_append_left ht]; exact b⟩
  obtain ⟨S1, y5, y6, tb, e1, htb, hl, tw1, hS1, sl, ot⟩ := book_loop (fu := fu) h63 (L := S.length) (by omega) ["p", "q", "r", "s"] [] none none (fun w h => h) twA (by simp; omega) (by simp) (by simp) (by simp)
  obtain ⟨j, S2, hj, tw2, d2, e2⟩ := draw_tw (many := 2) h63 tw1 (by simp; omega) (by decide)
  have hS2 : S2[S.length]? = some (.lst (tb.map tbD)) := by rw [d2.other (by omega)]; exact hS1
  have hl4 : tb.length = 4 := hl
  have sl2 : slD (.loc S.length) (some (j : Int)) none S2 = some (.lst ((tb.drop j).map tbD)) := by
    unfold slD
    simp only [hS2]
    rw [cut_drop _ _ (by rw [List.length_map]; omega), List.map_drop]
  have eb : m__law_drawn_book fu [some (.scr ns), some (.loc t), some (.int 4), some (.int 4), none, none, none] S = .ok (.ret (.tup ((tb.drop j).map tbD))) [some (.scr ns), some (.loc t), some (.int 4), some (.int 4), some (.loc S.length), y5, y6] S2 := by
    rw [book_eq]
    have e1' : sLoop (tgN 5) (bookB fu) [.str "p", .str "q", .str "r", .str "s"] [some (.scr ns), some (.loc t), some (.int 4), some (.int 4), some (.loc S.length), none, none] (S ++ [.lst []]) = _ := e1
    simp [e1', e2, sl2]
  obtain ⟨S', ef, tw', d'⟩ := fin_dif (S := S) (S1 := S2) (n := n + 122) (rho := [some (.scr ns), some (.loc t), some (.int 4), some (.int 4), some (.loc S.length), y5, y6]) (d := .tup ((tb.drop j).map tbD)) ht (by rw [d2.len, sl]; simp) (tw2.mono (by simp)) (fun i hi hne => by
    rw [d2.other hne, ot i hne (by omega), List.getElem?_append_left hi]) (by
    show cloL _ _ = true
    refine (cloL_iff _ _).mpr fun d hd => ?_
    obtain ⟨x, hx, rfl⟩ := List.mem_map.mp hd
    exact clo_tbl (htb x (List.mem_of_mem_drop hx)))
  refine ⟨tb.drop j, S', ?_, fun x hx => htb x (List.mem_of_mem_drop hx), ?_, by rw [List.length_drop]; omega, tw', d'⟩
  · show finT S (m__law_drawn_book fu (frame 7 _) S) = _
    have efr : frame 7 [.scr ns, .loc t, .int 4, .int 4] = [some (.scr ns), some (.loc t), some (.int 4), some (.int 4), none, none, none] := rfl
    rw [efr, eb]
    exact ef
  · intro q
    have := congrArg List.length q
    rw [List.length_drop, List.length_nil] at this
    omega
end
end Law
namespace Law
open PySem L2 Dv
abbrev abcd : List Str := ["a", "b", "c", "d"]
/-- a term as it is drawn -/
def Trm (t : D) : Prop := (∃ x ∈ abcd, t = .str x) ∨ ∃ i : Int, 0 ≤ i ∧ i < 3 ∧ t = .int i
def Atm (a : D) : Prop := ∃ w ts, a = .tup [.str w, .tup ts] ∧ w ∈ (["p", "q", "r", "s"] : List Str) ∧ ts ≠ [] ∧ ts.length ≤ 3 ∧ ∀ t ∈ ts, Trm t
def Chk (c : D) : Prop := ∃ s x z, c = .tup [.str s, .str x, z] ∧ s ∈ (["less", "unlike"] : List Str) ∧ x ∈ abcd ∧ Trm z
theorem Trm.clo {t : D} (h : Trm t) (m : Nat) : clo m t = true := by
  rcases h with ⟨x, _, rfl⟩ | ⟨i, _, _, rfl⟩ <;> rfl
section
variable {S : Store} {ns : List Int} {n fu t : Nat}
noncomputable def askA (fu : Nat) : SM := (sSeq (sAsg (mApp 3 FPick (mCons (mVar 0) (mCons (mVar 1) (mCons (mVar 2) mNil)))) (tgT 3 (tgsCons (tgN 10) (tgsCons (tgN 12) (tgsCons (tgN 13) tgsNil)))))
    (sSeq (sSet 7 (mLcG true (mPl (mRng1 (mCons (mVar 12) mNil))) [14] (tgN 14) mYes (mApp 3 FPick (mCons (mVar 0) (mCons (mVar 1) (mCons (mBin addD (mBin addD (mBin addD (mVar 5) (mVar 5)) (mVar 5)) (mLst (mCons (mApp 3 FDraw (mCons (mVar 0) (mCons (mVar 1) (mCons (mC (.int 3)) mNil)))) mNil))) mNil))))))
    (sSeq (sSetIx (mVar 7) (mC (.int 0)) (mIf (mT (mBin eqD (mVar 6) (mC (.int 0)))) (mBin ixD (mVar 5) (mC (.int 0))) (mBin ixD (mVar 7) (mC (.int 0)))))
    (sDrop (mAppend (mVar 4) (mTup (mCons (mVar 10) (mCons (mCall tupD (mCons (mVar 7) mNil)) mNil))))))))
noncomputable def askU : SM := (sSet 8 (mBin addD (mVar 8) (mLc (mIter (mVar 7)) [15] (tgN 15) (mTru (mCall isiD (mCons (mVar 15) (mCons (mC (.ty "str")) mNil)))) (mVar 15))))
noncomputable def askC (fu : Nat) : SM := (sSeq (sSet 11 (mTup (mCons (mApp 3 FPick (mCons (mVar 0) (mCons (mVar 1) (mCons (mVar 8) mNil)))) (mCons (mApp 3 FPick (mCons (mVar 0) (mCons (mVar 1) (mCons (mBin addD (mVar 8) (mLst (mCons (mC (.int 1)) mNil))) mNil)))) mNil))))
    (sDrop (mAppend (mVar 9) (mBin addD (mTup (mCons (mApp 3 FPick (mCons (mVar 0) (mCons (mVar 1) (mCons (mLst (mCons (mC (.str "less")) (mCons (mC (.str "unlike")) mNil))) mNil)))) mNil)) (mVar 11)))))
theorem ask_eq (fu : Nat) : m__law_drawn_ask fu = (sSeq (sSet 4 (mNewL mNil))
    (sSeq (sSet 5 (mSl (mLst (mCons (mC (.str "a")) (mCons (mC (.str "b")) (mCons (mC (.str "c")) (mCons (mC (.str "d")) mNil))))) mNoP (mP (mBin addD (mC (.int 1)) (mApp 3 FDraw (mCons (mVar 0) (mCons (mVar 1) (mCons (mC (.int 4)) mNil))))))))
    (sSeq (sFor (mRng1 (mCons (mBin addD (mC (.int 1)) (mApp 3 FDraw (mCons (mVar 0) (mCons (mVar 1) (mCons (mVar 3) mNil))))) mNil)) (tgN 6) (askA fu))
    (sSeq (sPar 8 9 (mCons (mLst mNil) (mCons (mNewL mNil) mNil)))
    (sSeq (sForG (mIterG (mVar 4)) (tgT 2 (tgsCons (tgN 10) (tgsCons (tgN 7) tgsNil))) askU)
    (sSeq (sFor (mRng1 (mCons (mApp 3 FPick (mCons (mVar 0) (mCons (mVar 1) (mCons (mLst (mCons (mC (.int 0)) (mCons (mC (.int 0)) (mCons (mC (.int 1)) (mCons (mC (.int 2)) mNil))))) mNil)))) mNil)) (tgN 6) (askC fu))
    (sRet (mTup (mCons (mCall tupD (mCons (mVar 4) mNil)) (mCons (mCall tupD (mCons (mVar 9) mNil)) mNil)))))))))) := rfl
theorem terms_lcd (h63 : ns.length ≤ 63) {nm : List Str} (hnm : nm ≠ []) (hn4 : ∀ x ∈ nm, x ∈ abcd) (hnl : nm.length ≤ 4) {w : Nat} {y2 y3 y4 y6 y7 y8 y9 y10 y11 y12 y13 y15 : Option D} (tw : Twn t n S) (hw : w ≤ 3) (hn : n ≤ 20000) :
    ∃ ts S', lcG gYes (tgN 14) mYes (mApp 3 FPick (mCons (mVar 0) (mCons (mVar 1) (mCons (mBin addD (mBin addD (mBin addD (mVar 5) (mVar 5)) (mVar 5)) (mLst (mCons (mApp 3 FDraw (mCons (mVar 0) (mCons (mVar 1) (mCons (mC (.int 3)) mNil)))) mNil))) mNil)))) [some (.scr ns), some (.loc t), y2, y3, y4, some (.lst (nm.map D.str)), y6, y7, y8, y9, y10, y11, y12, y13, none, y15] (rng 0 w) S = .ok ts S' ∧ ts.length = w ∧ (∀ t ∈ ts, Trm t) ∧ Twn t (n + 4 * w) S' ∧ Dif t S S' := by
  rw [lcG_yes]
  obtain ⟨ys, S', e, h1, h2, h3, h4⟩ := lc_inv (gm := tgN 14) (te := mApp 3 FPick (mCons (mVar 0) (mCons (mVar 1) (mCons (mBin addD (mBin addD (mBin addD (mVar 5) (mVar 5)) (mVar 5)) (mLst (mCons (mApp 3 FDraw (mCons (mVar 0) (mCons (mVar 1) (mCons (mC (.int 3)) mNil)))) mNil))) mNil)))) (r0 := [some (.scr ns), some (.loc t), y2, y3, y4, some (.lst (nm.map D.str)), y6, y7, y8, y9, y10, y11, y12, y13, none, y15])
    (fun i zs S' => (zs.length = i ∧ i ≤ w) ∧ (∀ t ∈ zs, Trm t) ∧ Twn t (n + 4 * i) S' ∧ Dif t S S') (rng 0 w) 0 [] S (fun i d zs S1 hd hi => by
      obtain ⟨hi2, rfl⟩ := rng_get hd
      obtain ⟨⟨q1, q2⟩, q3, q4, q5⟩ := hi
      obtain ⟨x, S2, a, b, c, e⟩ := draw_tw (many := 3) h63 q4 (by omega) (by decide)
      have hne : nm.map D.str ++ nm.map D.str ++ nm.map D.str ++ [D.int x] ≠ [] := by simp
      have hall : ∀ d ∈ nm.map D.str ++ nm.map D.str ++ nm.map D.str ++ [D.int x], Trm d := fun d hd => by
        have h5 : ∀ d ∈ nm.map D.str, Trm d := fun d hd => by
          obtain ⟨y, hy, rfl⟩ := List.mem_map.mp hd
          exact .inl ⟨y, hn4 y hy, rfl⟩
        rcases List.mem_append.mp hd with q | q
        · rcases List.mem_append.mp q with q | q
          · rcases List.mem_append.mp q with q | q
            · exact h5 d q
            · exact h5 d q
          · exact h5 d q
        · rw [List.mem_singleton.mp q]
          exact .inr ⟨x, by omega, a, rfl⟩
      obtain ⟨j, d, S3, hj, b3, c3, e3⟩ := pick_tw (seq := .lst (nm.map D.str ++ nm.map D.str ++ nm.map D.str ++ [D.int x])) h63 b (by omega) (.inl rfl) hne (fun m => (cloL_iff m _).mpr fun d hd => (hall d hd).clo m)
      have b1 : nm.length + nm.length ≤ 100000 := by omega
      have b2 : nm.length + nm.length + nm.length ≤ 100000 := by omega
      have b4 : nm.length + nm.length + nm.length + 1 ≤ 100000 := by omega
      refine ⟨_, d, S3, rfl, ?_, ⟨by simp [q1], by omega⟩, fun z hz => ?_, b3.mono (by omega), (q5.trans c).trans c3⟩
      · have a1 : ∀ S, addD (.lst (nm.map D.str)) (.lst (nm.map D.str)) S = some (.lst (nm.map D.str ++ nm.map D.str)) := fun S => by rw [addD_lst, if_pos (by rw [List.length_map]; omega)]
        have a2 : ∀ S, addD (.lst (nm.map D.str ++ nm.map D.str)) (.lst (nm.map D.str)) S = some (.lst (nm.map D.str ++ nm.map D.str ++ nm.map D.str)) := fun S => by rw [addD_lst, if_pos (by rw [List.length_append, List.length_map]; omega)]
        have a3 : ∀ S, addD (.lst (nm.map D.str ++ nm.map D.str ++ nm.map D.str)) (.lst [D.int x]) S = some (.lst (nm.map D.str ++ nm.map D.str ++ nm.map D.str ++ [D.int x])) := fun S => by rw [addD_lst, if_pos (by rw [List.length_append, List.length_append, List.length_map, List.length_singleton]; omega)]
        simp [e, a1, a2, a3, e3, -addD_lst, -List.append_assoc]
      · rcases List.mem_append.mp hz with q | q
        · exact q3 z q
        · rw [List.mem_singleton.mp q]
          exact hall d (List.mem_of_getElem? hj)) ⟨⟨rfl, Nat.zero_le _⟩, (by intro z hz; cases hz), tw.mono (by omega), tw.dif⟩
  rw [rng_len, Nat.zero_add] at h1 h3
  simp only [List.nil_append] at h1 h2
  exact ⟨ys, S', e, h1.1, h2, h3, h4⟩
end
end Law
namespace Law
open PySem L2 Dv
section
variable {S : Store} {ns : List Int} {n fu t : Nat}
theorem askA_ok (h63 : ns.length ≤ 63) {tb : List (Str × Int × D)} (htb : ∀ x ∈ tb, Tbl x) (htb0 : tb ≠ []) {nm : List Str} {nm0 : Str} {nmr : List Str} (hnm : nm = nm0 :: nmr) (hn4 : ∀ x ∈ nm, x ∈ abcd) (hnl : nm.length ≤ 4) {A i : Nat} {atoms : List D} {y3 y7 y8 y9 y10 y11 y12 y13 y14 y15 : Option D} (hA : A ≠ t) (tw : Twn t n S) (hn : n ≤ 15000) (hS : S[A]? = some (.lst atoms)) (hal : atoms.length ≤ 100) :
    ∃ S' y7' y10' y12' y13' a, askA fu [some (.scr ns), some (.loc t), some (.tup (tb.map tbD)), y3, some (.loc A), some (.lst (nm.map D.str)), some (.int (i : Int)), y7, y8, y9, y10, y11, y12, y13, y14, y15] S = .ok .next [some (.scr ns), some (.loc t), some (.tup (tb.map tbD)), y3, some (.loc A), some (.lst (nm.map D.str)), some (.int (i : Int)), y7', y8, y9, y10', y11, y12', y13', y14, y15] S' ∧ Atm a ∧ (i = 0 → ∃ w x r, a = .tup [w, .tup (.str x :: r)]) ∧ Twn t (n + 14) S' ∧ S'[A]? = some (.lst (atoms ++ [a])) ∧ S.length ≤ S'.length ∧ ∀ j, j < S.length → j ≠ t → j ≠ A → S'[j]? = S[j]? := by
  have hAl : A < S.length := (List.getElem?_eq_some_iff.mp hS).1
  obtain ⟨j, d, S1, hj, tw1, d1, e1⟩ := pick_tw (seq := .tup (tb.map tbD)) (xs := tb.map tbD) h63 tw (by omega) (.inr rfl) (by simpa using htb0) (fun m => (cloL_iff m _).mpr fun d hd => by
    obtain ⟨x, hx, rfl⟩ := List.mem_map.mp hd
    exact clo_tbl (htb x hx))
  obtain ⟨x, hx, rfl⟩ := List.mem_map.mp (List.mem_of_getElem? hj)
  obtain ⟨hxw, ⟨w, w1, w3, hxn⟩, rows, hxr⟩ := htb x hx
  obtain ⟨ts, S2, e2, tl, tt, tw2, d2⟩ := terms_lcd h63 (nm := nm) (by rw [hnm]; simp) hn4 hnl (w := w) (y2 := some (.tup (tb.map tbD))) (y3 := y3) (y4 := some (.loc A)) (y6 := some (.int (i : Int))) (y7 := y7) (y8 := y8) (y9 := y9) (y10 := some (.str x.1)) (y11 := y11) (y12 := some (.int w)) (y13 := some x.2.2) (y15 := y15) tw1 w3 (by omega)
  obtain ⟨t0, tr, rfl⟩ : ∃ t0 tr, ts = t0 :: tr := by
    cases ts with
    | nil => simp at tl; omega
    | cons a b => exact ⟨a, b, rfl⟩
  have d12 := d1.trans d2
  have hS2 : S2[A]? = some (.lst atoms) := by rw [d12.other hA]; exact hS
  have hS3 : (S2 ++ [.lst (t0 :: tr)])[A]? = some (.lst atoms) := by rw [List.getElem?_append_left (by rw [d12.len]; exact hAl)]; exact hS2
  have hwI : -100000 ≤ (w : Int) ∧ (w : Int) ≤ 100000 := by omega
  have hal2 : atoms.length < 100000 := by omega
  have hAL : A ≠ S2.length := by rw [d12.len]; omega
  -- the first term
  obtain ⟨v, hv, hv0, ev⟩ : ∃ v, Trm v ∧ (i = 0 → ∃ x, v = .str x) ∧ (mIf (mT (mBin eqD (mVar 6) (mC (.int 0)))) (mBin ixD (mVar 5) (mC (.int 0))) (mBin ixD (mVar 7) (mC (.int 0)))) [some (.scr ns), some (.loc t), some (.tup (tb.map tbD)), y3, some (.loc A), some (.lst (nm.map D.str)), some (.int (i : Int)), some (.loc S2.length), y8, y9, some (.str x.1), y11, some (.int w), some x.2.2, y14, y15] (S2 ++ [.lst (t0 :: tr)]) = .ok v (S2 ++ [.lst (t0 :: tr)]) := by
    by_cases c : i = 0
    · subst c
      refine ⟨.str nm0, .inl ⟨nm0, hn4 nm0 (by rw [hnm]; simp), rfl⟩, fun _ => ⟨nm0, rfl⟩, ?_⟩
      have : atI (nm.map D.str) 0 = some (.str nm0) := by rw [hnm]; exact atI_zero _ _
      simp [this]
    · refine ⟨t0, tt t0 List.mem_cons_self, fun q => absurd q c, ?_⟩
      simp [c, last_at, atI_zero]
  have hAtm : Atm (.tup [.str x.1, .tup (v :: tr)]) := ⟨x.1, v :: tr, rfl, hxw, by simp, by simp at tl ⊢; omega, fun z hz => by
    rcases List.mem_cons.mp hz with rfl | q
    · exact hv
    · exact tt z (List.mem_cons_of_mem _ q)⟩
  have hS4 : (S2 ++ [.lst (v :: tr)])[A]? = some (.lst atoms) := by rw [List.getElem?_append_left (by rw [d12.len]; exact hAl)]; exact hS2
  refine ⟨List.set (S2 ++ [.lst (v :: tr)]) A (.lst (atoms ++ [.tup [.str x.1, .tup (v :: tr)]])), some (.loc S2.length), some (.str x.1), some (.int w), some x.2.2, .tup [.str x.1, .tup (v :: tr)], ?_, hAtm, fun q => ?_, ?_, gs hS4 _, ?_, fun j h1 h2 h3 => ?_⟩
  · have ix : ixN (t0 :: tr).length 0 = some 0 := ixN_zero (by simp)
    have pd : ∀ r, putD (.loc S2.length) (.int 0) v r (S2 ++ [.lst (t0 :: tr)]) = .ok .next r (S2 ++ [.lst (v :: tr)]) := fun r => by
      rw [putD_ap, last_at]
      simp only [ix, last_set, List.set_cons_zero]
    have tgx : tbD x = .tup [.str x.1, .int w, x.2.2] := by unfold tbD; rw [hxn]
    rw [tgx] at e1
    unfold askA
    simp [e1, hwI, e2, ev, pd, hS4, last_at, hal2, -mIf_ap, -putD_ap]
  · obtain ⟨y, rfl⟩ := hv0 q
    exact ⟨_, y, tr, rfl⟩
  · obtain ⟨us, a, b⟩ := tw2
    refine ⟨us, by omega, ?_⟩
    rw [List.getElem?_set_ne hA, List.getElem?_append_left (List.getElem?_eq_some_iff.mp b).1]
    exact b
  · rw [List.length_set, List.length_append, d12.len]
    omega
  · rw [List.getElem?_set_ne (fun q => h3 q.symm), List.getElem?_append_left (by rw [d12.len]; exact h1), d12.other h2]
end
end Law
namespace Law
open PySem L2 Dv
section
variable {S : Store} {ns : List Int} {n fu t : Nat}
theorem used_loop {c : Gd} (hc : c S = true) {y0 y1 y2 y3 y4 y5 y6 y9 y11 y12 y13 y14 y15 : Option D} : ∀ (as : List D) (acc : List Str) (y7 y10 : Option D), (∀ a ∈ as, Atm a) → acc.length + 3 * as.length ≤ 90000 →
    ∃ y7' y10', sLoopG c (tgT 2 (tgsCons (tgN 10) (tgsCons (tgN 7) tgsNil))) askU as [y0, y1, y2, y3, y4, y5, y6, y7, some (.lst (acc.map D.str)), y9, y10, y11, y12, y13, y14, y15] S = .ok .next [y0, y1, y2, y3, y4, y5, y6, y7', some (.lst ((acc ++ strA as).map D.str)), y9, y10', y11, y12, y13, y14, y15] S
  | [], acc, y7, y10, _, _ => ⟨y7, y10, by simp [sLoopG, hc, strA]⟩
  | a :: as, acc, y7, y10, h, hl => by
    obtain ⟨w, ts, rfl, _, _, tl, ht⟩ := h a List.mem_cons_self
    have hp : ∀ t ∈ ts, pn 0 t = true := fun t h => by
      rcases ht t h with ⟨x, hx, rfl⟩ | ⟨i, _, _, rfl⟩
      · simp at hx
        rcases hx with rfl | rfl | rfl | rfl <;> rfl
      · rfl
    have sl : (strL ts).length ≤ 3 := Nat.le_trans (List.length_filterMap_le _ _) tl
    obtain ⟨y7', y10', e⟩ := used_loop hc (y0 := y0) (y1 := y1) (y2 := y2) (y3 := y3) (y4 := y4) (y5 := y5) (y6 := y6) (y9 := y9) (y11 := y11) (y12 := y12) (y13 := y13) (y14 := y14) (y15 := y15) as (acc ++ strL ts) (some (.tup ts)) (some (.str w)) (fun b hb => h b (List.mem_cons_of_mem _ hb)) (by simp at hl ⊢; omega)
    refine ⟨y7', y10', ?_⟩
    have ls : lcL (tgN 15) (mTru (mCall isiD (mCons (mVar 15) (mCons (mC (.ty "str")) mNil)))) (mVar 15) [y0, y1, y2, y3, y4, y5, y6, some (.tup ts), some (.lst (acc.map D.str)), y9, some (.str w), y11, y12, y13, y14, none] ts S = .ok ((strL ts).map D.str) S := by
      rw [lc_pure isS id ts fun t ht => by
        refine ⟨[y0, y1, y2, y3, y4, y5, y6, some (.tup ts), some (.lst (acc.map D.str)), y9, some (.str w), y11, y12, y13, y14, some t], rfl, ?_, fun _ => by simp⟩
        have e := isi_S (S := S) (hp t ht)
        simp [e], List.map_id, strs_filter]
    have ad : addD (.lst (acc.map D.str)) (.lst ((strL ts).map D.str)) S = some (.lst ((acc ++ strL ts).map D.str)) := by
      rw [addD_lst, if_pos (by rw [List.length_map, List.length_map]; simp at hl; omega), List.map_append]
    have st : askU [y0, y1, y2, y3, y4, y5, y6, some (.tup ts), some (.lst (acc.map D.str)), y9, some (.str w), y11, y12, y13, y14, y15] S = .ok .next [y0, y1, y2, y3, y4, y5, y6, some (.tup ts), some (.lst ((acc ++ strL ts).map D.str)), y9, some (.str w), y11, y12, y13, y14, y15] S := by
      unfold askU
      simp [ls, ad, -addD_lst, -List.map_append]
    have e' : (acc ++ strL ts) ++ strA as = acc ++ strA (.tup [.str w, .tup ts] :: as) := by
      rw [List.append_assoc]
      rfl
    rw [← e', ← e]
    conv => lhs; unfold sLoopG
    simp [hc, st, -List.map_append]
theorem askC_ok (h63 : ns.length ≤ 63) {us : List Str} (hu0 : us ≠ []) (hu : ∀ x ∈ us, x ∈ abcd) (hul : us.length ≤ 100) {C : Nat} {cs : List D} {y2 y3 y4 y5 y6 y7 y10 y11 y12 y13 y14 y15 : Option D} (hC : C ≠ t) (tw : Twn t n S) (hn : n ≤ 15000) (hS : S[C]? = some (.lst cs)) (hcl : cs.length ≤ 100) :
    ∃ S' y11' c, askC fu [some (.scr ns), some (.loc t), y2, y3, y4, y5, y6, y7, some (.lst (us.map D.str)), some (.loc C), y10, y11, y12, y13, y14, y15] S = .ok .next [some (.scr ns), some (.loc t), y2, y3, y4, y5, y6, y7, some (.lst (us.map D.str)), some (.loc C), y10, y11', y12, y13, y14, y15] S' ∧ Chk c ∧ Twn t (n + 6) S' ∧ S'[C]? = some (.lst (cs ++ [c])) ∧ S'.length = S.length ∧ ∀ j, j ≠ t → j ≠ C → S'[j]? = S[j]? := by
  have hus : ∀ d ∈ us.map D.str, ∃ x ∈ abcd, d = .str x := fun d hd => by
    obtain ⟨x, hx, rfl⟩ := List.mem_map.mp hd
    exact ⟨x, hu x hx, rfl⟩
  obtain ⟨j1, d1, S1, hj1, tw1, f1, e1⟩ := pick_tw (seq := .lst (us.map D.str)) h63 tw (by omega) (.inl rfl) (by simpa using hu0) (fun m => (cloL_iff m _).mpr fun d hd => by
    obtain ⟨x, _, rfl⟩ := hus d hd
    rfl)
  obtain ⟨x, hx, rfl⟩ := hus d1 (List.mem_of_getElem? hj1)
  have hz : ∀ d ∈ us.map D.str ++ [D.int 1], Trm d := fun d hd => by
    rcases List.mem_append.mp hd with q | q
    · exact .inl (hus d q)
    · rw [List.mem_singleton.mp q]
      exact .inr ⟨1, by omega, by omega, rfl⟩
  obtain ⟨j2, z, S2, hj2, tw2, f2, e2⟩ := pick_tw (seq := .lst (us.map D.str ++ [D.int 1])) h63 tw1 (by omega) (.inl rfl) (by simp) (fun m => (cloL_iff m _).mpr fun d hd => (hz d hd).clo m)
  have hzt := hz z (List.mem_of_getElem? hj2)
  obtain ⟨j3, s, S3, hj3, tw3, f3, e3⟩ := pick_tw (seq := .lst [.str "less", .str "unlike"]) h63 tw2 (by omega) (.inl rfl) (by simp) (fun m => rfl)
  obtain ⟨so, hso, rfl⟩ : ∃ so : Str, so ∈ (["less", "unlike"] : List Str) ∧ s = .str so := by
    match j3, hj3 with
    | 0, h => cases h; exact ⟨"less", by simp, rfl⟩
    | 1, h => cases h; exact ⟨"unlike", by simp, rfl⟩
    | j + 2, h => cases h
  have f := (f1.trans f2).trans f3
  have hS2 : S2[C]? = some (.lst cs) := by rw [(f1.trans f2).other hC]; exact hS
  have hS3 : S3[C]? = some (.lst cs) := by rw [f.other hC]; exact hS
  have hcl2 : cs.length < 100000 := by omega
  have ad : ∀ S, addD (.lst (us.map D.str)) (.lst [D.int 1]) S = some (.lst (us.map D.str ++ [D.int 1])) := fun S => by rw [addD_lst, if_pos (by rw [List.length_map, List.length_singleton]; omega)]
  refine ⟨List.set S3 C (.lst (cs ++ [.tup [.str so, .str x, z]])), some (.tup [.str x, z]), .tup [.str so, .str x, z], ?_, ⟨so, x, z, rfl, hso, hx, hzt⟩, ?_, gs hS3 _, by rw [List.length_set, f.len], fun j h1 h2 => ?_⟩
  · unfold askC
    simp [e1, ad, e2, e3, hS2, hS3, hcl2, -addD_lst]
  · obtain ⟨vs, a, b⟩ := tw3
    exact ⟨vs, by omega, by rw [List.getElem?_set_ne hC]; exact b⟩
  · rw [List.getElem?_set_ne (fun q => h2 q.symm), f.other h1]
theorem draw_ask_ok (h63 : ns.length ≤ 63) {tb : List (Str × Int × D)} (htb : ∀ x ∈ tb, Tbl x) (htb0 : tb ≠ []) (tw : Twn t n S) (hn : n ≤ 10000) :
    ∃ (atoms checks : List D) (S' : Store), F__law_drawn_ask fu [.scr ns, .loc t, .tup (tb.map tbD), .int 4] S = .ok (.tup [.tup atoms, .tup checks]) S' ∧ (∀ a ∈ atoms, Atm a) ∧ (∀ c ∈ checks, Chk c) ∧ atoms ≠ [] ∧ atoms.length ≤ 4 ∧ checks.length ≤ 2 ∧ Twn t (n + 80) S' ∧ Dif t S S' := by
  have ht : t < S.length := by
    obtain ⟨ts, a, b⟩ := tw
    exact (List.getElem?_eq_some_iff.mp b).1
  have twA : Twn t n (S ++ [.lst []]) := by
    obtain ⟨ts, a, b⟩ := tw
    exact ⟨ts, a, by rw [List.getElem?_append_left ht]; exact b⟩
  obtain ⟨q, S1, hq, tw1, f1, e1⟩ := draw_tw (many := 4) h63 twA (by omega) (by decide)
  obtain ⟨m, S2, hm, tw2, f2, e2⟩ := draw_tw (many := 4) h63 tw1 (by omega) (by decide)
  have f12 := f1.trans f2
  have hA2 : S2[S.length]? = some (.lst []) := by rw [f12.other (by omega)]; simp
  -- the names
  obtain ⟨nm, nm0, nmr, hnm, hn4, hnl, ecut⟩ : ∃ nm nm0 nmr, nm = nm0 :: nmr ∧ (∀ x ∈ nm, x ∈ abcd) ∧ nm.length ≤ 4 ∧ cutL (abcd.map D.str) none (some (1 + (q : Int))) = nm.map D.str := by
    have hc : ∀ j : Nat, cutL (abcd.map D.str) none (some (j : Int)) = (abcd.map D.str).take (min j 4) := fun j => by
      unfold cutL
      rw [HT.sIx_none, HT.sIx_nat, List.drop_zero, Nat.sub_zero]
      rfl
    have h1 : 1 + (q : Int) = ((q + 1 : Nat) : Int) := by omega
    refine ⟨abcd.take (q + 1), "a", (["b", "c", "d"] : List Str).take q, rfl, fun x hx => List.mem_of_mem_take hx, by rw [List.length_take]; exact Nat.min_le_right _ _, ?_⟩
    rw [h1, hc, Nat.min_eq_left (by omega), List.map_take]
  -- the atoms
  obtain ⟨r3, S3, ea, atoms, ⟨y6, y7, y10, y12, y13, rfl⟩, hat, hlen, hfst, tw3, hA3, sl3, kp3⟩ := loop_inv (gm := tgN 6) (b := askA fu)
    (fun i r S' => ∃ atoms : List D, (∃ y6 y7 y10 y12 y13, r = [some (.scr ns), some (.loc t), some (.tup (tb.map tbD)), some (.int 4), some (.loc S.length), some (.lst (nm.map D.str)), y6, y7, none, none, y10, none, y12, y13, none, none]) ∧ (∀ a ∈ atoms, Atm a) ∧ atoms.length = i ∧ (0 < i → ∃ w x r as, atoms = .tup [w, .tup (.str x :: r)] :: as) ∧ Twn t (n + 4 + 14 * i) S' ∧ S'[S.length]? = some (.lst atoms) ∧ S2.length ≤ S'.length ∧ ∀ j, j < S.length → j ≠ t → S'[j]? = S2[j]?) (rng 0 (m + 1)) 0 [some (.scr ns), some (.loc t), some (.tup (tb.map tbD)), some (.int 4), some (.loc S.length), some (.lst (nm.map D.str)), none, none, none, none, none, none, none, none, none, none] S2 (fun i d r S3 hd hi => by
      obtain ⟨hi2, rfl⟩ := rng0_get hd
      obtain ⟨atoms, ⟨y6, y7, y10, y12, y13, rfl⟩, hat, hlen, hfst, tw3, hA3, sl3, kp3⟩ := hi
      rw [Nat.zero_add] at hlen hfst tw3
      obtain ⟨S4, y7', y10', y12', y13', a, e, hatm, h0, tw4, hA4, sl4, kp4⟩ := askA_ok (fu := fu) h63 htb htb0 hnm hn4 hnl (A := S.length) (i := i) (y3 := some (.int 4)) (y7 := y7) (y8 := none) (y9 := none) (y10 := y10) (y11 := none) (y12 := y12) (y13 := y13) (y14 := none) (y15 := none) (by omega) tw3 (by omega) hA3 (by omega)
      have hl2 : S2.length = S.length + 1 := by rw [f12.len]; simp
      refine ⟨_, _, S4, rfl, .inl e, atoms ++ [a], ⟨_, _, _, _, _, rfl⟩, fun z hz => ?_, by simp [hlen], fun _ => ?_, tw4.mono (by omega), hA4, Nat.le_trans sl3 sl4, fun j h1 h2 => ?_⟩
      · rcases List.mem_append.mp hz with q | q
        · exact hat z q
        · rw [List.mem_singleton.mp q]; exact hatm
      · by_cases c : i = 0
        · obtain ⟨w, x, r, rfl⟩ := h0 c
          have : atoms = [] := List.eq_nil_of_length_eq_zero (by omega)
          subst this
          exact ⟨w, x, r, [], rfl⟩
        · obtain ⟨w, x, r, as, rfl⟩ := hfst (by omega)
          exact ⟨w, x, r, as ++ [a], rfl⟩
      · rw [kp4 j (by omega) h2 (by omega), kp3 j h1 h2]) ⟨[], ⟨_, _, _, _, _, rfl⟩, by simp, rfl, fun q => by omega, tw2.mono (by omega), hA2, Nat.le_refl _, fun _ _ _ => rfl⟩
  rw [rng_len, Nat.zero_add] at hlen hfst tw3
  have hl2 : S2.length = S.length + 1 := by rw [f12.len]; simp
  have hA4 : (S3 ++ [.lst []])[S.length]? = some (.lst atoms) := by rw [List.getElem?_append_left (by omega)]; exact hA3
  have ht3 : t < S3.length := by omega
  have tw4 : Twn t (n + 4 + 14 * (m + 1)) (S3 ++ [.lst []]) := by
    obtain ⟨ts, a, b⟩ := tw3
    exact ⟨ts, a, by rw [List.getElem?_append_left ht3]; exact b⟩
  obtain ⟨y7u, y10u, eu⟩ := used_loop (S := S3 ++ [.lst []]) (gIs_ap hA4) (y0 := some (.scr ns)) (y1 := some (.loc t)) (y2 := some (.tup (tb.map tbD))) (y3 := some (.int 4)) (y4 := some (.loc S.length)) (y5 := some (.lst (nm.map D.str))) (y6 := y6) (y9 := some (.loc S3.length)) (y11 := none) (y12 := y12) (y13 := y13) (y14 := none) (y15 := none) atoms [] y7 y10 hat (by simp; omega)
  rw [List.nil_append] at eu
  have hul : (strA atoms).length ≤ 12 := by
    have : ∀ as : List D, (∀ a ∈ as, Atm a) → (strA as).length ≤ 3 * as.length := fun as => by
      induction as with
      | nil => intro _; exact Nat.le_refl _
      | cons a as ih =>
        intro h
        have h1 := ih fun b hb => h b (List.mem_cons_of_mem _ hb)
        obtain ⟨w, ts, rfl, _, _, tl, _⟩ := h a List.mem_cons_self
        have h2 : (strL ts).length ≤ 3 := Nat.le_trans (List.length_filterMap_le _ _) tl
        show (strL ts ++ strA as).length ≤ _
        rw [List.length_append, List.length_cons]
        omega
    have := this atoms hat
    omega
  have hu0 : strA atoms ≠ [] := by
    obtain ⟨w, x, r, as, rfl⟩ := hfst (by omega)
    intro h
    have : x ∈ strA (.tup [w, .tup (.str x :: r)] :: as) := List.mem_flatMap.mpr ⟨_, List.mem_cons_self, mem_strs.mpr List.mem_cons_self⟩
    rw [h] at this
    cases this
  have hu : ∀ x ∈ strA atoms, x ∈ abcd := fun x hx => by
    obtain ⟨a, h1, h2⟩ := List.mem_flatMap.mp hx
    obtain ⟨w, ts, rfl, _, _, _, ht⟩ := hat a h1
    rcases ht _ (mem_strs.mp h2) with ⟨y, hy, e⟩ | ⟨i, _, _, e⟩
    · cases e; exact hy
    · cases e
  obtain ⟨j5, dk, S5, hj5, tw5, f5, e5⟩ := pick_tw (seq := .lst [.int 0, .int 0, .int 1, .int 2]) h63 tw4 (by omega) (.inl rfl) (by simp) (fun m => rfl)
  obtain ⟨kc, hk2, rfl⟩ : ∃ kc : Nat, kc ≤ 2 ∧ dk = .int kc := by
    match j5, hj5 with
    | 0, h => cases h; exact ⟨0, by omega, rfl⟩
    | 1, h => cases h; exact ⟨0, by omega, rfl⟩
    | 2, h => cases h; exact ⟨1, by omega, rfl⟩
    | 3, h => cases h; exact ⟨2, by omega, rfl⟩
    | j + 4, h => cases h
  have hA5 : S5[S.length]? = some (.lst atoms) := by rw [f5.other (by omega)]; exact hA4
  have hC5 : S5[S3.length]? = some (.lst []) := by rw [f5.other (by omega)]; simp
  obtain ⟨r6, S6, ec, checks, ⟨z6, z11, rfl⟩, hch, hcl, tw6, hC6, sl6, kp6⟩ := loop_inv (gm := tgN 6) (b := askC fu)
    (fun i r S' => ∃ cs : List D, (∃ z6 z11, r = [some (.scr ns), some (.loc t), some (.tup (tb.map tbD)), some (.int 4), some (.loc S.length), some (.lst (nm.map D.str)), z6, y7u, some (.lst ((strA atoms).map D.str)), some (.loc S3.length), y10u, z11, y12, y13, none, none]) ∧ (∀ c ∈ cs, Chk c) ∧ cs.length = i ∧ Twn t (n + 6 + 14 * (m + 1) + 6 * i) S' ∧ S'[S3.length]? = some (.lst cs) ∧ S'.length = S5.length ∧ ∀ j, j ≠ t → j ≠ S3.length → S'[j]? = S5[j]?) (rng 0 kc) 0 [some (.scr ns), some (.loc t), some (.tup (tb.map tbD)), some (.int 4), some (.loc S.length), some (.lst (nm.map D.str)), y6, y7u, some (.lst ((strA atoms).map D.str)), some (.loc S3.length), y10u, none, y12, y13, none, none] S5 (fun i d r S7 hd hi => by
      obtain ⟨hi2, rfl⟩ := rng0_get hd
      obtain ⟨cs, ⟨z6, z11, rfl⟩, hch, hcl, tw6, hC6, sl6, kp6⟩ := hi
      rw [Nat.zero_add] at hcl tw6
      obtain ⟨S8, z11', c, e, hc, tw8, hC8, sl8, kp8⟩ := askC_ok (fu := fu) h63 hu0 hu (by omega) (C := S3.length) (y2 := some (.tup (tb.map tbD))) (y3 := some (.int 4)) (y4 := some (.loc S.length)) (y5 := some (.lst (nm.map D.str))) (y6 := some (.int i)) (y7 := y7u) (y10 := y10u) (y11 := z11) (y12 := y12) (y13 := y13) (y14 := none) (y15 := none) (by omega) tw6 (by omega) hC6 (by omega)
      refine ⟨_, _, S8, rfl, .inl e, cs ++ [c], ⟨_, _, rfl⟩, fun z hz => ?_, by simp [hcl], tw8.mono (by omega), hC8, by rw [sl8, sl6], fun j h1 h2 => by rw [kp8 j h1 h2, kp6 j h1 h2]⟩
      rcases List.mem_append.mp hz with q | q
      · exact hch z q
      · rw [List.mem_singleton.mp q]; exact hc) ⟨[], ⟨_, _, rfl⟩, by simp, rfl, tw5.mono (by omega), hC5, rfl, fun _ _ _ => rfl⟩
  rw [rng_len, Nat.zero_add] at hcl tw6
  have hA6 : S6[S.length]? = some (.lst atoms) := by rw [kp6 _ (by omega) (by omega)]; exact hA5
  have l5 : S5.length = S3.length + 1 := by rw [f5.len]; simp
  obtain ⟨S', ef, tw', d'⟩ := fin_dif (S := S) (S1 := S6) (n := n + 80) (rho := [some (.scr ns), some (.loc t), some (.tup (tb.map tbD)), some (.int 4), some (.loc S.length), some (.lst (nm.map D.str)), z6, y7u, some (.lst ((strA atoms).map D.str)), some (.loc S3.length), y10u, z11, y12, y13, none, none]) (d := .tup [.tup atoms, .tup checks]) ht (by omega) (tw6.mono (by omega)) (fun i hi hne => by
    rw [kp6 i hne (by omega), f5.other hne, List.getElem?_append_left (by omega), kp3 i hi hne, f12.other hne, List.getElem?_append_left hi]) (by
    have c1 : ∀ a, Atm a → clo S.length a = true := fun a h => by
      obtain ⟨w, ts, rfl, _, _, _, ht⟩ := h
      show cloL _ [.str w, .tup ts] = true
      refine (cloL_iff _ _).mpr fun d hd => ?_
      simp at hd
      rcases hd with rfl | rfl
      · rfl
      · show cloL _ ts = true
        exact (cloL_iff _ _).mpr fun d hd => (ht d hd).clo _
    have c2 : ∀ a, Chk a → clo S.length a = true := fun a h => by
      obtain ⟨s, x, z, rfl, _, _, hz⟩ := h
      show cloL _ [.str s, .str x, z] = true
      refine (cloL_iff _ _).mpr fun d hd => ?_
      simp at hd
      rcases hd with rfl | rfl | rfl
      · rfl
      · rfl
      · exact hz.clo _
    show cloL _ [.tup atoms, .tup checks] = true
    refine (cloL_iff _ _).mpr fun d hd => ?_
    simp at hd
    rcases hd with rfl | rfl
    · show cloL _ atoms = true
      exact (cloL_iff _ _).mpr fun d hd => c1 d (hat d hd)
    · show cloL _ checks = true
      exact (cloL_iff _ _).mpr fun d hd => c2 d (hch d hd))
  refine ⟨atoms, checks, S', ?_, hat, hch, fun h => by rw [h] at hlen; simp at hlen, by omega, by omega, tw', d'⟩
  show finT S (m__law_drawn_ask fu (frame 16 _) S) = _
  have efr : frame 16 [.scr ns, .loc t, .tup (tb.map tbD), .int 4] = [some (.scr ns), some (.loc t), some (.tup (tb.map tbD)), some (.int 4), none, none, none, none, none, none, none, none, none, none, none, none] := rfl
  have eb : m__law_drawn_ask fu [some (.scr ns), some (.loc t), some (.tup (tb.map tbD)), some (.int 4), none, none, none, none, none, none, none, none, none, none, none, none] S = .ok (.ret (.tup [.tup atoms, .tup checks])) [some (.scr ns), some (.loc t), some (.tup (tb.map tbD)), some (.int 4), some (.loc S.length), some (.lst (nm.map D.str)), z6, y7u, some (.lst ((strA atoms).map D.str)), some (.loc S3.length), y10u, z11, y12, y13, none, none] S6 := by
    rw [ask_eq]
    have rg : rng1 [.int (1 + (m : Int))] = some (rng 0 (m + 1)) := by
      rw [rng1_int, show 1 + (m : Int) = ((m + 1 : Nat) : Int) by omega, if_pos ⟨by omega, by omega⟩]
      rfl
    have rg2 : rng1 [.int (kc : Int)] = some (rng 0 kc) := by
      rw [rng1_int, if_pos ⟨by omega, by omega⟩]
      rfl
    have sl : slD (.lst [.str "a", .str "b", .str "c", .str "d"]) none (some (1 + (q : Int))) S1 = some (.lst (nm.map D.str)) := by
      show some (D.lst (cutL (abcd.map D.str) none (some (1 + (q : Int))))) = _
      rw [ecut]
    have sg : seqG (.loc S.length) (S3 ++ [.lst []]) = some (atoms, gIs S.length atoms) := by
      unfold seqG
      simp only [hA4]
    have eu' : sLoopG (gIs S.length atoms) (tgT 2 (tgsCons (tgN 10) (tgsCons (tgN 7) tgsNil))) askU atoms [some (.scr ns), some (.loc t), some (.tup (tb.map tbD)), some (.int 4), some (.loc S.length), some (.lst (nm.map D.str)), y6, y7, some (.lst []), some (.loc S3.length), y10, none, y12, y13, none, none] (S3 ++ [.lst []]) = _ := eu
    simp [e1, sl, e2, rg, ea, sg, eu', e5, rg2, ec, hA6, hC6, -slD_lst, -rng1_int]
  rw [efr, eb]
  exact ef
end
end Law
namespace Law
open PySem L2 Dv
section
variable {S : Store} {ns : List Int} {n fu t : Nat}
noncomputable def namB : SM := (sSet 1 (mBin addD (mVar 1) (mBin mulD (mLst (mCons (mVar 4) mNil)) (mCall intD (mCons (mAnd (mCall isiD (mCons (mVar 4) (mCons (mC (.ty "str")) mNil))) (mBin ninTD (mVar 4) (mVar 1))) mNil)))))
theorem names_eq (fu : Nat) : m__law_names fu = (sSeq (sSet 1 (mLst mNil)) (sSeq (sFor (mIter (mBin ixD (mVar 0) (mC (.int 0)))) (tgT 2 (tgsCons (tgN 2) (tgsCons (tgN 3) tgsNil))) (sFor (mIter (mVar 3)) (tgN 4) namB)) (sRet (mVar 1)))) := rfl
theorem abcd_name {x : Str} (h : x ∈ abcd) : nameB (.str x) = true := by
  simp at h
  rcases h with rfl | rfl | rfl | rfl <;> decide
theorem Trm.term {d : D} (h : Trm d) : termB d = true := by
  rcases h with ⟨x, hx, rfl⟩ | ⟨i, h0, h1, rfl⟩
  · show (nameB (.str x) || valB (.str x)) = true
    rw [abcd_name hx]
    rfl
  · show (nameB (.int i) || valB (.int i)) = true
    simp [nameB, valB]
    omega
theorem Trm.pn {d : D} (h : Trm d) (k : Nat) : pn k d = true := by
  rcases h with ⟨x, hx, rfl⟩ | ⟨i, h0, h1, rfl⟩
  · have : x.length ≤ 100 := by
      simp at hx
      rcases hx with rfl | rfl | rfl | rfl <;> decide
    cases k <;> simp [Law.pn, this]
  · cases k <;> rfl
theorem namB_ok {y0 y2 y3 : Option D} {d : D} {acc : List Str} (ht : Trm d) (ha : ∀ y ∈ acc, nameB (.str y) = true) (hl : acc.length ≤ 90000) :
    namB [y0, some (.lst (acc.map D.str)), y2, y3, some d] S = .ok .next [y0, some (.lst ((nmS acc d).map D.str)), y2, y3, some d] S := by
  unfold namB
  have e1 := isi_S (S := S) (ht.pn 0)
  rcases ht with ⟨x, hx, rfl⟩ | ⟨i, h0, h1, rfl⟩
  · have e2 : ninTD (.str x) (.lst (acc.map D.str)) S = some (.bl (!decide (x ∈ acc))) := by
      show (inTO (.str x) (.lst (acc.map D.str))).map (fun k => D.bl (!k)) = _
      rw [inL_strs (abcd_name hx) ha]
      rfl
    by_cases c : x ∈ acc
    · have hl1 : acc.length ≤ 100000 := by omega
      simp [e1, isS, e2, c, nmS, hl1]
    · have hl1 : acc.length + 1 ≤ 100000 := by omega
      simp [e1, isS, e2, c, nmS, hl1]
  · have hl1 : acc.length ≤ 100000 := by omega
    simp [e1, isS, nmS, hl1]
theorem namB_loop {y0 y2 y3 : Option D} : ∀ (ts : List D) (acc : List Str) (y4 : Option D), (∀ t ∈ ts, Trm t) → (∀ y ∈ acc, nameB (.str y) = true) → acc.length + ts.length ≤ 90000 →
    ∃ y4', sLoop (tgN 4) namB ts [y0, some (.lst (acc.map D.str)), y2, y3, y4] S = .ok .next [y0, some (.lst ((ts.foldl nmS acc).map D.str)), y2, y3, y4'] S
  | [], acc, y4, _, _, _ => ⟨y4, rfl⟩
  | d :: ts, acc, y4, ht, ha, hl => by
    have hd := ht d List.mem_cons_self
    have e1 := namB_ok (S := S) (y0 := y0) (y2 := y2) (y3 := y3) hd ha (by simp at hl; omega)
    rw [loop_step (r := [y0, some (.lst (acc.map D.str)), y2, y3, y4]) rfl e1]
    exact namB_loop ts (nmS acc d) (some d) (fun u hu => ht u (List.mem_cons_of_mem _ hu)) (nmS_ok hd.term ha) (by
      have := nmS_len acc d
      simp at hl
      omega)
theorem nmF_len : ∀ (ts : List D) (acc : List Str), (ts.foldl nmS acc).length ≤ acc.length + ts.length
  | [], acc => Nat.le_refl _
  | d :: ts, acc => by
    have h1 := nmF_len ts (nmS acc d)
    have h2 := nmS_len acc d
    rw [List.foldl_cons, List.length_cons]
    omega
theorem nam_loop {y0 : Option D} : ∀ (as : List D) (acc : List Str) (y2 y3 y4 : Option D), (∀ a ∈ as, Atm a) → (∀ y ∈ acc, nameB (.str y) = true) → acc.length + 3 * as.length ≤ 9000 →
    ∃ y2' y3' y4', sLoop (tgT 2 (tgsCons (tgN 2) (tgsCons (tgN 3) tgsNil))) (sFor (mIter (mVar 3)) (tgN 4) namB) as [y0, some (.lst (acc.map D.str)), y2, y3, y4] S = .ok .next [y0, some (.lst (((as.flatMap tms).foldl nmS acc).map D.str)), y2', y3', y4'] S
  | [], acc, y2, y3, y4, _, _, _ => ⟨y2, y3, y4, rfl⟩
  | a :: as, acc, y2, y3, y4, h, ha, hl => by
    obtain ⟨w, ts, rfl, _, _, tl, ht⟩ := h a List.mem_cons_self
    obtain ⟨z4, e1⟩ := namB_loop (S := S) (y0 := y0) (y2 := some (.str w)) (y3 := some (.tup ts)) ts acc y4 ht ha (by simp at hl; omega)
    have e2 : sFor (mIter (mVar 3)) (tgN 4) namB [y0, some (.lst (acc.map D.str)), some (.str w), some (.tup ts), y4] S = .ok .next [y0, some (.lst ((ts.foldl nmS acc).map D.str)), some (.str w), some (.tup ts), z4] S := by
      simp [e1]
    rw [loop_step (r := [y0, some (.lst (acc.map D.str)), y2, y3, y4]) (r1 := [y0, some (.lst (acc.map D.str)), some (.str w), some (.tup ts), y4]) rfl e2]
    rw [List.flatMap_cons, List.foldl_append]
    exact nam_loop as _ _ _ _ (fun b hb => h b (List.mem_cons_of_mem _ hb)) (nmL_ok (fun t h => (ht t h).term) ha) (by
      have := nmF_len ts acc
      simp at hl
      show (ts.foldl nmS acc).length + _ ≤ _
      omega)
theorem clo_strsL (n : Nat) (ns : List Str) : clo n (.lst (ns.map D.str)) = true := by
  show cloL n (ns.map D.str) = true
  refine (cloL_iff n _).mpr fun d hd => ?_
  obtain ⟨x, _, rfl⟩ := List.mem_map.mp hd
  rfl
theorem hnames_ok {atoms : List D} {c : D} (h : ∀ a ∈ atoms, Atm a) (hl : atoms.length ≤ 100) : F__law_names fu [.tup [.tup atoms, c]] S = .ok (.lst ((nmL (atoms.flatMap tms)).map D.str)) S := by
  refine fn_ret (clo_strsL _ _) ?_
  show ∃ rho, m__law_names fu [some (.tup [.tup atoms, c]), none, none, none, none] S = _
  obtain ⟨y2, y3, y4, e⟩ := nam_loop (S := S) (y0 := some (.tup [.tup atoms, c])) atoms [] none none none h (by simp) (by simp; omega)
  rw [names_eq]
  have e' : sLoop (tgT 2 (tgsCons (tgN 2) (tgsCons (tgN 3) tgsNil))) (sFor (mIter (mVar 3)) (tgN 4) namB) atoms [some (.tup [.tup atoms, c]), some (.lst []), none, none, none] S = _ := e
  exact ⟨_, by simp [atI_zero, e', -sFor_ap, sFor_ap (mIter (mBin ixD (mVar 0) (mC (.int 0))))]; exact ⟨rfl, rfl⟩⟩
theorem fsame_eq (fu : Nat) : ∀ n, F__law_same fu n = FSame n
  | 0 => rfl
  | n + 1 => by
    show runT 4 (m__law_same fu (F__law_same fu n)) = _
    rw [fsame_eq fu n]
    rfl
theorem same_self {d : D} (h : pt 3 d = true) : F__law_same fu 4 [d, d] S = .ok (.bl true) S := by
  rw [fsame_eq, same_ok 4 3 (by decide) d d h h]
  simp
theorem pt_strs (k : Nat) (ns : List Str) : pt (k + 1) (.tup (ns.map D.str)) = true := by
  show (ns.map D.str).all (pt k) = true
  rw [List.all_map, List.all_eq_true]
  intro n _
  cases k <;> rfl
end
end Law
namespace Law
open PySem L2 Dv
/-- plain things of short tuples, not deeper than so -/
def bq : Nat → D → Bool
  | _, .non => true
  | _, .bl _ => true
  | _, .int _ => true
  | _, .str x => decide (x.length ≤ 50)
  | k + 1, .tup xs => decide (xs.length ≤ 20) && xs.all (bq k)
  | k + 1, .lst xs => decide (xs.length ≤ 20) && xs.all (bq k)
  | _, _ => false
/-- what may be bent -/
inductive Aq : Nat → D → Prop
  | str {k : Nat} {x : Str} : x.length ≤ 50 → Aq k (.str x)
  | int {k : Nat} {i : Int} : 0 ≤ i → i < 3 → Aq k (.int i)
  | tup {k : Nat} {xs : List D} : xs.length ≤ 4 → (∀ x ∈ xs, Aq k x) → Aq (k + 1) (.tup xs)
theorem bq_tup {k : Nat} {xs : List D} (hl : xs.length ≤ 20) (h : ∀ x ∈ xs, bq k x = true) : bq (k + 1) (.tup xs) = true := by
  show (decide (xs.length ≤ 20) && xs.all (bq k)) = true
  rw [decide_eq_true hl, List.all_eq_true.mpr h]
  rfl
theorem bq_lst {k : Nat} {xs : List D} (hl : xs.length ≤ 20) (h : ∀ x ∈ xs, bq k x = true) : bq (k + 1) (.lst xs) = true := by
  show (decide (xs.length ≤ 20) && xs.all (bq k)) = true
  rw [decide_eq_true hl, List.all_eq_true.mpr h]
  rfl
theorem bq_tup_of {k : Nat} {xs : List D} (h : bq k (.tup xs) = true) : ∃ j, k = j + 1 ∧ xs.length ≤ 20 ∧ ∀ x ∈ xs, bq j x = true := by
  cases k with
  | zero => cases h
  | succ j =>
    have h : (decide (xs.length ≤ 20) && xs.all (bq j)) = true := h
    rw [Bool.and_eq_true, decide_eq_true_eq, List.all_eq_true] at h
    exact ⟨j, rfl, h.1, h.2⟩
theorem bq_lst_of {k : Nat} {xs : List D} (h : bq k (.lst xs) = true) : ∃ j, k = j + 1 ∧ xs.length ≤ 20 ∧ ∀ x ∈ xs, bq j x = true := by
  cases k with
  | zero => cases h
  | succ j =>
    have h : (decide (xs.length ≤ 20) && xs.all (bq j)) = true := h
    rw [Bool.and_eq_true, decide_eq_true_eq, List.all_eq_true] at h
    exact ⟨j, rfl, h.1, h.2⟩
theorem bq_ind {P : Nat → D → Prop} (h0 : ∀ k, P k .non) (h1 : ∀ k b, P k (.bl b)) (h2 : ∀ k i, P k (.int i)) (h3 : ∀ k x, x.length ≤ 50 → P k (.str x))
    (h4 : ∀ k xs, xs.length ≤ 20 → (∀ x ∈ xs, P k x) → P (k + 1) (.tup xs)) (h5 : ∀ k xs, xs.length ≤ 20 → (∀ x ∈ xs, P k x) → P (k + 1) (.lst xs)) : ∀ k d, bq k d = true → P k d := by
  intro k
  induction k with
  | zero =>
    intro d h
    cases d with
    | non => exact h0 _
    | bl b => exact h1 _ b
    | int i => exact h2 _ i
    | str x => exact h3 _ x (of_decide_eq_true h)
    | _ => cases h
  | succ k ih =>
    intro d h
    cases d with
    | non => exact h0 _
    | bl b => exact h1 _ b
    | int i => exact h2 _ i
    | str x => exact h3 _ x (of_decide_eq_true h)
    | tup xs =>
      obtain ⟨j, e, hl, hx⟩ := bq_tup_of h
      cases e
      exact h4 k xs hl fun x hx' => ih x (hx x hx')
    | lst xs =>
      obtain ⟨j, e, hl, hx⟩ := bq_lst_of h
      cases e
      exact h5 k xs hl fun x hx' => ih x (hx x hx')
    | _ => cases h
theorem bq_mono : ∀ (k : Nat) (d : D), bq k d = true → ∀ j, k ≤ j → bq j d = true := bq_ind (P := fun k d => ∀ j, k ≤ j → bq j d = true)
  (fun k j _ => by cases j <;> rfl) (fun k b j _ => by cases j <;> rfl) (fun k b j _ => by cases j <;> rfl) (fun k x h j _ => by cases j <;> exact decide_eq_true h)
  (fun k xs hl h j hj => by
    obtain ⟨i, rfl⟩ : ∃ i, j = i + 1 := ⟨j - 1, by omega⟩
    exact bq_tup hl fun x hx => h x hx i (by omega))
  (fun k xs hl h j hj => by
    obtain ⟨i, rfl⟩ : ∃ i, j = i + 1 := ⟨j - 1, by omega⟩
    exact bq_lst hl fun x hx => h x hx i (by omega))
theorem bq_clo (m : Nat) : ∀ (k : Nat) (d : D), bq k d = true → clo m d = true := bq_ind (P := fun k d => clo m d = true)
  (fun _ => rfl) (fun _ _ => rfl) (fun _ _ => rfl) (fun _ _ _ => rfl) (fun k xs _ h => (cloL_iff m xs).mpr h) (fun k xs _ h => (cloL_iff m xs).mpr h)
theorem bq_pn : ∀ (k : Nat) (d : D), bq k d = true → pn k d = true := bq_ind (P := fun k d => pn k d = true)
  (fun k => by cases k <;> rfl) (fun k b => by cases k <;> rfl) (fun k b => by cases k <;> rfl) (fun k x h => by
    have : x.length ≤ 100 := by omega
    cases k <;> exact decide_eq_true this)
  (fun k xs hl h => by
    show (decide (xs.length ≤ 1000) && xs.all (pn k)) = true
    rw [decide_eq_true (by omega), List.all_eq_true.mpr h]
    rfl)
  (fun k xs hl h => by
    show (decide (xs.length ≤ 1000) && xs.all (pn k)) = true
    rw [decide_eq_true (by omega), List.all_eq_true.mpr h]
    rfl)
theorem Aq.bq : ∀ {k : Nat} {d : D}, Aq k d → bq k d = true := fun {k d} h => by
  induction h with
  | @str k x h => cases k <;> exact decide_eq_true h
  | @int k i _ _ => cases k <;> rfl
  | tup hl _ ih => exact bq_tup (by omega) ih
abbrev base : List D := [.non, .bl true, .bl false, .int 0, .int 1, .int (-1), .int 9999, .int 10000, .str "p", .str "a", .str "", .str "A", .tup [], .lst [], .tup [.int 1], .tup [.str "a", .str "b"], .tup [.str "p", .int 1, .tup []]]
theorem base_bq (k : Nat) : ∀ d ∈ base, bq (k + 2) d = true := fun d hd => by
  have : base.all (bq 2) = true := by decide
  exact bq_mono 2 d (List.all_eq_true.mp this d hd) _ (by omega)
section
variable {S : Store} {ns : List Int} {n fu t : Nat}
theorem cut_sub {α : Type} (xs : List α) (a b : Option Int) : (cutL xs a b).length ≤ xs.length ∧ ∀ x ∈ cutL xs a b, x ∈ xs := by
  unfold cutL
  refine ⟨?_, fun x hx => List.mem_of_mem_drop (List.mem_of_mem_take hx)⟩
  rw [List.length_take, List.length_drop]
  omega
/-- what a tuple may be bent to -/
def bentT (xs : List D) : List D := base ++ [.lst xs, .tup (cutL xs none (some (-1))), .tup (xs ++ cutL xs (some (-1)) none), .tup (cutL xs (some 1) none), .tup xs.reverse, .tup (xs ++ [.non])]
theorem bentT_bq {k : Nat} {xs : List D} (hl : xs.length ≤ 4) (h : ∀ x ∈ xs, bq k x = true) : ∀ d ∈ bentT xs, bq (k + 2) d = true := fun d hd => by
  have up : ∀ x, bq (k + 1) x = true → bq (k + 2) x = true := fun x hx => bq_mono _ x hx _ (by omega)
  rcases List.mem_append.mp hd with q | q
  · exact base_bq k d q
  · simp only [List.mem_cons, List.not_mem_nil, or_false] at q
    rcases q with rfl | rfl | rfl | rfl | rfl | rfl
    · exact up _ (bq_lst (by omega) h)
    · have := cut_sub xs none (some (-1))
      exact up _ (bq_tup (by omega) fun x hx => h x (this.2 x hx))
    · have := cut_sub xs (some (-1)) none
      exact up _ (bq_tup (by rw [List.length_append]; omega) fun x hx => (List.mem_append.mp hx).elim (h x) fun q => h x (this.2 x q))
    · have := cut_sub xs (some 1) none
      exact up _ (bq_tup (by omega) fun x hx => h x (this.2 x hx))
    · exact up _ (bq_tup (by rw [List.length_reverse]; omega) fun x hx => h x (List.mem_reverse.mp hx))
    · exact up _ (bq_tup (by rw [List.length_append, List.length_singleton]; omega) fun x hx => (List.mem_append.mp hx).elim (h x) fun q => by
        rw [List.mem_singleton.mp q]
        cases k <;> rfl)
noncomputable def bentA : SM := (sSeq (sSet 4 (mLst (mCons (mC .non) (mCons (mC (.bl true)) (mCons (mC (.bl false)) (mCons (mC (.int 0)) (mCons (mC (.int 1)) (mCons (mUn negD (mC (.int 1))) (mCons (mC (.int 9999)) (mCons (mC (.int 10000)) (mCons (mC (.str "p")) (mCons (mC (.str "a")) (mCons (mC (.str "")) (mCons (mC (.str "A")) (mCons (mTup mNil) (mCons (mLst mNil) (mCons (mTup (mCons (mC (.int 1)) mNil)) (mCons (mTup (mCons (mC (.str "a")) (mCons (mC (.str "b")) mNil))) (mCons (mTup (mCons (mC (.str "p")) (mCons (mC (.int 1)) (mCons (mTup mNil) mNil)))) mNil)))))))))))))))))))
    (sSeq (sIf (mTru (mCall isiD (mCons (mVar 2) (mCons (mC (.ty "tuple")) mNil)))) (sSet 4 (mBin addD (mVar 4) (mLst (mCons (mCall lstD (mCons (mVar 2) mNil)) (mCons (mSl (mVar 2) mNoP (mP (mUn negD (mC (.int 1))))) (mCons (mBin addD (mVar 2) (mSl (mVar 2) (mP (mUn negD (mC (.int 1)))) mNoP)) (mCons (mSl (mVar 2) (mP (mC (.int 1))) mNoP) (mCons (mUn revTD (mVar 2)) (mCons (mBin addD (mVar 2) (mTup (mCons (mC .non) mNil))) mNil))))))))) sNil)
    (sSeq (sIf (mTru (mCall isiD (mCons (mVar 2) (mCons (mC (.ty "int")) mNil)))) (sSet 4 (mBin addD (mVar 4) (mBin mulD (mLst (mCons (mBin addD (mVar 2) (mC (.int 1))) (mCons (mBin subD (mVar 2) (mC (.int 1))) (mCons (mUn notVD (mVar 2)) (mCons (mTup (mCons (mVar 2) mNil)) (mCons (mCall strD (mCons (mVar 2) mNil)) mNil)))))) (mC (.int 2))))) sNil)
    (sRet (mApp 3 FPick (mCons (mVar 0) (mCons (mVar 1) (mCons (mVar 4) mNil))))))))
theorem bent_eq (fu : Nat) (self : List D → Store → R D) : m__law_bent fu self = (sSeq (sIf (mOrT (mNotT (mTru (mCall isiD (mCons (mVar 2) (mCons (mC (.ty "tuple")) mNil))))) (mOrT (mNotT (mTru (mVar 2))) (mT (mBin eqD (mApp 3 FDraw (mCons (mVar 0) (mCons (mVar 1) (mCons (mC (.int 4)) mNil)))) (mC (.int 0)))))) bentA sNil)
    (sSeq (sSet 3 (mApp 3 FDraw (mCons (mVar 0) (mCons (mVar 1) (mCons (mCall lenD (mCons (mVar 2) mNil)) mNil)))))
    (sRet (mBin addD (mBin addD (mSl (mVar 2) mNoP (mP (mVar 3))) (mTup (mCons (mApp 3 self (mCons (mVar 0) (mCons (mVar 1) (mCons (mBin ixD (mVar 2) (mVar 3)) mNil)))) mNil))) (mSl (mVar 2) (mP (mBin addD (mVar 3) (mC (.int 1)))) mNoP))))) := rfl
/-- the list from which is picked -/
def some4 : D → List D
  | .tup xs => bentT xs
  | .int i => base ++ [.int (i + 1), .int (i - 1), .bl (!(i != 0)), .tup [.int i], .str (toString i : String), .int (i + 1), .int (i - 1), .bl (!(i != 0)), .tup [.int i], .str (toString i : String)]
  | _ => base
theorem some4_bq {k : Nat} {d : D} (h : Aq k d) : ∀ x ∈ some4 d, bq (k + 2) x = true := by
  cases h with
  | str _ => exact base_bq k
  | @int _ i h0 h1 =>
    have hi : i = 0 ∨ i = 1 ∨ i = 2 := by omega
    intro x hx
    have : (some4 (.int i)).all (bq 2) = true := by
      rcases hi with rfl | rfl | rfl <;> decide
    exact bq_mono 2 x (List.all_eq_true.mp this x hx) _ (by omega)
  | tup hl hx =>
    intro x h
    exact bq_mono _ x (bentT_bq hl (fun y hy => (hx y hy).bq) x h) _ (by omega)
theorem bentA_ok (h63 : ns.length ≤ 63) {k : Nat} {d : D} {y3 y4 : Option D} (h : Aq k d) (tw : Twn t n S) (hn : n ≤ 20000) :
    ∃ d' S' rho, bentA [some (.scr ns), some (.loc t), some d, y3, y4] S = .ok (.ret d') rho S' ∧ bq (k + 2) d' = true ∧ Twn t (n + 2) S' ∧ Dif t S S' := by
  have hb := some4_bq h
  obtain ⟨i, d', S', hi, tw', df, e⟩ := pick_tw (seq := .lst (some4 d)) h63 tw (by omega) (.inl rfl) (by
    cases h <;> simp [some4, bentT]) (fun m => (cloL_iff m _).mpr fun x hx => bq_clo m _ x (hb x hx))
  refine ⟨d', S', [some (.scr ns), some (.loc t), some d, y3, some (.lst (some4 d))], ?_, hb d' (List.mem_of_getElem? hi), tw', df⟩
  unfold bentA
  cases h with
  | @str _ x _ =>
    have e1 : isiD [.str x, .ty "tuple"] S = some (.bl false) := rfl
    have e2 : isiD [.str x, .ty "int"] S = some (.bl false) := rfl
    have e' : FPick [.scr ns, .loc t, .lst base] S = .ok d' S' := e
    simp [e1, e2, e', some4]
  | @int _ i h0 h1 =>
    have e1 : isiD [.int i, .ty "tuple"] S = some (.bl false) := rfl
    have e2 : isiD [.int i, .ty "int"] S = some (.bl true) := rfl
    have e3 : notVD (.int i) S = some (.bl (!(i != 0))) := rfl
    have e4 : strD [.int i] S = some (.str (toString i : String)) := if_pos ⟨by omega, by omega⟩
    have e' : FPick [.scr ns, .loc t, .lst (some4 (.int i))] S = .ok d' S' := e
    have e5 : mulD (.lst [.int (i + 1), .int (i - 1), .bl (!(i != 0)), .tup [.int i], .str (toString i : String)]) (.int 2) S = some (.lst [.int (i + 1), .int (i - 1), .bl (!(i != 0)), .tup [.int i], .str (toString i : String), .int (i + 1), .int (i - 1), .bl (!(i != 0)), .tup [.int i], .str (toString i : String)]) := rfl
    unfold some4 at e' ⊢
    simp [e1, e2, e3, e4, List.replicate]
    simp at e'
    simp [e']
  | @tup k xs hl hx =>
    have e1 : isiD [.tup xs, .ty "tuple"] S = some (.bl true) := rfl
    have e2 : isiD [.tup xs, .ty "int"] S = some (.bl false) := rfl
    have e' : FPick [.scr ns, .loc t, .lst (bentT xs)] S = .ok d' S' := e
    have e3 : lstD [.tup xs] S = some (.lst xs) := rfl
    have c1 := (cut_sub xs (some (-1)) none).1
    have l1 : xs.length + (cutL xs (some (-1)) none).length ≤ 100000 := by omega
    have l2 : xs.length + 1 ≤ 100000 := by omega
    unfold bentT at e'
    simp at e'
    simp [e1, e2, e3, l1, l2, e', some4, bentT]
theorem bent_ok (h63 : ns.length ≤ 63) : ∀ (j k : Nat), k < j → ∀ {n : Nat} {S : Store} (d : D), Aq k d → Twn t n S → n + 6 * j ≤ 20000 → ∃ d' S', F__law_bent fu j [.scr ns, .loc t, d] S = .ok d' S' ∧ bq (k + 2) d' = true ∧ Twn t (n + 6 * j) S' ∧ Dif t S S'
  | 0, k, hk, _, _, _, _, _, _ => absurd hk (Nat.not_lt_zero _)
  | j + 1, k, hk, n, S, d, h, tw, hn => by
    have wrap : ∀ {d' : D} {S' : Store} {rho : Dv.Env}, m__law_bent fu (F__law_bent fu j) [some (.scr ns), some (.loc t), some d, none, none] S = .ok (.ret d') rho S' → bq (k + 2) d' = true → Twn t (n + 6 * (j + 1)) S' → Dif t S S' → ∃ d' S', F__law_bent fu (j + 1) [.scr ns, .loc t, d] S = .ok d' S' ∧ bq (k + 2) d' = true ∧ Twn t (n + 6 * (j + 1)) S' ∧ Dif t S S' := fun {d' S' rho} e hb tw' df => by
      refine ⟨d', S', ?_, hb, tw', df⟩
      show finT S (m__law_bent fu (F__law_bent fu j) [some (.scr ns), some (.loc t), some d, none, none] S) = _
      rw [e]
      exact df.fin (bq_clo _ _ d' hb)
    rw [bent_eq] at wrap
    cases h with
    | @str _ x hx =>
      obtain ⟨d', S', rho, e, hb, tw', df⟩ := bentA_ok h63 (k := k) (y3 := none) (y4 := none) (.str hx) tw (by omega)
      have e1 : isiD [.str x, .ty "tuple"] S = some (.bl false) := rfl
      exact wrap (by simp [e1, e]; rfl) hb (tw'.mono (by omega)) df
    | @int _ i h0 h1 =>
      obtain ⟨d', S', rho, e, hb, tw', df⟩ := bentA_ok h63 (k := k) (y3 := none) (y4 := none) (.int h0 h1) tw (by omega)
      have e1 : isiD [.int i, .ty "tuple"] S = some (.bl false) := rfl
      exact wrap (by simp [e1, e]; rfl) hb (tw'.mono (by omega)) df
    | @tup k xs hl hx =>
      have e1 : isiD [.tup xs, .ty "tuple"] S = some (.bl true) := rfl
      by_cases c0 : xs = []
      · obtain ⟨d', S', rho, e, hb, tw', df⟩ := bentA_ok h63 (k := k + 1) (y3 := none) (y4 := none) (.tup hl hx) tw (by omega)
        subst c0
        exact wrap (by simp [e1, e]; rfl) hb (tw'.mono (by omega)) df
      · have c1 : xs.isEmpty = false := by cases xs with
          | nil => exact absurd rfl c0
          | cons => rfl
        obtain ⟨r, S1, hr, tw1, d1, e2⟩ := draw_tw (many := 4) h63 tw (by omega) (by decide)
        by_cases c2 : r = 0
        · subst c2
          obtain ⟨d', S', rho, e, hb, tw', df⟩ := bentA_ok h63 (k := k + 1) (y3 := none) (y4 := none) (.tup hl hx) tw1 (by omega)
          exact wrap (by simp [e1, e2, c1, e]; rfl) hb (tw'.mono (by omega)) (d1.trans df)
        · have hpos : 0 < xs.length := List.length_pos_iff.mpr c0
          obtain ⟨a, S2, ha, tw2, d2, e3⟩ := draw_tw (many := (xs.length : Int)) h63 tw1 (by omega) (by omega)
          have hax : a < xs.length := by omega
          obtain ⟨d', S3, e4, hb, tw3, d3⟩ := bent_ok h63 j k (by omega) xs[a] (hx _ (List.getElem_mem hax)) tw2 (by omega)
          have ix : atI xs (a : Int) = some xs[a] := atI_nat (List.getElem?_eq_getElem hax)
          have c2' : ¬ ((r : Int) = 0) := by omega
          have k1 := cut_sub xs none (some (a : Int))
          have k2 := cut_sub xs (some ((a : Int) + 1)) none
          have l1 : (cutL xs none (some (a : Int))).length + 1 ≤ 100000 := by omega
          have l2 : (cutL xs none (some (a : Int))).length + 1 + (cutL xs (some ((a : Int) + 1)) none).length ≤ 100000 := by omega
          have l3 : (cutL xs none (some (a : Int))).length + ((cutL xs (some ((a : Int) + 1)) none).length + 1) ≤ 100000 := by omega
          exact wrap (d' := .tup (cutL xs none (some (a : Int)) ++ [d'] ++ cutL xs (some ((a : Int) + 1)) none)) (by simp [e1, e2, c1, c2, c2', e3, ix, e4, l1, l2, l3]; rfl) (bq_tup (by simp only [List.length_append, List.length_singleton]; omega) fun x hx' => by
            rcases List.mem_append.mp hx' with q | q
            · rcases List.mem_append.mp q with q | q
              · exact bq_mono _ x (hx x (k1.2 x q)).bq _ (by omega)
              · rw [List.mem_singleton.mp q]
                exact bq_mono _ d' hb _ (by omega)
            · exact bq_mono _ x (hx x (k2.2 x q)).bq _ (by omega)) (tw3.mono (by omega)) ((d1.trans d2).trans d3)
end
end Law
namespace Law
open PySem L2 Dv
theorem Trm.aq {d : D} (h : Trm d) (k : Nat) : Aq k d := by
  rcases h with ⟨x, hx, rfl⟩ | ⟨i, h0, h1, rfl⟩
  · refine .str ?_
    simp at hx
    rcases hx with rfl | rfl | rfl | rfl <;> decide
  · exact .int h0 h1
theorem Atm.aq {a : D} (h : Atm a) : Aq 2 a := by
  obtain ⟨w, ts, rfl, hw, _, tl, ht⟩ := h
  refine .tup (by simp) fun x hx => ?_
  simp at hx
  rcases hx with rfl | rfl
  · refine .str ?_
    simp at hw
    rcases hw with rfl | rfl | rfl | rfl <;> decide
  · exact .tup (by omega) fun x hx => (ht x hx).aq 0
theorem Chk.aq {a : D} (h : Chk a) : Aq 2 a := by
  obtain ⟨s, x, z, rfl, hs, hx, hz⟩ := h
  refine .tup (by simp) fun y hy => ?_
  simp at hy
  rcases hy with rfl | rfl | rfl
  · refine .str ?_
    simp at hs
    rcases hs with rfl | rfl <;> decide
  · exact Trm.aq (.inl ⟨x, hx, rfl⟩) 1
  · exact hz.aq 1
theorem ask_aq {atoms checks : List D} (h1 : ∀ a ∈ atoms, Atm a) (h2 : ∀ c ∈ checks, Chk c) (l1 : atoms.length ≤ 4) (l2 : checks.length ≤ 2) : Aq 4 (.tup [.tup atoms, .tup checks]) := by
  refine .tup (by simp) fun x hx => ?_
  simp at hx
  rcases hx with rfl | rfl
  · exact .tup l1 fun x hx => (h1 x hx).aq
  · exact .tup (by omega) fun x hx => (h2 x hx).aq
/-- the things, so many at most, all plain -/
def Thg (L m : Nat) (S : Store) : Prop := 0 < L ∧ ∃ xs : List D, S[L]? = some (.lst xs) ∧ xs.length ≤ m ∧ ∀ x ∈ xs, bq 8 x = true
section
variable {S S' : Store} {ns : List Int} {n fu : Nat} {r : Dv.Env} {L m q : Nat}
theorem twn_app {t : Nat} {E : Store} (tw : Twn t n S) : Twn t n (S ++ E) := by
  obtain ⟨ts, a, b⟩ := tw
  exact ⟨ts, a, by rw [List.getElem?_append_left (List.getElem?_eq_some_iff.mp b).1]; exact b⟩
theorem Thg.dif (h : Thg L m S) (d : Dif 0 S S') : Thg L m S' := by
  obtain ⟨h0, xs, a, b, c⟩ := h
  exact ⟨h0, xs, by rw [d.other (by omega)]; exact a, b, c⟩
theorem cat_step {me : EM} {ys : List D} (h5 : r[5]? = some (some (.loc L))) (e : me r S = .ok (.lst ys) S') (th : Thg L m S') (tw : Twn 0 n S') (hy : ∀ y ∈ ys, bq 8 y = true) (hl : ys.length ≤ q) (hm : m + q ≤ 1000) :
    ∃ S2 L2, sSet 5 (mBinN catN (mVar 5) me) r S = .ok .next (r.set 5 (some (.loc L2))) S2 ∧ Thg L2 (m + q) S2 ∧ Twn 0 n S2 := by
  obtain ⟨h0, xs, a, b, c⟩ := th
  refine ⟨S' ++ [.lst (xs ++ ys)], S'.length, ?_, ⟨?_, xs ++ ys, last_at _, by rw [List.length_append]; omega, fun x hx => (List.mem_append.mp hx).elim (c x) (hy x)⟩, twn_app tw⟩
  · have l : xs.length + ys.length ≤ 100000 := by omega
    have ec : catN (.loc L) (.lst ys) S' = some (xs ++ ys) := by
      unfold catN
      simp [a, l]
    simp only [sSet_ap, mBinN_ap, mVar_ap, h5, rb_ok, e, ec, newO_some, bs_ok]
  · have := (List.getElem?_eq_some_iff.mp a).1
    omega
theorem app_step {me : EM} {d : D} (h5 : r[5]? = some (some (.loc L))) (e : me r S = .ok d S) (th : Thg L m S) (tw : Twn 0 n S) (hy : bq 8 d = true) (hm : m + 1 ≤ 1000) :
    ∃ S2, sDrop (mAppend (mVar 5) me) r S = .ok .next r S2 ∧ Thg L (m + 1) S2 ∧ Twn 0 n S2 := by
  obtain ⟨h0, xs, a, b, c⟩ := th
  have l : xs.length < 100000 := by omega
  refine ⟨List.set S L (.lst (xs ++ [d])), ?_, ⟨h0, xs ++ [d], gs a _, by rw [List.length_append, List.length_singleton]; omega, fun x hx => (List.mem_append.mp hx).elim (c x) fun q => by rw [List.mem_singleton.mp q]; exact hy⟩, ?_⟩
  · simp only [sDrop_ap, mAppend_ap, mVar_ap, h5, rb_ok, isLoc_ap, a, if_true, e, appD_ap, l, bs_ok]
  · obtain ⟨ts, x, y⟩ := tw
    exact ⟨ts, x, by rw [List.getElem?_set_ne (by omega)]; exact y⟩
/-- the frame of the law within a round -/
abbrev ev (ns : List Int) (y2 : Option D) (bk : D) (at' ck : List D) (L : Nat) (y6 y7 y8 y9 : Option D) (wo : Str) (wi : Int) (rw' : D) (y15 y16 : Option D) : Dv.Env :=
  [some (.scr ns), some (.loc 0), y2, some bk, some (.tup [.tup at', .tup ck]), some (.loc L), y6, y7, y8, y9, some (.tup at'), some (.tup ck), some (.str wo), some (.int wi), some rw', y15, y16]
noncomputable def law1 : SM := (sSet 5 (mNewL (mCons (mVar 4) (mCons (mTup (mCons (mVar 10) mNil)) (mCons (mTup (mCons (mVar 11) (mCons (mVar 10) mNil))) (mCons (mCall lstD (mCons (mVar 4) mNil)) (mCons (mC .non) (mCons (mTup (mCons (mTup mNil) (mCons (mTup mNil) mNil))) mNil))))))))
noncomputable def law2 : SM := (sSet 5 (mBinN catN (mVar 5) (mLst (mCons (mTup (mCons (mCall lstD (mCons (mVar 10) mNil)) (mCons (mVar 11) mNil))) (mCons (mTup (mCons (mVar 10) (mCons (mCall lstD (mCons (mVar 11) mNil)) mNil))) mNil)))))
noncomputable def law3 : SM := (sSet 6 (mLst (mCons (mTup (mCons (mVar 12) (mCons (mBin mulTD (mTup (mCons (mC (.str "a")) mNil)) (mBin addD (mVar 13) (mC (.int 1)))) mNil))) (mCons (mTup (mCons (mVar 12) (mCons (mBin mulTD (mTup (mCons (mC (.str "a")) mNil)) (mVar 13)) mNil))) (mCons (mTup (mCons (mC (.str "zz")) (mCons (mTup (mCons (mC (.str "a")) mNil)) mNil))) mNil)))))
noncomputable def law4 : SM := (sSet 6 (mBin addD (mVar 6) (mLst (mCons (mTup (mCons (mVar 12) (mCons (mBin mulTD (mTup (mCons (mC (.int 1)) mNil)) (mVar 13)) mNil))) (mCons (mTup (mCons (mVar 12) (mCons (mBin mulTD (mTup (mCons (mC (.str "A")) mNil)) (mVar 13)) mNil))) mNil)))))
noncomputable def law5B : SM := (sSet 5 (mBinN catN (mVar 5) (mLst (mCons (mTup (mCons (mBin addD (mVar 10) (mTup (mCons (mVar 7) mNil))) (mCons (mVar 11) mNil))) (mCons (mTup (mCons (mTup (mCons (mVar 7) mNil)) (mCons (mTup mNil) mNil))) mNil)))))
noncomputable def law6 : SM := (sSet 8 (mLst (mCons (mTup (mCons (mC (.str "less")) (mCons (mC (.str "a")) (mCons (mC (.int 1)) mNil)))) (mCons (mTup (mCons (mC (.str "less")) (mCons (mC (.int 1)) (mCons (mC (.int 2)) mNil)))) (mCons (mTup (mCons (mC (.str "more")) (mCons (mC (.str "a")) (mCons (mC (.str "a")) mNil)))) mNil)))))
noncomputable def law7 : SM := (sSet 8 (mBin addD (mVar 8) (mLst (mCons (mTup (mCons (mC (.str "unlike")) (mCons (mC (.str "e")) (mCons (mC (.str "a")) mNil)))) (mCons (mTup (mCons (mC (.str "less")) (mCons (mC (.str "a")) mNil))) (mCons (mTup (mCons (mC (.str "less")) (mCons (mC (.str "a")) (mCons (mC (.int 10000)) mNil)))) mNil))))))
noncomputable def law8B : SM := (sDrop (mAppend (mVar 5) (mTup (mCons (mVar 10) (mCons (mBin addD (mVar 11) (mTup (mCons (mVar 9) mNil))) mNil)))))
noncomputable def law9 : SM := (sSet 5 (mBinN catN (mVar 5) (mLst (mCons (mTup (mCons (mVar 10) (mCons (mTup (mCons (mTup (mCons (mC (.str "less")) (mCons (mC (.bl true)) (mCons (mC (.str "a")) mNil)))) mNil)) mNil))) (mCons (mTup (mCons (mVar 10) (mCons (mTup (mCons (mTup (mCons (mC (.str "unlike")) (mCons (mC (.str "a")) (mCons (mC .non) mNil)))) mNil)) mNil))) mNil)))))
noncomputable def law10 : SM := (sSet 5 (mBinN catN (mVar 5) (mLst (mCons (mTup (mCons (mTup (mCons (mTup (mCons (mVar 12) (mCons (mBin mulTD (mLst (mCons (mC (.str "a")) mNil)) (mVar 13)) mNil))) mNil)) (mCons (mTup mNil) mNil))) mNil))))
noncomputable def law11 (fu : Nat) : SM := (sSet 5 (mBinN catN (mVar 5) (mLc (mRng1 (mCons (mC (.int 10)) mNil)) [15] (tgN 15) mYes (mApp 3 (F__law_bent fu 7) (mCons (mVar 0) (mCons (mVar 1) (mCons (mVar 4) mNil)))))))
noncomputable def law12 (fu : Nat) : SM := (sIf (mNotT (mTru (mCall allD (mCons (mLcG false (mIterG (mVar 5)) [16] (tgN 16) mYes (mApp 2 (F__law_same fu 4) (mCons (mApp 2 (F_is_ask fu) (mCons (mVar 3) (mCons (mVar 16) mNil))) (mCons (mApp 2 (F__law_is_ask fu) (mCons (mVar 3) (mCons (mVar 16) mNil))) mNil)))) mNil)))) (sRet (mC (.bl false))) sNil)
noncomputable def law0 (fu : Nat) (k : SM) : SM := (sSeq (sSet 3 (mApp 4 (F__law_drawn_book fu) (mCons (mVar 0) (mCons (mVar 1) (mCons (mC (.int 4)) (mCons (mC (.int 4)) mNil))))))
    (sSeq (sSet 4 (mApp 4 (F__law_drawn_ask fu) (mCons (mVar 0) (mCons (mVar 1) (mCons (mVar 3) (mCons (mC (.int 4)) mNil))))))
    (sSeq (sIf (mNotT (mTru (mApp 2 (F__law_same fu 4) (mCons (mApp 1 (F_names_of fu) (mCons (mVar 4) mNil)) (mCons (mCall tupD (mCons (mApp 1 (F__law_names fu) (mCons (mVar 4) mNil)) mNil)) mNil))))) (sRet (mC (.bl false))) sNil)
    (sSeq (sAsg (mVar 4) (tgT 2 (tgsCons (tgN 10) (tgsCons (tgN 11) tgsNil))))
    (sSeq (sAsg (mBin ixD (mVar 3) (mC (.int 0))) (tgT 3 (tgsCons (tgN 12) (tgsCons (tgN 13) (tgsCons (tgN 14) tgsNil))))) k)))))
noncomputable def lawB (fu : Nat) : SM := law0 fu (sSeq law1 (sSeq law2 (sSeq law3 (sSeq law4 (sSeq (sFor (mIter (mVar 6)) (tgN 7) law5B) (sSeq law6 (sSeq law7 (sSeq (sFor (mIter (mVar 8)) (tgN 9) law8B) (sSeq law9 (sSeq law10 (sSeq (law11 fu) (law12 fu))))))))))))
theorem law_eq (fu : Nat) : m_law fu = (sSeq (sSet 1 (mNewL mNil)) (sSeq (sFor (mRng1 (mCons (mC (.int 6)) mNil)) (tgN 2) (lawB fu)) (sRet (mC (.bl true))))) := rfl
variable {y2 y6 y7 y8 y9 y15 y16 : Option D} {bk rw' : D} {at' ck : List D} {wo : Str} {wi : Int}
/-- the parts are plain -/
structure Pt (at' ck : List D) (wo : Str) : Prop where
  a : ∀ x ∈ at', bq 2 x = true
  al : at'.length ≤ 4
  c : ∀ x ∈ ck, bq 2 x = true
  cl : ck.length ≤ 2
  w : wo.length ≤ 50
theorem Pt.at7 (p : Pt at' ck wo) (j : Nat) : bq (j + 3) (.tup at') = true := bq_tup (by have := p.al; omega) fun x hx => bq_mono _ x (p.a x hx) _ (by omega)
theorem Pt.ck7 (p : Pt at' ck wo) (j : Nat) : bq (j + 3) (.tup ck) = true := bq_tup (by have := p.cl; omega) fun x hx => bq_mono _ x (p.c x hx) _ (by omega)
theorem bq_pair {k : Nat} {a b : D} (ha : bq k a = true) (hb : bq k b = true) : bq (k + 1) (.tup [a, b]) = true := bq_tup (by simp) fun x hx => by
  simp at hx
  rcases hx with rfl | rfl
  · exact ha
  · exact hb
theorem bq_sing {k : Nat} {a : D} (ha : bq k a = true) : bq (k + 1) (.tup [a]) = true := bq_tup (by simp) fun x hx => by
  simp at hx
  subst hx
  exact ha
theorem law1_ok (p : Pt at' ck wo) (tw : Twn 0 n S) {y5 : Option D} : ∃ S2 L2, law1 [some (.scr ns), some (.loc 0), y2, some bk, some (.tup [.tup at', .tup ck]), y5, y6, y7, y8, y9, some (.tup at'), some (.tup ck), some (.str wo), some (.int wi), some rw', y15, y16] S = .ok .next (ev ns y2 bk at' ck L2 y6 y7 y8 y9 wo wi rw' y15 y16) S2 ∧ Thg L2 6 S2 ∧ Twn 0 n S2 := by
  have hS : 0 < S.length := by
    obtain ⟨ts, a, b⟩ := tw
    exact (List.getElem?_eq_some_iff.mp b).1
  refine ⟨_, S.length, ?_, ⟨hS, [.tup [.tup at', .tup ck], .tup [.tup at'], .tup [.tup ck, .tup at'], .lst [.tup at', .tup ck], .non, .tup [.tup [], .tup []]], last_at _, by simp, fun x hx => ?_⟩, twn_app tw⟩
  · have e : lstD [.tup [.tup at', .tup ck]] S = some (.lst [.tup at', .tup ck]) := rfl
    unfold law1
    simp [e]
  · simp only [List.mem_cons, List.not_mem_nil, or_false] at hx
    rcases hx with rfl | rfl | rfl | rfl | rfl | rfl
    · exact bq_pair (p.at7 4) (p.ck7 4)
    · exact bq_sing (p.at7 4)
    · exact bq_pair (p.ck7 4) (p.at7 4)
    · refine bq_lst (by simp) fun x hx => ?_
      simp at hx
      rcases hx with rfl | rfl
      · exact p.at7 4
      · exact p.ck7 4
    · rfl
    · rfl
theorem law2_ok (p : Pt at' ck wo) (th : Thg L 6 S) (tw : Twn 0 n S) : ∃ S2 L2, law2 (ev ns y2 bk at' ck L y6 y7 y8 y9 wo wi rw' y15 y16) S = .ok .next (ev ns y2 bk at' ck L2 y6 y7 y8 y9 wo wi rw' y15 y16) S2 ∧ Thg L2 8 S2 ∧ Twn 0 n S2 := by
  have e1 : lstD [.tup at'] S = some (.lst at') := rfl
  have e2 : lstD [.tup ck] S = some (.lst ck) := rfl
  obtain ⟨S2, L2, e, a, b⟩ := cat_step (r := ev ns y2 bk at' ck L y6 y7 y8 y9 wo wi rw' y15 y16) (S := S) (S' := S) (me := (mLst (mCons (mTup (mCons (mCall lstD (mCons (mVar 10) mNil)) (mCons (mVar 11) mNil))) (mCons (mTup (mCons (mVar 10) (mCons (mCall lstD (mCons (mVar 11) mNil)) mNil))) mNil)))) (ys := [.tup [.lst at', .tup ck], .tup [.tup at', .lst ck]]) (q := 2) rfl (by simp [e1, e2]) th tw (fun y hy => by
    simp at hy
    have la : bq 7 (.lst at') = true := bq_lst (by have := p.al; omega) fun x hx => bq_mono _ x (p.a x hx) _ (by omega)
    have lk : bq 7 (.lst ck) = true := bq_lst (by have := p.cl; omega) fun x hx => bq_mono _ x (p.c x hx) _ (by omega)
    rcases hy with rfl | rfl
    · exact bq_pair la (p.ck7 4)
    · exact bq_pair (p.at7 4) lk) (by simp) (by omega)
  exact ⟨S2, L2, e, a, b⟩
theorem rep_str (x : D) (k : Nat) : ∀ y ∈ (List.replicate k [x]).flatten, y = x := fun y hy => by
  obtain ⟨l, h1, h2⟩ := List.mem_flatten.mp hy
  rw [(List.mem_replicate.mp h1).2] at h2
  exact List.mem_singleton.mp h2
theorem rep_mul (x : D) (w : Nat) (h1 : 1 ≤ w) (h4 : w ≤ 4) : ∃ xs : List D, xs.length ≤ 4 ∧ (∀ y ∈ xs, y = x) ∧ mulTD (.tup [x]) (.int w) S = some (.tup xs) := by
  by_cases c : w = 1
  · subst c
    exact ⟨[x], by simp, by simp, rfl⟩
  · refine ⟨(List.replicate w [x]).flatten, by simp; omega, rep_str x w, ?_⟩
    show (if (w : Int) = 1 then some (D.tup [x]) else if 2 ≤ (w : Int) ∧ (w : Int) ≤ 1000 ∧ [x] ≠ [] ∧ [x].length ≤ 90 then some (.tup (List.replicate (w : Int).toNat [x]).flatten) else none) = _
    rw [if_neg (by omega), if_pos ⟨by omega, by omega, by simp, by simp⟩]
    rfl
theorem bq_str {k : Nat} {x : Str} (h : x.length ≤ 50) : bq k (.str x) = true := by cases k <;> exact decide_eq_true h
theorem bq_rep {k : Nat} {xs : List D} {x : D} (hl : xs.length ≤ 4) (h : ∀ y ∈ xs, y = x) (hx : bq k x = true) : bq (k + 1) (.tup xs) = true := bq_tup (by omega) fun y hy => by rw [h y hy]; exact hx
theorem law34_ok (p : Pt at' ck wo) {w : Nat} (h1 : 1 ≤ w) (h3 : w ≤ 3) : ∃ ys, (sSeq law3 law4) (ev ns y2 bk at' ck L y6 y7 y8 y9 wo w rw' y15 y16) S = .ok .next (ev ns y2 bk at' ck L (some (.lst ys)) y7 y8 y9 wo w rw' y15 y16) S ∧ ys.length = 5 ∧ ∀ y ∈ ys, bq 2 y = true := by
  obtain ⟨x1, l1, a1, e1⟩ := rep_mul (S := S) (.str "a") (w + 1) (by omega) (by omega)
  obtain ⟨x2, l2, a2, e2⟩ := rep_mul (S := S) (.str "a") w (by omega) (by omega)
  obtain ⟨x3, l3, a3, e3⟩ := rep_mul (S := S) (.int 1) w (by omega) (by omega)
  obtain ⟨x4, l4, a4, e4⟩ := rep_mul (S := S) (.str "A") w (by omega) (by omega)
  refine ⟨[.tup [.str wo, .tup x1], .tup [.str wo, .tup x2], .tup [.str "zz", .tup [.str "a"]], .tup [.str wo, .tup x3], .tup [.str wo, .tup x4]], ?_, rfl, fun y hy => ?_⟩
  · have e1' : mulTD (.tup [.str "a"]) (.int ((w : Int) + 1)) S = some (.tup x1) := e1
    unfold law3 law4
    simp [e1', e2, e3, e4]
  · simp only [List.mem_cons, List.not_mem_nil, or_false] at hy
    have q := p.w
    rcases hy with rfl | rfl | rfl | rfl | rfl
    · exact bq_pair (bq_str q) (bq_rep l1 a1 rfl)
    · exact bq_pair (bq_str q) (bq_rep l2 a2 rfl)
    · rfl
    · exact bq_pair (bq_str q) (bq_rep l3 a3 rfl)
    · exact bq_pair (bq_str q) (bq_rep l4 a4 rfl)
theorem law5_loop (p : Pt at' ck wo) : ∀ (ys : List D) {S : Store} {L m : Nat} (y7 : Option D), (∀ y ∈ ys, bq 2 y = true) → Thg L m S → Twn 0 n S → m + 2 * ys.length ≤ 500 →
    ∃ S2 L2 y7', sLoop (tgN 7) law5B ys (ev ns y2 bk at' ck L y6 y7 y8 y9 wo wi rw' y15 y16) S = .ok .next (ev ns y2 bk at' ck L2 y6 y7' y8 y9 wo wi rw' y15 y16) S2 ∧ Thg L2 (m + 2 * ys.length) S2 ∧ Twn 0 n S2
  | [], S, L, m, y7, _, th, tw, _ => ⟨S, L, y7, rfl, th, tw⟩
  | y :: ys, S, L, m, y7, hy, th, tw, hm => by
    have hb := hy y List.mem_cons_self
    have la : at'.length + 1 ≤ 100000 := by have := p.al; omega
    obtain ⟨S2, L2, e, a, b⟩ := cat_step (r := ev ns y2 bk at' ck L y6 (some y) y8 y9 wo wi rw' y15 y16) (S := S) (S' := S) (me := (mLst (mCons (mTup (mCons (mBin addD (mVar 10) (mTup (mCons (mVar 7) mNil))) (mCons (mVar 11) mNil))) (mCons (mTup (mCons (mTup (mCons (mVar 7) mNil)) (mCons (mTup mNil) mNil))) mNil)))) (ys := [.tup [.tup (at' ++ [y]), .tup ck], .tup [.tup [y], .tup []]]) (q := 2) rfl (by simp [la]) th tw (fun z hz => by
      simp at hz
      rcases hz with rfl | rfl
      · refine bq_pair (bq_tup (by rw [List.length_append, List.length_singleton]; have := p.al; omega) fun x hx => ?_) (p.ck7 4)
        rcases List.mem_append.mp hx with q | q
        · exact bq_mono _ x (p.a x q) _ (by omega)
        · rw [List.mem_singleton.mp q]
          exact bq_mono _ y hb _ (by omega)
      · exact bq_pair (bq_sing (bq_mono _ y hb _ (by omega))) rfl) (by simp) (by simp at hm; omega)
    have e' : law5B (ev ns y2 bk at' ck L y6 (some y) y8 y9 wo wi rw' y15 y16) S = .ok .next (ev ns y2 bk at' ck L2 y6 (some y) y8 y9 wo wi rw' y15 y16) S2 := e
    rw [loop_step (r := ev ns y2 bk at' ck L y6 y7 y8 y9 wo wi rw' y15 y16) rfl e']
    obtain ⟨S3, L3, y7', e3, a3, b3⟩ := law5_loop p ys (some y) (fun z hz => hy z (List.mem_cons_of_mem _ hz)) a b (by simp at hm; omega)
    refine ⟨S3, L3, y7', e3, ?_, b3⟩
    rw [List.length_cons, show m + 2 * (ys.length + 1) = m + 2 + 2 * ys.length by omega]
    exact a3
abbrev eachB : List D := [.tup [.str "less", .str "a", .int 1], .tup [.str "less", .int 1, .int 2], .tup [.str "more", .str "a", .str "a"], .tup [.str "unlike", .str "e", .str "a"], .tup [.str "less", .str "a"], .tup [.str "less", .str "a", .int 10000]]
theorem law67_ok : (sSeq law6 law7) (ev ns y2 bk at' ck L y6 y7 y8 y9 wo wi rw' y15 y16) S = .ok .next (ev ns y2 bk at' ck L y6 y7 (some (.lst eachB)) y9 wo wi rw' y15 y16) S := by
  unfold law6 law7
  simp
theorem law8_loop (p : Pt at' ck wo) : ∀ (ys : List D) {S : Store} {m : Nat} (y9 : Option D), (∀ y ∈ ys, bq 2 y = true) → Thg L m S → Twn 0 n S → m + ys.length ≤ 500 →
    ∃ S2 y9', sLoop (tgN 9) law8B ys (ev ns y2 bk at' ck L y6 y7 y8 y9 wo wi rw' y15 y16) S = .ok .next (ev ns y2 bk at' ck L y6 y7 y8 y9' wo wi rw' y15 y16) S2 ∧ Thg L (m + ys.length) S2 ∧ Twn 0 n S2
  | [], S, m, y9, _, th, tw, _ => ⟨S, y9, rfl, th, tw⟩
  | y :: ys, S, m, y9, hy, th, tw, hm => by
    have hb := hy y List.mem_cons_self
    have la : ck.length + 1 ≤ 100000 := by have := p.cl; omega
    obtain ⟨S2, e, a, b⟩ := app_step (r := ev ns y2 bk at' ck L y6 y7 y8 (some y) wo wi rw' y15 y16) (S := S) (me := (mTup (mCons (mVar 10) (mCons (mBin addD (mVar 11) (mTup (mCons (mVar 9) mNil))) mNil)))) (d := .tup [.tup at', .tup (ck ++ [y])]) rfl (by simp [la]) th tw (bq_pair (p.at7 4) (bq_tup (by rw [List.length_append, List.length_singleton]; have := p.cl; omega) fun x hx => by
        rcases List.mem_append.mp hx with q | q
        · exact bq_mono _ x (p.c x q) _ (by omega)
        · rw [List.mem_singleton.mp q]
          exact bq_mono _ y hb _ (by omega))) (by simp at hm; omega)
    have e' : law8B (ev ns y2 bk at' ck L y6 y7 y8 (some y) wo wi rw' y15 y16) S = .ok .next (ev ns y2 bk at' ck L y6 y7 y8 (some y) wo wi rw' y15 y16) S2 := e
    rw [loop_step (r := ev ns y2 bk at' ck L y6 y7 y8 y9 wo wi rw' y15 y16) rfl e']
    obtain ⟨S3, y9', e3, a3, b3⟩ := law8_loop p ys (some y) (fun z hz => hy z (List.mem_cons_of_mem _ hz)) a b (by simp at hm; omega)
    refine ⟨S3, y9', e3, ?_, b3⟩
    rw [List.length_cons, show m + (ys.length + 1) = m + 1 + ys.length by omega]
    exact a3
theorem law9_ok (p : Pt at' ck wo) (th : Thg L m S) (tw : Twn 0 n S) (hm : m ≤ 500) : ∃ S2 L2, law9 (ev ns y2 bk at' ck L y6 y7 y8 y9 wo wi rw' y15 y16) S = .ok .next (ev ns y2 bk at' ck L2 y6 y7 y8 y9 wo wi rw' y15 y16) S2 ∧ Thg L2 (m + 2) S2 ∧ Twn 0 n S2 := by
  obtain ⟨S2, L2, e, a, b⟩ := cat_step (r := ev ns y2 bk at' ck L y6 y7 y8 y9 wo wi rw' y15 y16) (S := S) (S' := S) (me := (mLst (mCons (mTup (mCons (mVar 10) (mCons (mTup (mCons (mTup (mCons (mC (.str "less")) (mCons (mC (.bl true)) (mCons (mC (.str "a")) mNil)))) mNil)) mNil))) (mCons (mTup (mCons (mVar 10) (mCons (mTup (mCons (mTup (mCons (mC (.str "unlike")) (mCons (mC (.str "a")) (mCons (mC .non) mNil)))) mNil)) mNil))) mNil)))) (ys := [.tup [.tup at', .tup [.tup [.str "less", .bl true, .str "a"]]], .tup [.tup at', .tup [.tup [.str "unlike", .str "a", .non]]]]) (q := 2) rfl (by simp) th tw (fun y hy => by
    simp at hy
    rcases hy with rfl | rfl
    · exact bq_pair (p.at7 4) rfl
    · exact bq_pair (p.at7 4) rfl) (by simp) (by omega)
  exact ⟨S2, L2, e, a, b⟩
theorem law10_ok (p : Pt at' ck wo) {w : Nat} (h1 : 1 ≤ w) (h3 : w ≤ 3) (th : Thg L m S) (tw : Twn 0 n S) (hm : m ≤ 500) : ∃ S2 L2, law10 (ev ns y2 bk at' ck L y6 y7 y8 y9 wo w rw' y15 y16) S = .ok .next (ev ns y2 bk at' ck L2 y6 y7 y8 y9 wo w rw' y15 y16) S2 ∧ Thg L2 (m + 1) S2 ∧ Twn 0 n S2 := by
  have em : mulTD (.lst [.str "a"]) (.int w) S = some (.lst (List.replicate w [D.str "a"]).flatten) := by
    show mulD (.lst [.str "a"]) (.int w) S = _
    rw [mulD_lst, if_pos ⟨by omega, by omega, by simp; omega⟩]
    rfl
  obtain ⟨S2, L2, e, a, b⟩ := cat_step (r := ev ns y2 bk at' ck L y6 y7 y8 y9 wo w rw' y15 y16) (S := S) (S' := S) (me := (mLst (mCons (mTup (mCons (mTup (mCons (mTup (mCons (mVar 12) (mCons (mBin mulTD (mLst (mCons (mC (.str "a")) mNil)) (mVar 13)) mNil))) mNil)) (mCons (mTup mNil) mNil))) mNil))) (ys := [.tup [.tup [.tup [.str wo, .lst (List.replicate w [D.str "a"]).flatten]], .tup []]]) (q := 1) rfl (by simp [em]) th tw (fun y hy => by
    rw [List.mem_singleton.mp hy]
    refine bq_pair (bq_sing (bq_pair (bq_str p.w) (bq_lst (by simp; omega) fun x hx => ?_))) rfl
    rw [rep_str _ _ x hx]
    rfl) (by simp) (by omega)
  exact ⟨S2, L2, e, a, b⟩
theorem law11_ok (h63 : ns.length ≤ 63) (ha : Aq 4 (.tup [.tup at', .tup ck])) (th : Thg L m S) (tw : Twn 0 n S) (hm : m ≤ 500) (hn : n ≤ 10000) : ∃ S2 L2, law11 fu (ev ns y2 bk at' ck L y6 y7 y8 y9 wo wi rw' y15 y16) S = .ok .next (ev ns y2 bk at' ck L2 y6 y7 y8 y9 wo wi rw' y15 y16) S2 ∧ Thg L2 (m + 10) S2 ∧ Twn 0 (n + 420) S2 := by
  obtain ⟨ys, S', e, h1, h2, h3, h4⟩ := lc_inv (gm := tgN 15) (te := mApp 3 (F__law_bent fu 7) (mCons (mVar 0) (mCons (mVar 1) (mCons (mVar 4) mNil)))) (r0 := ev ns y2 bk at' ck L y6 y7 y8 y9 wo wi rw' none y16)
    (fun i zs S' => (zs.length = i ∧ i ≤ 10) ∧ (∀ z ∈ zs, bq 8 z = true) ∧ Twn 0 (n + 42 * i) S' ∧ Dif 0 S S') (rng 0 10) 0 [] S (fun i d zs S1 hd hi => by
      obtain ⟨hi2, rfl⟩ := rng_get hd
      obtain ⟨⟨q1, q2⟩, q3, q4, q5⟩ := hi
      obtain ⟨d', S2, e2, hb, tw2, d2⟩ := bent_ok (fu := fu) (t := 0) h63 7 4 (by omega) _ ha q4 (by omega)
      refine ⟨_, d', S2, rfl, by simp [e2], ⟨by simp [q1], by omega⟩, fun z hz => ?_, tw2.mono (by omega), q5.trans d2⟩
      rcases List.mem_append.mp hz with q | q
      · exact q3 z q
      · rw [List.mem_singleton.mp q]
        exact bq_mono _ d' hb _ (by omega)) ⟨⟨rfl, Nat.zero_le _⟩, (by intro z hz; cases hz), tw.mono (by omega), tw.dif⟩
  rw [rng_len, Nat.zero_add] at h1 h3
  simp only [List.nil_append] at h1 h2
  obtain ⟨S2, L2, e2, a, b⟩ := cat_step (n := n + 420) (r := ev ns y2 bk at' ck L y6 y7 y8 y9 wo wi rw' y15 y16) (S := S) (S' := S') (me := (mLc (mRng1 (mCons (mC (.int 10)) mNil)) [15] (tgN 15) mYes (mApp 3 (F__law_bent fu 7) (mCons (mVar 0) (mCons (mVar 1) (mCons (mVar 4) mNil)))))) (ys := ys) (q := 10) rfl (by
    have rg : rng1 [.int 10] = some (rng 0 10) := rfl
    simp [rg, e, -rng1_int]) (th.dif h4) (h3.mono (by omega)) h2 (by omega) (by omega)
  exact ⟨S2, L2, e2, a, b⟩
theorem law12_ok {tb : List (Str × Int × D)} (htb : tb.length ≤ 100) (th : Thg L m S) (hm : m ≤ 500) : law12 fu (ev ns y2 (.tup (tb.map tbD)) at' ck L y6 y7 y8 y9 wo wi rw' y15 y16) S = .ok .next (ev ns y2 (.tup (tb.map tbD)) at' ck L y6 y7 y8 y9 wo wi rw' y15 y16) S := by
  obtain ⟨h0, xs, a, b, c⟩ := th
  have sg : seqG (.loc L) S = some (xs, gIs L xs) := by
    unfold seqG
    simp only [a]
  have lc : lcG (gIs L xs) (tgN 16) mYes (mApp 2 (F__law_same fu 4) (mCons (mApp 2 (F_is_ask fu) (mCons (mVar 3) (mCons (mVar 16) mNil))) (mCons (mApp 2 (F__law_is_ask fu) (mCons (mVar 3) (mCons (mVar 16) mNil))) mNil))) (ev ns y2 (.tup (tb.map tbD)) at' ck L y6 y7 y8 y9 wo wi rw' y15 none) xs S = .ok ((xs.map fun _ => true).map D.bl) S := by
    rw [lcG_map (fun _ => .bl true) (gIs_ap a) xs fun d hd => by
      have hb := c d hd
      have hp := bq_pn 8 d hb
      have hs : ∀ as c, d = .tup [.tup as, c] → as.length ≤ 80 := fun as c e => by
        subst e
        obtain ⟨j, e1, _, hx⟩ := bq_tup_of hb
        obtain ⟨i, e2, hl, _⟩ := bq_tup_of (hx (.tup as) (by simp))
        omega
      have e1 := ask_ok (S := S) (fu := fu) htb hp hs
      have e2 := hask_ok (S := S) (fu := fu) htb hp hs
      have e3 := same_self (S := S) (fu := fu) (d := .bl (askB (wds tb) d)) rfl
      exact ⟨_, rfl, by simp [e1, e2, e3]⟩, List.map_map]
    rfl
  have al := allD_bls (S := S) (xs.map fun _ => true)
  have at1 : (xs.map fun _ => true).all id = true := by simp
  rw [at1] at al
  unfold law12
  simp [sg, lc, al, -List.map_map]
end
end Law
namespace Law
open PySem L2 Dv
section
variable {S : Store} {ns : List Int} {n fu : Nat}
variable {y2 y3 y4 y5 y6 y7 y8 y9 y10 y11 y12 y13 y14 y15 y16 : Option D}
theorem seq_ok {a b : SM} {r r1 : Dv.Env} {S1 : Store} (h : a r S = .ok .next r1 S1) : sSeq a b r S = b r1 S1 := by
  rw [sSeq_ap, h]
theorem lawB_ok (h63 : ns.length ≤ 63) (tw : Twn 0 n S) (hn : n ≤ 5000) :
    ∃ S' r', lawB fu [some (.scr ns), some (.loc 0), y2, y3, y4, y5, y6, y7, y8, y9, y10, y11, y12, y13, y14, y15, y16] S = .ok .next r' S' ∧ (∃ z2 z3 z4 z5 z6 z7 z8 z9 z10 z11 z12 z13 z14 z15 z16, r' = [some (.scr ns), some (.loc 0), z2, z3, z4, z5, z6, z7, z8, z9, z10, z11, z12, z13, z14, z15, z16]) ∧ Twn 0 (n + 700) S' := by
  obtain ⟨tb, S1, e1, htb, hne, htl, tw1, d1⟩ := book_ok (fu := fu) h63 tw (by omega)
  obtain ⟨atoms, checks, S2, e2, ha, hc, hane, hal, hcl, tw2, d2⟩ := draw_ask_ok (fu := fu) h63 htb hne tw1 (by omega)
  have aq := ask_aq ha hc hal hcl
  obtain ⟨x, tbr, rfl⟩ : ∃ x r, tb = x :: r := by
    cases tb with
    | nil => exact absurd rfl hne
    | cons a b => exact ⟨a, b, rfl⟩
  obtain ⟨hxw, ⟨w, w1, w3, hxn⟩, rows, hxr⟩ := htb x List.mem_cons_self
  have pt' : Pt atoms checks x.1 := ⟨fun a h => (ha a h).aq.bq, hal, fun a h => (hc a h).aq.bq, hcl, by
    simp at hxw
    rcases hxw with q | q | q | q <;> rw [q] <;> decide⟩
  have tl : (atoms.flatMap tms).length ≤ 12 := by
    have : ∀ as : List D, (∀ a ∈ as, Atm a) → (as.flatMap tms).length ≤ 3 * as.length := fun as => by
      induction as with
      | nil => intro _; exact Nat.le_refl _
      | cons a as ih =>
        intro h
        have h1 := ih fun b hb => h b (List.mem_cons_of_mem _ hb)
        obtain ⟨w, ts, rfl, _, _, tl, _⟩ := h a List.mem_cons_self
        show (ts ++ as.flatMap tms).length ≤ _
        rw [List.length_append, List.length_cons]
        omega
    have := this atoms ha
    omega
  have nm := namesOf_ok (S := S2) (fu := fu) (k := 0) (as := atoms) (c := .tup checks) (fun a h => by
    obtain ⟨w, ts, e, _⟩ := ha a h
    exact ⟨_, ts, e⟩) (fun t ht => by
    obtain ⟨a, h1, h2⟩ := List.mem_flatMap.mp ht
    obtain ⟨w, ts, rfl, _, _, _, h3⟩ := ha a h1
    exact ⟨(h3 t h2).pn 0, (h3 t h2).term⟩) (by omega)
  have hn' := hnames_ok (S := S2) (fu := fu) (c := .tup checks) ha (by omega)
  have sm := same_self (S := S2) (fu := fu) (pt_strs 2 (nmL (atoms.flatMap tms)))
  have tbx : tbD x = .tup [.str x.1, .int w, x.2.2] := by unfold tbD; rw [hxn]
  have x0 : atI (tbD x :: tbr.map tbD) 0 = some (.tup [.str x.1, .int w, x.2.2]) := by rw [atI_zero, tbx]
  have q0 : ∀ k, law0 fu k [some (.scr ns), some (.loc 0), y2, y3, y4, y5, y6, y7, y8, y9, y10, y11, y12, y13, y14, y15, y16] S = k [some (.scr ns), some (.loc 0), y2, some (.tup ((x :: tbr).map tbD)), some (.tup [.tup atoms, .tup checks]), y5, y6, y7, y8, y9, some (.tup atoms), some (.tup checks), some (.str x.1), some (.int w), some x.2.2, y15, y16] S2 := fun k => by
    unfold law0
    simp only [List.map_cons] at e1 e2 ⊢
    simp [e1, e2, nm, hn', sm, x0]
  obtain ⟨S3, L3, e3, th3, tw3⟩ := law1_ok (ns := ns) (y2 := y2) (bk := .tup ((x :: tbr).map tbD)) (y5 := y5) (y6 := y6) (y7 := y7) (y8 := y8) (y9 := y9) (wi := (w : Int)) (rw' := x.2.2) (y15 := y15) (y16 := y16) pt' tw2
  obtain ⟨S4, L4, e4, th4, tw4⟩ := law2_ok (ns := ns) (y2 := y2) (bk := .tup ((x :: tbr).map tbD)) (y6 := y6) (y7 := y7) (y8 := y8) (y9 := y9) (wi := (w : Int)) (rw' := x.2.2) (y15 := y15) (y16 := y16) pt' th3 tw3
  obtain ⟨ea, e5, hea, hea2⟩ := law34_ok (ns := ns) (S := S4) (y2 := y2) (bk := .tup ((x :: tbr).map tbD)) (L := L4) (y6 := y6) (y7 := y7) (y8 := y8) (y9 := y9) (rw' := x.2.2) (y15 := y15) (y16 := y16) pt' w1 w3
  obtain ⟨S6, L6, z7, e6, th6, tw6⟩ := law5_loop (ns := ns) (y2 := y2) (bk := .tup ((x :: tbr).map tbD)) (y6 := some (.lst ea)) (y8 := y8) (y9 := y9) (wi := (w : Int)) (rw' := x.2.2) (y15 := y15) (y16 := y16) pt' ea y7 hea2 th4 tw4 (by omega)
  have e7 := law67_ok (ns := ns) (S := S6) (y2 := y2) (bk := .tup ((x :: tbr).map tbD)) (at' := atoms) (ck := checks) (L := L6) (y6 := some (.lst ea)) (y7 := z7) (y8 := y8) (y9 := y9) (wo := x.1) (wi := (w : Int)) (rw' := x.2.2) (y15 := y15) (y16 := y16)
  obtain ⟨S8, z9, e8, th8, tw8⟩ := law8_loop (ns := ns) (y2 := y2) (bk := .tup ((x :: tbr).map tbD)) (y6 := some (.lst ea)) (y7 := z7) (y8 := some (.lst eachB)) (wi := (w : Int)) (rw' := x.2.2) (y15 := y15) (y16 := y16) pt' eachB y9 (fun y hy => by
    have : eachB.all (bq 2) = true := by decide
    exact List.all_eq_true.mp this y hy) th6 tw6 (by simp; omega)
  obtain ⟨S9, L9, e9, th9, tw9⟩ := law9_ok (ns := ns) (y2 := y2) (bk := .tup ((x :: tbr).map tbD)) (y6 := some (.lst ea)) (y7 := z7) (y8 := some (.lst eachB)) (y9 := z9) (wi := (w : Int)) (rw' := x.2.2) (y15 := y15) (y16 := y16) pt' th8 tw8 (by simp; omega)
  obtain ⟨S10, L10, e10, th10, tw10⟩ := law10_ok (ns := ns) (y2 := y2) (bk := .tup ((x :: tbr).map tbD)) (y6 := some (.lst ea)) (y7 := z7) (y8 := some (.lst eachB)) (y9 := z9) (rw' := x.2.2) (y15 := y15) (y16 := y16) pt' w1 w3 th9 tw9 (by simp; omega)
  obtain ⟨S11, L11, e11, th11, tw11⟩ := law11_ok (ns := ns) (fu := fu) (y2 := y2) (bk := .tup ((x :: tbr).map tbD)) (wo := x.1) (wi := (w : Int)) (y6 := some (.lst ea)) (y7 := z7) (y8 := some (.lst eachB)) (y9 := z9) (rw' := x.2.2) (y15 := y15) (y16 := y16) h63 aq th10 tw10 (by simp; omega) (by omega)
  have e12 := law12_ok (ns := ns) (fu := fu) (tb := x :: tbr) (y2 := y2) (at' := atoms) (ck := checks) (wo := x.1) (wi := (w : Int)) (y6 := some (.lst ea)) (y7 := z7) (y8 := some (.lst eachB)) (y9 := z9) (rw' := x.2.2) (y15 := y15) (y16 := y16) (by omega) th11 (by simp; omega)
  refine ⟨S11, ev ns y2 (.tup ((x :: tbr).map tbD)) atoms checks L11 (some (.lst ea)) z7 (some (.lst eachB)) z9 x.1 w x.2.2 y15 y16, ?_, ⟨_, _, _, _, _, _, _, _, _, _, _, _, _, _, _, rfl⟩, tw11.mono (by omega)⟩
  unfold lawB
  rw [q0, seq_ok e3, seq_ok e4]
  have e5' : ∀ k, sSeq law3 (sSeq law4 k) (ev ns y2 (.tup ((x :: tbr).map tbD)) atoms checks L4 y6 y7 y8 y9 x.1 w x.2.2 y15 y16) S4 = k (ev ns y2 (.tup ((x :: tbr).map tbD)) atoms checks L4 (some (.lst ea)) y7 y8 y9 x.1 w x.2.2 y15 y16) S4 := fun k => by
    rw [sSeq_ap] at e5
    rw [sSeq_ap]
    revert e5
    cases law3 (ev ns y2 (.tup ((x :: tbr).map tbD)) atoms checks L4 y6 y7 y8 y9 x.1 w x.2.2 y15 y16) S4 with
    | ok f r1 T1 =>
      cases f with
      | next => intro e5; exact seq_ok e5
      | _ => intro e5; cases e5
    | exc _ _ _ => intro e5; cases e5
    | bad => intro e5; cases e5
  have e7' : ∀ k, sSeq law6 (sSeq law7 k) (ev ns y2 (.tup ((x :: tbr).map tbD)) atoms checks L6 (some (.lst ea)) z7 y8 y9 x.1 w x.2.2 y15 y16) S6 = k (ev ns y2 (.tup ((x :: tbr).map tbD)) atoms checks L6 (some (.lst ea)) z7 (some (.lst eachB)) y9 x.1 w x.2.2 y15 y16) S6 := fun k => by
    rw [sSeq_ap] at e7
    rw [sSeq_ap]
    revert e7
    cases law6 (ev ns y2 (.tup ((x :: tbr).map tbD)) atoms checks L6 (some (.lst ea)) z7 y8 y9 x.1 w x.2.2 y15 y16) S6 with
    | ok f r1 T1 =>
      cases f with
      | next => intro e5; exact seq_ok e5
      | _ => intro e5; cases e5
    | exc _ _ _ => intro e5; cases e5
    | bad => intro e5; cases e5
  rw [e5']
  have f6 : sFor (mIter (mVar 6)) (tgN 7) law5B (ev ns y2 (.tup ((x :: tbr).map tbD)) atoms checks L4 (some (.lst ea)) y7 y8 y9 x.1 w x.2.2 y15 y16) S4 = _ := e6
  rw [seq_ok f6, e7']
  have f8 : sFor (mIter (mVar 8)) (tgN 9) law8B (ev ns y2 (.tup ((x :: tbr).map tbD)) atoms checks L6 (some (.lst ea)) z7 (some (.lst eachB)) y9 x.1 w x.2.2 y15 y16) S6 = _ := e8
  rw [seq_ok f8, seq_ok e9, seq_ok e10, seq_ok e11]
  exact e12
theorem law_true (ns : List Int) (h : ns.length ≤ 63) : ∃ fu S, F_law fu [.scr ns] [] = .ok (.bl true) S := by
  refine ⟨50, ?_⟩
  obtain ⟨r', S', e, ⟨z2, z3, z4, z5, z6, z7, z8, z9, z10, z11, z12, z13, z14, z15, z16, rfl⟩, tw⟩ := loop_inv (gm := tgN 2) (b := lawB 50)
    (fun i r S' => (∃ z2 z3 z4 z5 z6 z7 z8 z9 z10 z11 z12 z13 z14 z15 z16, r = [some (.scr ns), some (.loc 0), z2, z3, z4, z5, z6, z7, z8, z9, z10, z11, z12, z13, z14, z15, z16]) ∧ Twn 0 (700 * i) S') (rng 0 6) 0 [some (.scr ns), some (.loc 0), none, none, none, none, none, none, none, none, none, none, none, none, none, none, none] [.lst []] (fun i d r S1 hd hi => by
      obtain ⟨hi2, rfl⟩ := rng0_get hd
      obtain ⟨⟨z2, z3, z4, z5, z6, z7, z8, z9, z10, z11, z12, z13, z14, z15, z16, rfl⟩, tw⟩ := hi
      obtain ⟨S', r', e, ⟨u2, u3, u4, u5, u6, u7, u8, u9, u10, u11, u12, u13, u14, u15, u16, rfl⟩, tw'⟩ := lawB_ok (fu := 50) (y2 := some (.int i)) (y3 := z3) (y4 := z4) (y5 := z5) (y6 := z6) (y7 := z7) (y8 := z8) (y9 := z9) (y10 := z10) (y11 := z11) (y12 := z12) (y13 := z13) (y14 := z14) (y15 := z15) (y16 := z16) h tw (by omega)
      exact ⟨_, _, S', rfl, .inl e, ⟨_, _, _, _, _, _, _, _, _, _, _, _, _, _, _, rfl⟩, tw'.mono (by omega)⟩) ⟨⟨_, _, _, _, _, _, _, _, _, _, _, _, _, _, _, rfl⟩, [], by simp, rfl⟩
  refine ⟨[], ?_⟩
  show finT [] (m_law 50 (frame 17 _) []) = _
  rw [show frame 17 [.scr ns] = [some (.scr ns), none, none, none, none, none, none, none, none, none, none, none, none, none, none, none, none] from rfl, law_eq]
  have eb : ∃ rho, (sSeq (sSet 1 (mNewL mNil)) (sSeq (sFor (mRng1 (mCons (mC (.int 6)) mNil)) (tgN 2) (lawB 50)) (sRet (mC (.bl true))))) [some (.scr ns), none, none, none, none, none, none, none, none, none, none, none, none, none, none, none, none] [] = .ok (.ret (.bl true)) rho ([] ++ S') := by
    simp [e]
  obtain ⟨rho, eb⟩ := eb
  rw [eb]
  exact fin_ret_app S' rfl
end
end Law
namespace Law
open PySem L2 Dv
/-! ### the end -/
theorem all_mk {l : PySem.W.OpenLaw} {w : World} {K : PySem.W.Frag} {h : Heap} {mg : Str → Option Value} {fa a__law_draw a__law_pick a__law_drawn_rows a__law_drawn_book a__law_drawn_ask a__law_same a_names_in a_names_of a__law_bent a__law_names a_is_whole a_is_value a_is_name a_is_check a_is_term a_is_atom a_is_ask a__law_is_name a__law_is_value a__law_is_ask a_law : Addr} (X : K.In h) (G : h.Ns mainGlobals mg) (hfa : mg "law" = some (.ref fa))
    {oc__law_draw kV__law_draw dc__law_draw pm__law_draw cd__law_draw ct__law_draw : Value} {od__law_draw an__law_draw : Option Addr} {sl__law_draw : Array (Option Value)}
    {oc__law_pick kV__law_pick dc__law_pick pm__law_pick cd__law_pick ct__law_pick : Value} {od__law_pick an__law_pick : Option Addr} {sl__law_pick : Array (Option Value)}
    {oc__law_drawn_rows kV__law_drawn_rows dc__law_drawn_rows pm__law_drawn_rows cd__law_drawn_rows ct__law_drawn_rows : Value} {od__law_drawn_rows an__law_drawn_rows : Option Addr} {sl__law_drawn_rows : Array (Option Value)}
    {oc__law_drawn_book kV__law_drawn_book dc__law_drawn_book pm__law_drawn_book cd__law_drawn_book ct__law_drawn_book : Value} {od__law_drawn_book an__law_drawn_book : Option Addr} {sl__law_drawn_book : Array (Option Value)}
    {oc__law_drawn_ask kV__law_drawn_ask dc__law_drawn_ask pm__law_drawn_ask cd__law_drawn_ask ct__law_drawn_ask : Value} {od__law_drawn_ask an__law_drawn_ask : Option Addr} {sl__law_drawn_ask : Array (Option Value)}
    {oc__law_same kV__law_same dc__law_same pm__law_same cd__law_same ct__law_same : Value} {od__law_same an__law_same : Option Addr} {sl__law_same : Array (Option Value)}
    {oc_names_in kV_names_in dc_names_in pm_names_in cd_names_in ct_names_in : Value} {od_names_in an_names_in : Option Addr} {sl_names_in : Array (Option Value)}
    {oc_names_of kV_names_of dc_names_of pm_names_of cd_names_of ct_names_of : Value} {od_names_of an_names_of : Option Addr} {sl_names_of : Array (Option Value)}
    {oc__law_bent kV__law_bent dc__law_bent pm__law_bent cd__law_bent ct__law_bent : Value} {od__law_bent an__law_bent : Option Addr} {sl__law_bent : Array (Option Value)}
    {oc__law_names kV__law_names dc__law_names pm__law_names cd__law_names ct__law_names : Value} {od__law_names an__law_names : Option Addr} {sl__law_names : Array (Option Value)}
    {oc_is_whole kV_is_whole dc_is_whole pm_is_whole cd_is_whole ct_is_whole : Value} {od_is_whole an_is_whole : Option Addr} {sl_is_whole : Array (Option Value)}
    {oc_is_value kV_is_value dc_is_value pm_is_value cd_is_value ct_is_value : Value} {od_is_value an_is_value : Option Addr} {sl_is_value : Array (Option Value)}
    {oc_is_name kV_is_name dc_is_name pm_is_name cd_is_name ct_is_name : Value} {od_is_name an_is_name : Option Addr} {sl_is_name : Array (Option Value)}
    {oc_is_check kV_is_check dc_is_check pm_is_check cd_is_check ct_is_check : Value} {od_is_check an_is_check : Option Addr} {sl_is_check : Array (Option Value)}
    {oc_is_term kV_is_term dc_is_term pm_is_term cd_is_term ct_is_term : Value} {od_is_term an_is_term : Option Addr} {sl_is_term : Array (Option Value)}
    {oc_is_atom kV_is_atom dc_is_atom pm_is_atom cd_is_atom ct_is_atom : Value} {od_is_atom an_is_atom : Option Addr} {sl_is_atom : Array (Option Value)}
    {oc_is_ask kV_is_ask dc_is_ask pm_is_ask cd_is_ask ct_is_ask : Value} {od_is_ask an_is_ask : Option Addr} {sl_is_ask : Array (Option Value)}
    {oc__law_is_name kV__law_is_name dc__law_is_name pm__law_is_name cd__law_is_name ct__law_is_name : Value} {od__law_is_name an__law_is_name : Option Addr} {sl__law_is_name : Array (Option Value)}
    {oc__law_is_value kV__law_is_value dc__law_is_value pm__law_is_value cd__law_is_value ct__law_is_value : Value} {od__law_is_value an__law_is_value : Option Addr} {sl__law_is_value : Array (Option Value)}
    {oc__law_is_ask kV__law_is_ask dc__law_is_ask pm__law_is_ask cd__law_is_ask ct__law_is_ask : Value} {od__law_is_ask an__law_is_ask : Option Addr} {sl__law_is_ask : Array (Option Value)}
    {oc_law kV_law dc_law pm_law cd_law ct_law : Value} {od_law an_law : Option Addr} {sl_law : Array (Option Value)}
    {kt_MOST : Tok}
    (a1__law_draw : PySem.W.nsIn K mainGlobals "_law_draw" = some (some (.ref a__law_draw)))
    (l1__law_draw : K.lookup a__law_draw = some ⟨oc__law_draw, od__law_draw, .func (PySem.W.fnOf "_law_draw" "_law_draw" (defArgs s__law_draw) (defBody s__law_draw) (defScope s__law_draw) .none kV__law_draw dc__law_draw pm__law_draw an__law_draw cd__law_draw ct__law_draw), sl__law_draw⟩)
    (c1__law_draw : PySem.W.codeIn K cd__law_draw "_law_draw" = true)
    (k1__law_draw : PySem.W.keepIn K (.ref a__law_draw) = true)
    (a1__law_pick : PySem.W.nsIn K mainGlobals "_law_pick" = some (some (.ref a__law_pick)))
    (l1__law_pick : K.lookup a__law_pick = some ⟨oc__law_pick, od__law_pick, .func (PySem.W.fnOf "_law_pick" "_law_pick" (defArgs s__law_pick) (defBody s__law_pick) (defScope s__law_pick) .none kV__law_pick dc__law_pick pm__law_pick an__law_pick cd__law_pick ct__law_pick), sl__law_pick⟩)
    (c1__law_pick : PySem.W.codeIn K cd__law_pick "_law_pick" = true)
    (k1__law_pick : PySem.W.keepIn K (.ref a__law_pick) = true)
    (a1__law_drawn_rows : PySem.W.nsIn K mainGlobals "_law_drawn_rows" = some (some (.ref a__law_drawn_rows)))
    (l1__law_drawn_rows : K.lookup a__law_drawn_rows = some ⟨oc__law_drawn_rows, od__law_drawn_rows, .func (PySem.W.fnOf "_law_drawn_rows" "_law_drawn_rows" (defArgs s__law_drawn_rows) (defBody s__law_drawn_rows) (defScope s__law_drawn_rows) .none kV__law_drawn_rows dc__law_drawn_rows pm__law_drawn_rows an__law_drawn_rows cd__law_drawn_rows ct__law_drawn_rows), sl__law_drawn_rows⟩)
    (c1__law_drawn_rows : PySem.W.codeIn K cd__law_drawn_rows "_law_drawn_rows" = true)
    (k1__law_drawn_rows : PySem.W.keepIn K (.ref a__law_drawn_rows) = true)
    (a1__law_drawn_book : PySem.W.nsIn K mainGlobals "_law_drawn_book" = some (some (.ref a__law_drawn_book)))
    (l1__law_drawn_book : K.lookup a__law_drawn_book = some ⟨oc__law_drawn_book, od__law_drawn_book, .func (PySem.W.fnOf "_law_drawn_book" "_law_drawn_book" (defArgs s__law_drawn_book) (defBody s__law_drawn_book) (defScope s__law_drawn_book) .none kV__law_drawn_book dc__law_drawn_book pm__law_drawn_book an__law_drawn_book cd__law_drawn_book ct__law_drawn_book), sl__law_drawn_book⟩)
    (c1__law_drawn_book : PySem.W.codeIn K cd__law_drawn_book "_law_drawn_book" = true)
    (k1__law_drawn_book : PySem.W.keepIn K (.ref a__law_drawn_book) = true)
    (a1__law_drawn_ask : PySem.W.nsIn K mainGlobals "_law_drawn_ask" = some (some (.ref a__law_drawn_ask)))
    (l1__law_drawn_ask : K.lookup a__law_drawn_ask = some ⟨oc__law_drawn_ask, od__law_drawn_ask, .func (PySem.W.fnOf "_law_drawn_ask" "_law_drawn_ask" (defArgs s__law_drawn_ask) (defBody s__law_drawn_ask) (defScope s__law_drawn_ask) .none kV__law_drawn_ask dc__law_drawn_ask pm__law_drawn_ask an__law_drawn_ask cd__law_drawn_ask ct__law_drawn_ask), sl__law_drawn_ask⟩)
    (c1__law_drawn_ask : PySem.W.codeIn K cd__law_drawn_ask "_law_drawn_ask" = true)
    (k1__law_drawn_ask : PySem.W.keepIn K (.ref a__law_drawn_ask) = true)
    (a1__law_same : PySem.W.nsIn K mainGlobals "_law_same" = some (some (.ref a__law_same)))
    (l1__law_same : K.lookup a__law_same = some ⟨oc__law_same, od__law_same, .func (PySem.W.fnOf "_law_same" "_law_same" (defArgs s__law_same) (defBody s__law_same) (defScope s__law_same) .none kV__law_same dc__law_same pm__law_same an__law_same cd__law_same ct__law_same), sl__law_same⟩)
    (c1__law_same : PySem.W.codeIn K cd__law_same "_law_same" = true)
    (k1__law_same : PySem.W.keepIn K (.ref a__law_same) = true)
    (a1_names_in : PySem.W.nsIn K mainGlobals "names_in" = some (some (.ref a_names_in)))
    (l1_names_in : K.lookup a_names_in = some ⟨oc_names_in, od_names_in, .func (PySem.W.fnOf "names_in" "names_in" (defArgs s_names_in) (defBody s_names_in) (defScope s_names_in) .none kV_names_in dc_names_in pm_names_in an_names_in cd_names_in ct_names_in), sl_names_in⟩)
    (c1_names_in : PySem.W.codeIn K cd_names_in "names_in" = true)
    (k1_names_in : PySem.W.keepIn K (.ref a_names_in) = true)
    (a1_names_of : PySem.W.nsIn K mainGlobals "names_of" = some (some (.ref a_names_of)))
    (l1_names_of : K.lookup a_names_of = some ⟨oc_names_of, od_names_of, .func (PySem.W.fnOf "names_of" "names_of" (defArgs s_names_of) (defBody s_names_of) (defScope s_names_of) .none kV_names_of dc_names_of pm_names_of an_names_of cd_names_of ct_names_of), sl_names_of⟩)
    (c1_names_of : PySem.W.codeIn K cd_names_of "names_of" = true)
    (k1_names_of : PySem.W.keepIn K (.ref a_names_of) = true)
    (a1__law_bent : PySem.W.nsIn K mainGlobals "_law_bent" = some (some (.ref a__law_bent)))
    (l1__law_bent : K.lookup a__law_bent = some ⟨oc__law_bent, od__law_bent, .func (PySem.W.fnOf "_law_bent" "_law_bent" (defArgs s__law_bent) (defBody s__law_bent) (defScope s__law_bent) .none kV__law_bent dc__law_bent pm__law_bent an__law_bent cd__law_bent ct__law_bent), sl__law_bent⟩)
    (c1__law_bent : PySem.W.codeIn K cd__law_bent "_law_bent" = true)
    (k1__law_bent : PySem.W.keepIn K (.ref a__law_bent) = true)
    (a1__law_names : PySem.W.nsIn K mainGlobals "_law_names" = some (some (.ref a__law_names)))
    (l1__law_names : K.lookup a__law_names = some ⟨oc__law_names, od__law_names, .func (PySem.W.fnOf "_law_names" "_law_names" (defArgs s__law_names) (defBody s__law_names) (defScope s__law_names) .none kV__law_names dc__law_names pm__law_names an__law_names cd__law_names ct__law_names), sl__law_names⟩)
    (c1__law_names : PySem.W.codeIn K cd__law_names "_law_names" = true)
    (k1__law_names : PySem.W.keepIn K (.ref a__law_names) = true)
    (a1_is_whole : PySem.W.nsIn K mainGlobals "is_whole" = some (some (.ref a_is_whole)))
    (l1_is_whole : K.lookup a_is_whole = some ⟨oc_is_whole, od_is_whole, .func (PySem.W.fnOf "is_whole" "is_whole" (defArgs s_is_whole) (defBody s_is_whole) (defScope s_is_whole) .none kV_is_whole dc_is_whole pm_is_whole an_is_whole cd_is_whole ct_is_whole), sl_is_whole⟩)
    (c1_is_whole : PySem.W.codeIn K cd_is_whole "is_whole" = true)
    (k1_is_whole : PySem.W.keepIn K (.ref a_is_whole) = true)
    (a1_is_value : PySem.W.nsIn K mainGlobals "is_value" = some (some (.ref a_is_value)))
    (l1_is_value : K.lookup a_is_value = some ⟨oc_is_value, od_is_value, .func (PySem.W.fnOf "is_value" "is_value" (defArgs s_is_value) (defBody s_is_value) (defScope s_is_value) .none kV_is_value dc_is_value pm_is_value an_is_value cd_is_value ct_is_value), sl_is_value⟩)
    (c1_is_value : PySem.W.codeIn K cd_is_value "is_value" = true)
    (k1_is_value : PySem.W.keepIn K (.ref a_is_value) = true)
    (a1_is_name : PySem.W.nsIn K mainGlobals "is_name" = some (some (.ref a_is_name)))
    (l1_is_name : K.lookup a_is_name = some ⟨oc_is_name, od_is_name, .func (PySem.W.fnOf "is_name" "is_name" (defArgs s_is_name) (defBody s_is_name) (defScope s_is_name) .none kV_is_name dc_is_name pm_is_name an_is_name cd_is_name ct_is_name), sl_is_name⟩)
    (c1_is_name : PySem.W.codeIn K cd_is_name "is_name" = true)
    (k1_is_name : PySem.W.keepIn K (.ref a_is_name) = true)
    (a1_is_check : PySem.W.nsIn K mainGlobals "is_check" = some (some (.ref a_is_check)))
    (l1_is_check : K.lookup a_is_check = some ⟨oc_is_check, od_is_check, .func (PySem.W.fnOf "is_check" "is_check" (defArgs s_is_check) (defBody s_is_check) (defScope s_is_check) .none kV_is_check dc_is_check pm_is_check an_is_check cd_is_check ct_is_check), sl_is_check⟩)
    (c1_is_check : PySem.W.codeIn K cd_is_check "is_check" = true)
    (k1_is_check : PySem.W.keepIn K (.ref a_is_check) = true)
    (a1_is_term : PySem.W.nsIn K mainGlobals "is_term" = some (some (.ref a_is_term)))
    (l1_is_term : K.lookup a_is_term = some ⟨oc_is_term, od_is_term, .func (PySem.W.fnOf "is_term" "is_term" (defArgs s_is_term) (defBody s_is_term) (defScope s_is_term) .none kV_is_term dc_is_term pm_is_term an_is_term cd_is_term ct_is_term), sl_is_term⟩)
    (c1_is_term : PySem.W.codeIn K cd_is_term "is_term" = true)
    (k1_is_term : PySem.W.keepIn K (.ref a_is_term) = true)
    (a1_is_atom : PySem.W.nsIn K mainGlobals "is_atom" = some (some (.ref a_is_atom)))
    (l1_is_atom : K.lookup a_is_atom = some ⟨oc_is_atom, od_is_atom, .func (PySem.W.fnOf "is_atom" "is_atom" (defArgs s_is_atom) (defBody s_is_atom) (defScope s_is_atom) .none kV_is_atom dc_is_atom pm_is_atom an_is_atom cd_is_atom ct_is_atom), sl_is_atom⟩)
    (c1_is_atom : PySem.W.codeIn K cd_is_atom "is_atom" = true)
    (k1_is_atom : PySem.W.keepIn K (.ref a_is_atom) = true)
    (a1_is_ask : PySem.W.nsIn K mainGlobals "is_ask" = some (some (.ref a_is_ask)))
    (l1_is_ask : K.lookup a_is_ask = some ⟨oc_is_ask, od_is_ask, .func (PySem.W.fnOf "is_ask" "is_ask" (defArgs s_is_ask) (defBody s_is_ask) (defScope s_is_ask) .none kV_is_ask dc_is_ask pm_is_ask an_is_ask cd_is_ask ct_is_ask), sl_is_ask⟩)
    (c1_is_ask : PySem.W.codeIn K cd_is_ask "is_ask" = true)
    (k1_is_ask : PySem.W.keepIn K (.ref a_is_ask) = true)
    (a1__law_is_name : PySem.W.nsIn K mainGlobals "_law_is_name" = some (some (.ref a__law_is_name)))
    (l1__law_is_name : K.lookup a__law_is_name = some ⟨oc__law_is_name, od__law_is_name, .func (PySem.W.fnOf "_law_is_name" "_law_is_name" (defArgs s__law_is_name) (defBody s__law_is_name) (defScope s__law_is_name) .none kV__law_is_name dc__law_is_name pm__law_is_name an__law_is_name cd__law_is_name ct__law_is_name), sl__law_is_name⟩)
    (c1__law_is_name : PySem.W.codeIn K cd__law_is_name "_law_is_name" = true)
    (k1__law_is_name : PySem.W.keepIn K (.ref a__law_is_name) = true)
    (a1__law_is_value : PySem.W.nsIn K mainGlobals "_law_is_value" = some (some (.ref a__law_is_value)))
    (l1__law_is_value : K.lookup a__law_is_value = some ⟨oc__law_is_value, od__law_is_value, .func (PySem.W.fnOf "_law_is_value" "_law_is_value" (defArgs s__law_is_value) (defBody s__law_is_value) (defScope s__law_is_value) .none kV__law_is_value dc__law_is_value pm__law_is_value an__law_is_value cd__law_is_value ct__law_is_value), sl__law_is_value⟩)
    (c1__law_is_value : PySem.W.codeIn K cd__law_is_value "_law_is_value" = true)
    (k1__law_is_value : PySem.W.keepIn K (.ref a__law_is_value) = true)
    (a1__law_is_ask : PySem.W.nsIn K mainGlobals "_law_is_ask" = some (some (.ref a__law_is_ask)))
    (l1__law_is_ask : K.lookup a__law_is_ask = some ⟨oc__law_is_ask, od__law_is_ask, .func (PySem.W.fnOf "_law_is_ask" "_law_is_ask" (defArgs s__law_is_ask) (defBody s__law_is_ask) (defScope s__law_is_ask) .none kV__law_is_ask dc__law_is_ask pm__law_is_ask an__law_is_ask cd__law_is_ask ct__law_is_ask), sl__law_is_ask⟩)
    (c1__law_is_ask : PySem.W.codeIn K cd__law_is_ask "_law_is_ask" = true)
    (k1__law_is_ask : PySem.W.keepIn K (.ref a__law_is_ask) = true)
    (a1_law : PySem.W.nsIn K mainGlobals "law" = some (some (.ref a_law)))
    (l1_law : K.lookup a_law = some ⟨oc_law, od_law, .func (PySem.W.fnOf "law" "law" (defArgs s_law) (defBody s_law) (defScope s_law) .none kV_law dc_law pm_law an_law cd_law ct_law), sl_law⟩)
    (c1_law : PySem.W.codeIn K cd_law "law" = true)
    (k1_law : PySem.W.keepIn K (.ref a_law) = true)
    (q1_MOST : PySem.W.nsIn K mainGlobals "MOST" = some (some (.int 9999 kt_MOST)))
    (z1_abs : PySem.W.nsIn K mainGlobals "abs" = some none)
    (z1_all : PySem.W.nsIn K mainGlobals "all" = some none)
    (z1_bool : PySem.W.nsIn K mainGlobals "bool" = some none)
    (z1_int : PySem.W.nsIn K mainGlobals "int" = some none)
    (z1_isinstance : PySem.W.nsIn K mainGlobals "isinstance" = some none)
    (z1_len : PySem.W.nsIn K mainGlobals "len" = some none)
    (z1_list : PySem.W.nsIn K mainGlobals "list" = some none)
    (z1_max : PySem.W.nsIn K mainGlobals "max" = some none)
    (z1_range : PySem.W.nsIn K mainGlobals "range" = some none)
    (z1_sorted : PySem.W.nsIn K mainGlobals "sorted" = some none)
    (z1_str : PySem.W.nsIn K mainGlobals "str" = some none)
    (z1_tuple : PySem.W.nsIn K mainGlobals "tuple" = some none)
    (z1_zip : PySem.W.nsIn K mainGlobals "zip" = some none)
    : ∃ fd : FuncData, (∀ (s : Shared) (v : Value), BindsTo s fd ⟨[v], []⟩ [("script", v)]) ∧ ∀ base : Heap, K.In base → base.Ns mainGlobals mg → FnOk l.prog w K mg base (L2.CX l.prog w) 10 fa fd ["script"] (spLaw K) := by
  have e := hfa.symm.trans (PySem.W.mg_of X G a1_law)
  cases e
  have F__law_draw := fun_mk (st := s__law_draw) l1__law_draw c1__law_draw k1__law_draw
  have b__law_draw : Binds K _ P__law_draw [] := F__law_draw.binds (ps := P__law_draw) fun _ _ _ _ _ _ us hl => match us, hl with | [_, _, _], _ => rfl
  have F__law_pick := fun_mk (st := s__law_pick) l1__law_pick c1__law_pick k1__law_pick
  have b__law_pick : Binds K _ P__law_pick [] := F__law_pick.binds (ps := P__law_pick) fun _ _ _ _ _ _ us hl => match us, hl with | [_, _, _], _ => rfl
  have F__law_drawn_rows := fun_mk (st := s__law_drawn_rows) l1__law_drawn_rows c1__law_drawn_rows k1__law_drawn_rows
  have b__law_drawn_rows : Binds K _ P__law_drawn_rows [] := F__law_drawn_rows.binds (ps := P__law_drawn_rows) fun _ _ _ _ _ _ us hl => match us, hl with | [_, _, _, _, _], _ => rfl
  have F__law_drawn_book := fun_mk (st := s__law_drawn_book) l1__law_drawn_book c1__law_drawn_book k1__law_drawn_book
  have b__law_drawn_book : Binds K _ P__law_drawn_book [] := F__law_drawn_book.binds (ps := P__law_drawn_book) fun _ _ _ _ _ _ us hl => match us, hl with | [_, _, _, _], _ => rfl
  have F__law_drawn_ask := fun_mk (st := s__law_drawn_ask) l1__law_drawn_ask c1__law_drawn_ask k1__law_drawn_ask
  have b__law_drawn_ask : Binds K _ P__law_drawn_ask [] := F__law_drawn_ask.binds (ps := P__law_drawn_ask) fun _ _ _ _ _ _ us hl => match us, hl with | [_, _, _, _], _ => rfl
  have F__law_same := fun_mk (st := s__law_same) l1__law_same c1__law_same k1__law_same
  have b__law_same : Binds K _ P__law_same [] := F__law_same.binds (ps := P__law_same) fun _ _ _ _ _ _ us hl => match us, hl with | [_, _], _ => rfl
  have F_names_in := fun_mk (st := s_names_in) l1_names_in c1_names_in k1_names_in
  have b_names_in : Binds K _ P_names_in [] := F_names_in.binds (ps := P_names_in) fun _ _ _ _ _ _ us hl => match us, hl with | [_], _ => rfl
  have F_names_of := fun_mk (st := s_names_of) l1_names_of c1_names_of k1_names_of
  have b_names_of : Binds K _ P_names_of [] := F_names_of.binds (ps := P_names_of) fun _ _ _ _ _ _ us hl => match us, hl with | [_], _ => rfl
  have F__law_bent := fun_mk (st := s__law_bent) l1__law_bent c1__law_bent k1__law_bent
  have b__law_bent : Binds K _ P__law_bent [] := F__law_bent.binds (ps := P__law_bent) fun _ _ _ _ _ _ us hl => match us, hl with | [_, _, _], _ => rfl
  have F__law_names := fun_mk (st := s__law_names) l1__law_names c1__law_names k1__law_names
  have b__law_names : Binds K _ P__law_names [] := F__law_names.binds (ps := P__law_names) fun _ _ _ _ _ _ us hl => match us, hl with | [_], _ => rfl
  have F_is_whole := fun_mk (st := s_is_whole) l1_is_whole c1_is_whole k1_is_whole
  have b_is_whole : Binds K _ P_is_whole [] := F_is_whole.binds (ps := P_is_whole) fun _ _ _ _ _ _ us hl => match us, hl with | [_], _ => rfl
  have F_is_value := fun_mk (st := s_is_value) l1_is_value c1_is_value k1_is_value
  have b_is_value : Binds K _ P_is_value [] := F_is_value.binds (ps := P_is_value) fun _ _ _ _ _ _ us hl => match us, hl with | [_], _ => rfl
  have F_is_name := fun_mk (st := s_is_name) l1_is_name c1_is_name k1_is_name
  have b_is_name : Binds K _ P_is_name [] := F_is_name.binds (ps := P_is_name) fun _ _ _ _ _ _ us hl => match us, hl with | [_], _ => rfl
  have F_is_check := fun_mk (st := s_is_check) l1_is_check c1_is_check k1_is_check
  have b_is_check : Binds K _ P_is_check [] := F_is_check.binds (ps := P_is_check) fun _ _ _ _ _ _ us hl => match us, hl with | [_, _], _ => rfl
  have F_is_term := fun_mk (st := s_is_term) l1_is_term c1_is_term k1_is_term
  have b_is_term : Binds K _ P_is_term [] := F_is_term.binds (ps := P_is_term) fun _ _ _ _ _ _ us hl => match us, hl with | [_], _ => rfl
  have F_is_atom := fun_mk (st := s_is_atom) l1_is_atom c1_is_atom k1_is_atom
  have b_is_atom : Binds K _ P_is_atom [] := F_is_atom.binds (ps := P_is_atom) fun _ _ _ _ _ _ us hl => match us, hl with | [_, _], _ => rfl
  have F_is_ask := fun_mk (st := s_is_ask) l1_is_ask c1_is_ask k1_is_ask
  have b_is_ask : Binds K _ P_is_ask [] := F_is_ask.binds (ps := P_is_ask) fun _ _ _ _ _ _ us hl => match us, hl with | [_, _], _ => rfl
  have F__law_is_name := fun_mk (st := s__law_is_name) l1__law_is_name c1__law_is_name k1__law_is_name
  have b__law_is_name : Binds K _ P__law_is_name [] := F__law_is_name.binds (ps := P__law_is_name) fun _ _ _ _ _ _ us hl => match us, hl with | [_], _ => rfl
  have F__law_is_value := fun_mk (st := s__law_is_value) l1__law_is_value c1__law_is_value k1__law_is_value
  have b__law_is_value : Binds K _ P__law_is_value [] := F__law_is_value.binds (ps := P__law_is_value) fun _ _ _ _ _ _ us hl => match us, hl with | [_], _ => rfl
  have F__law_is_ask := fun_mk (st := s__law_is_ask) l1__law_is_ask c1__law_is_ask k1__law_is_ask
  have b__law_is_ask : Binds K _ P__law_is_ask [] := F__law_is_ask.binds (ps := P__law_is_ask) fun _ _ _ _ _ _ us hl => match us, hl with | [_, _], _ => rfl
  have F_law := fun_mk (st := s_law) l1_law c1_law k1_law
  have b_law : Binds K _ P_law [] := F_law.binds (ps := P_law) fun _ _ _ _ _ _ us hl => match us, hl with | [_], _ => rfl
  have T : Tx K mg a__law_draw a__law_pick a__law_drawn_rows a__law_drawn_book a__law_drawn_ask a__law_same a_names_in a_names_of a__law_bent a__law_names a_is_whole a_is_value a_is_name a_is_check a_is_term a_is_atom a_is_ask a__law_is_name a__law_is_value a__law_is_ask fa _ _ _ _ _ _ _ _ _ _ _ _ _ _ _ _ _ _ _ _ _ _ := ⟨PySem.W.mg_none_of X G z1_abs,
    PySem.W.mg_none_of X G z1_all,
    PySem.W.mg_none_of X G z1_bool,
    PySem.W.mg_none_of X G z1_int,
    PySem.W.mg_none_of X G z1_isinstance,
    PySem.W.mg_none_of X G z1_len,
    PySem.W.mg_none_of X G z1_list,
    PySem.W.mg_none_of X G z1_max,
    PySem.W.mg_none_of X G z1_range,
    PySem.W.mg_none_of X G z1_sorted,
    PySem.W.mg_none_of X G z1_str,
    PySem.W.mg_none_of X G z1_tuple,
    PySem.W.mg_none_of X G z1_zip,
    PySem.W.mg_of X G q1_MOST,
    F__law_draw,
    b__law_draw,
    PySem.W.mg_of X G a1__law_draw,
    F__law_pick,
    b__law_pick,
    PySem.W.mg_of X G a1__law_pick,
    F__law_drawn_rows,
    b__law_drawn_rows,
    PySem.W.mg_of X G a1__law_drawn_rows,
    F__law_drawn_book,
    b__law_drawn_book,
    PySem.W.mg_of X G a1__law_drawn_book,
    F__law_drawn_ask,
    b__law_drawn_ask,
    PySem.W.mg_of X G a1__law_drawn_ask,
    F__law_same,
    b__law_same,
    PySem.W.mg_of X G a1__law_same,
    F_names_in,
    b_names_in,
    PySem.W.mg_of X G a1_names_in,
    F_names_of,
    b_names_of,
    PySem.W.mg_of X G a1_names_of,
    F__law_bent,
    b__law_bent,
    PySem.W.mg_of X G a1__law_bent,
    F__law_names,
    b__law_names,
    PySem.W.mg_of X G a1__law_names,
    F_is_whole,
    b_is_whole,
    PySem.W.mg_of X G a1_is_whole,
    F_is_value,
    b_is_value,
    PySem.W.mg_of X G a1_is_value,
    F_is_name,
    b_is_name,
    PySem.W.mg_of X G a1_is_name,
    F_is_check,
    b_is_check,
    PySem.W.mg_of X G a1_is_check,
    F_is_term,
    b_is_term,
    PySem.W.mg_of X G a1_is_term,
    F_is_atom,
    b_is_atom,
    PySem.W.mg_of X G a1_is_atom,
    F_is_ask,
    b_is_ask,
    PySem.W.mg_of X G a1_is_ask,
    F__law_is_name,
    b__law_is_name,
    PySem.W.mg_of X G a1__law_is_name,
    F__law_is_value,
    b__law_is_value,
    PySem.W.mg_of X G a1__law_is_value,
    F__law_is_ask,
    b__law_is_ask,
    PySem.W.mg_of X G a1__law_is_ask,
    F_law,
    b_law,
    PySem.W.mg_of X G a1_law⟩
  refine ⟨PySem.W.fnOf "law" "law" (defArgs s_law) (defBody s_law) (defScope s_law) .none kV_law dc_law pm_law an_law cd_law ct_law, fun s v => .of_eq rfl, fun base _ _ => ?_⟩
  exact law_fn (fun fu => ok_law T fu) law_true
end Law
open PySem PySem.W PyProof.Rows in
set_option maxRecDepth 100000 in
set_option maxHeartbeats 0 in
theorem PySem.Challenge.cw_meetloft_k02_asks_told_holds : PySem.Challenge.rw_meetloft_k02_asks_told.Holds := by
  w_on; o_law; k_head; (case hw => w_witness2)
  k_fill
  refine L2.walk_of (l := PySem.Challenge.rw_meetloft_k02_asks_told) (n := 63) (k := 10) (x := "script") (CX := fun w => L2.CX PySem.Challenge.pw_meetloft_k02_asks_told w) (sp := fun w => Dv.spLaw _) rfl (by decide) rfl ⟨rfl, by decide, by decide⟩ (fun w h Y => PySem.W.kIn_of Y) ?F (fun w H a ns hl hO hS => Dv.sp_start hl hS) (fun w H s e s' z => Dv.no_exc z)
  case F =>
    intro w mg fa h KX G hmg
    refine' Law.all_mk KX G hmg ?a1__law_draw ?l1__law_draw ?c1__law_draw ?k1__law_draw ?a1__law_pick ?l1__law_pick ?c1__law_pick ?k1__law_pick ?a1__law_drawn_rows ?l1__law_drawn_rows ?c1__law_drawn_rows ?k1__law_drawn_rows ?a1__law_drawn_book ?l1__law_drawn_book ?c1__law_drawn_book ?k1__law_drawn_book ?a1__law_drawn_ask ?l1__law_drawn_ask ?c1__law_drawn_ask ?k1__law_drawn_ask ?a1__law_same ?l1__law_same ?c1__law_same ?k1__law_same ?a1_names_in ?l1_names_in ?c1_names_in ?k1_names_in ?a1_names_of ?l1_names_of ?c1_names_of ?k1_names_of ?a1__law_bent ?l1__law_bent ?c1__law_bent ?k1__law_bent ?a1__law_names ?l1__law_names ?c1__law_names ?k1__law_names ?a1_is_whole ?l1_is_whole ?c1_is_whole ?k1_is_whole ?a1_is_value ?l1_is_value ?c1_is_value ?k1_is_value ?a1_is_name ?l1_is_name ?c1_is_name ?k1_is_name ?a1_is_check ?l1_is_check ?c1_is_check ?k1_is_check ?a1_is_term ?l1_is_term ?c1_is_term ?k1_is_term ?a1_is_atom ?l1_is_atom ?c1_is_atom ?k1_is_atom ?a1_is_ask ?l1_is_ask ?c1_is_ask ?k1_is_ask ?a1__law_is_name ?l1__law_is_name ?c1__law_is_name ?k1__law_is_name ?a1__law_is_value ?l1__law_is_value ?c1__law_is_value ?k1__law_is_value ?a1__law_is_ask ?l1__law_is_ask ?c1__law_is_ask ?k1__law_is_ask ?a1_law ?l1_law ?c1_law ?k1_law ?q1_MOST ?z1_abs ?z1_all ?z1_bool ?z1_int ?z1_isinstance ?z1_len ?z1_list ?z1_max ?z1_range ?z1_sorted ?z1_str ?z1_tuple ?z1_zip
    (case a1__law_draw => k_is)
    (case l1__law_draw => k_is)
    (case c1__law_draw => k_is)
    (case k1__law_draw => k_is)
    (case a1__law_pick => k_is)
    (case l1__law_pick => k_is)
    (case c1__law_pick => k_is)
    (case k1__law_pick => k_is)
    (case a1__law_drawn_rows => k_is)
    (case l1__law_drawn_rows => k_is)
    (case c1__law_drawn_rows => k_is)
    (case k1__law_drawn_rows => k_is)
    (case a1__law_drawn_book => k_is)
    (case l1__law_drawn_book => k_is)
    (case c1__law_drawn_book => k_is)
    (case k1__law_drawn_book => k_is)
    (case a1__law_drawn_ask => k_is)
    (case l1__law_drawn_ask => k_is)
    (case c1__law_drawn_ask => k_is)
    (case k1__law_drawn_ask => k_is)
    (case a1__law_same => k_is)
    (case l1__law_same => k_is)
    (case c1__law_same => k_is)
    (case k1__law_same => k_is)
    (case a1_names_in => k_is)
    (case l1_names_in => k_is)
    (case c1_names_in => k_is)
    (case k1_names_in => k_is)
    (case a1_names_of => k_is)
    (case l1_names_of => k_is)
    (case c1_names_of => k_is)
    (case k1_names_of => k_is)
    (case a1__law_bent => k_is)
    (case l1__law_bent => k_is)
    (case c1__law_bent => k_is)
    (case k1__law_bent => k_is)
    (case a1__law_names => k_is)
    (case l1__law_names => k_is)
    (case c1__law_names => k_is)
    (case k1__law_names => k_is)
    (case a1_is_whole => k_is)
    (case l1_is_whole => k_is)
    (case c1_is_whole => k_is)
    (case k1_is_whole => k_is)
    (case a1_is_value => k_is)
    (case l1_is_value => k_is)
    (case c1_is_value => k_is)
    (case k1_is_value => k_is)
    (case a1_is_name => k_is)
    (case l1_is_name => k_is)
    (case c1_is_name => k_is)
    (case k1_is_name => k_is)
    (case a1_is_check => k_is)
    (case l1_is_check => k_is)
    (case c1_is_check => k_is)
    (case k1_is_check => k_is)
    (case a1_is_term => k_is)
    (case l1_is_term => k_is)
    (case c1_is_term => k_is)
    (case k1_is_term => k_is)
    (case a1_is_atom => k_is)
    (case l1_is_atom => k_is)
    (case c1_is_atom => k_is)
    (case k1_is_atom => k_is)
    (case a1_is_ask => k_is)
    (case l1_is_ask => k_is)
    (case c1_is_ask => k_is)
    (case k1_is_ask => k_is)
    (case a1__law_is_name => k_is)
    (case l1__law_is_name => k_is)
    (case c1__law_is_name => k_is)
    (case k1__law_is_name => k_is)
    (case a1__law_is_value => k_is)
    (case l1__law_is_value => k_is)
    (case c1__law_is_value => k_is)
    (case k1__law_is_value => k_is)
    (case a1__law_is_ask => k_is)
    (case l1__law_is_ask => k_is)
    (case c1__law_is_ask => k_is)
    (case k1__law_is_ask => k_is)
    (case a1_law => k_is)
    (case l1_law => k_is)
    (case c1_law => k_is)
    (case k1_law => k_is)
    (case q1_MOST => k_is)
    (case z1_abs => k_is)
    (case z1_all => k_is)
    (case z1_bool => k_is)
    (case z1_int => k_is)
    (case z1_isinstance => k_is)
    (case z1_len => k_is)
    (case z1_list => k_is)
    (case z1_max => k_is)
    (case z1_range => k_is)
    (case z1_sorted => k_is)
    (case z1_str => k_is)
    (case z1_tuple => k_is)
    (case z1_zip => k_is)
