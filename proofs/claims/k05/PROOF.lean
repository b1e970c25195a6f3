import PyProof.Rows.All
import Wide.All
import OpenK.AllK
import Wide.FinOn
import HandS.ForMost
import HandS.ForExc
import HandS.CallSlots
import HandS.Walk
import HandS.Lambda
import HandS.TupAny
import HandS.Deep
import HandS.IsInst
import HandS.Zip
import HandS.SortInts
import HandS.TupSets
import HandS.SetFor
import HandS.Strs
import HandS.Sort
import PyProof.ListRange
import PyProof.ConsumeWalk
import PyProof.Rows.TupMore
import KE.KLam
import KE.SortKeyHeap
import PyProof.Cells
import PyProof.Rows.TupSub
import PyProof.Rows.SeqItemCall
import KE.KSortKey
import KE.KNestM
import HandS.EndTab
import HandS.Style
import PySem.Challenge.RW_meetloft_k05_whole_leaps
set_option Elab.async false
set_option linter.all false
set_option maxRecDepth 100000
/-! Python data as plain Lean data: D; a store of things that change; what a heap bears of them. -/
namespace Dv
open PySem L2

inductive D where
  | non : D
  | bl (b : Bool) : D
  | int (i : Int) : D
  | str (x : Str) : D
  | tup (xs : List D) : D
  | lst (xs : List D) : D
  | scr (xs : List Int) : D
  | dct (kvs : List (Key × D)) : D
  | loc (n : Nat) : D
  | ty (n : String) : D

inductive O where
  | lst (xs : List D)
  | dct (kvs : List (Key × D))
  | ins (c : Str) (fs : List (Str × D))
  | tbl (x q : Str)

abbrev Store := List O
abbrev Env := List (Option D)

def KLst (K : PySem.W.Frag) (a : Addr) (xs : List V) : Prop := SqL K (fun _ => none) a xs
theorem rd_none {a : Addr} {u : HO} (h : Rd (fun _ => none) a u) : False := by
  rcases h with h | ⟨o, h⟩
  · cases h
  · cases h
theorem KLst.sq {K : PySem.W.Frag} {a : Addr} {xs : List V} (h : KLst K a xs) (H : Hp) : SqL K H a xs := by
  rcases h with h | h
  · exact (rd_none h).elim
  · exact .inr h
theorem KLst.len {K : PySem.W.Frag} {a : Addr} {xs : List V} (h : KLst K a xs) : xs.length ≤ sizeLine := by
  rcases h with h | ⟨o, its, n, _, _, _, _, hz, r⟩
  · exact (rd_none h).elim
  · rw [r.length, Array.length_toList]
    exact hz

/-- the addresses of what may change: loc those of the store, hid those that no value tells -/
structure Tb where
  loc : List Addr
  hid : List Addr
def Tb.off (T : Tb) (a : Addr) : Prop := a ∉ T.loc ∧ a ∉ T.hid

def LAt (K : PySem.W.Frag) (T : Tb) (H : Hp) (a : Addr) (xs : List V) : Prop := (Rd H a (.lst xs) ∧ T.off a) ∨ KLst K a xs

mutual
inductive Rep (K : PySem.W.Frag) (T : Tb) (H : Hp) : V → D → Prop
  | non : Rep K T H .non .non
  | bl (b : Bool) : Rep K T H (.bl b) (.bl b)
  | int (i : Int) : Rep K T H (.int i) (.int i)
  | str (x : Str) : Rep K T H (.str x) (.str x)
  | ty (x : String) : Rep K T H (.ty x) (.ty x)
  | tup {a : Addr} {xs : List V} {ds : List D} : H a = some (.tup xs) → T.off a → RepL K T H xs ds → Rep K T H (.ref a) (.tup ds)
  | lst {a : Addr} {xs : List V} {ds : List D} : H a = some (.lst xs) → T.off a → RepL K T H xs ds → Rep K T H (.ref a) (.lst ds)
  | scr {a : Addr} {ns : List Int} : LAt K T H a (ns.map V.int) → Rep K T H (.ref a) (.scr ns)
  | dct {a : Addr} {kvs : List (Key × V)} {kds : List (Key × D)} : Rd H a (.dK kvs) → T.off a → kvs.map (·.1) = kds.map (·.1) → RepL K T H (kvs.map (·.2)) (kds.map (·.2)) → Rep K T H (.ref a) (.dct kds)
  | loc {a : Addr} {n : Nat} : T.loc[n]? = some a → Rep K T H (.ref a) (.loc n)
inductive RepL (K : PySem.W.Frag) (T : Tb) (H : Hp) : List V → List D → Prop
  | nil : RepL K T H [] []
  | cons {v : V} {vs : List V} {d : D} {ds : List D} : Rep K T H v d → RepL K T H vs ds → RepL K T H (v :: vs) (d :: ds)
end

structure Step (T : Tb) (H : Hp) (T' : Tb) (H' : Hp) : Prop where
  ext : ∃ more, T'.loc = T.loc ++ more
  hid : T'.hid = T.hid
  hkeep : ∀ b, b ∈ T.hid → H' b = H b
  keep : ∀ b u, T.off b → H b = some u → H' b = some u
  new : ∀ a, a ∈ T'.loc → a ∉ T.loc → H a = none

theorem rd_some {H : Hp} {a : Addr} {u : HO} (h : Rd H a u) : H a ≠ none := by
  rcases h with h | ⟨o, h⟩ <;> rw [h] <;> exact fun e => by cases e
theorem rd_keep {H H' : Hp} {a : Addr} {u : HO} (k : ∀ v, H a = some v → H' a = some v) (h : Rd H a u) : Rd H' a u := by
  rcases h with h | ⟨o, h⟩
  · exact .inl (k _ h)
  · exact .inr ⟨o, k _ h⟩
theorem Step.refl (T : Tb) (H : Hp) : Step T H T H := ⟨⟨[], by simp⟩, rfl, fun _ _ => rfl, fun _ _ _ h => h, fun _ h n => absurd h n⟩
theorem Step.out {T T' : Tb} {H H' : Hp} (s : Step T H T' H') {b : Addr} (h : H b ≠ none) (n : T.off b) : T'.off b := ⟨fun m => h (s.new b m n.1), by rw [s.hid]; exact n.2⟩
theorem Step.rd {T T' : Tb} {H H' : Hp} (s : Step T H T' H') {b : Addr} {u : HO} (h : Rd H b u) (n : T.off b) : Rd H' b u := rd_keep (fun v => s.keep b v n) h
theorem Step.trans {T T1 T2 : Tb} {H H1 H2 : Hp} (a : Step T H T1 H1) (b : Step T1 H1 T2 H2) : Step T H T2 H2 where
  ext := by
    obtain ⟨m1, e1⟩ := a.ext
    obtain ⟨m2, e2⟩ := b.ext
    exact ⟨m1 ++ m2, by rw [e2, e1, List.append_assoc]⟩
  hid := b.hid.trans a.hid
  hkeep := fun c hc => (b.hkeep c (by rw [a.hid]; exact hc)).trans (a.hkeep c hc)
  keep := fun c u n h => b.keep c u (a.out (by rw [h]; exact fun e => by cases e) n) (a.keep c u n h)
  new := fun c m n => by
    by_cases h : c ∈ T1.loc
    · exact a.new c h n
    · cases q : H c with
      | none => rfl
      | some o =>
        have h2 := b.new c m h
        by_cases hc : c ∈ T.hid
        · rw [a.hkeep c hc, q] at h2
          cases h2
        · rw [a.keep c o ⟨n, hc⟩ q] at h2
          cases h2
theorem Step.get {T T' : Tb} {H H' : Hp} (s : Step T H T' H') {n : Nat} {a : Addr} (h : T.loc[n]? = some a) : T'.loc[n]? = some a := by
  obtain ⟨m, e⟩ := s.ext
  rw [e, List.getElem?_append_left (List.getElem?_eq_some_iff.mp h).1]
  exact h
section
variable {K : PySem.W.Frag} {T T' : Tb} {H H' : Hp}
theorem LAt.sq {a : Addr} {xs : List V} (h : LAt K T H a xs) : SqL K H a xs := by
  rcases h with ⟨h, n⟩ | h
  · exact .inl h
  · exact h.sq H
/-- what is true of one heap and table is true of another one that keeps all that a value may tell -/
structure Kp (T : Tb) (H : Hp) (T' : Tb) (H' : Hp) : Prop where
  sq : ∀ b u, (∃ xs, u = .tup xs ∨ u = .lst xs ∨ (∃ o, u = .frz o (.lst xs)) ∨ ∃ f, u = .ext f) → T.off b → H b = some u → H' b = some u ∧ T'.off b
  dk : ∀ b kvs, T.off b → Rd H b (.dK kvs) → Rd H' b (.dK kvs) ∧ T'.off b
  get : ∀ (n : Nat) (a : Addr), T.loc[n]? = some a → T'.loc[n]? = some a
theorem some_ne {H : Hp} {a : Addr} {u : HO} (h : H a = some u) : H a ≠ none := by
  rw [h]
  exact fun e => by cases e
theorem Step.kp (s : Step T H T' H') : Kp T H T' H' := ⟨fun b u _ n h => ⟨s.keep b u n h, s.out (some_ne h) n⟩, fun b _ n h => ⟨s.rd h n, s.out (rd_some h) n⟩, fun _ _ h => s.get h⟩
/-- .. and what is locked stays so -/
structure Kf (T : Tb) (H : Hp) (T' : Tb) (H' : Hp) : Prop extends Kp T H T' H' where
  frz : ∀ b o u, T.off b → H b = some (.frz o u) → H' b = some (.frz o u) ∧ T'.off b
theorem Step.kf (s : Step T H T' H') : Kf T H T' H' := ⟨s.kp, fun b o u n h => ⟨s.keep b _ n h, s.out (some_ne h) n⟩⟩
theorem Kp.tup (s : Kp T H T' H') {b : Addr} {xs : List V} (n : T.off b) (h : H b = some (.tup xs)) : H' b = some (.tup xs) ∧ T'.off b := s.sq b _ ⟨xs, .inl rfl⟩ n h
theorem Kp.lst (s : Kp T H T' H') {b : Addr} {xs : List V} (n : T.off b) (h : H b = some (.lst xs)) : H' b = some (.lst xs) ∧ T'.off b := s.sq b _ ⟨xs, .inr (.inl rfl)⟩ n h
theorem LAt.kp {a : Addr} {xs : List V} (s : Kp T H T' H') (h : LAt K T H a xs) : LAt K T' H' a xs := by
  rcases h with ⟨h | ⟨o, h⟩, n⟩ | h
  · exact .inl ⟨.inl (s.lst n h).1, (s.lst n h).2⟩
  · have q := s.sq a _ ⟨xs, .inr (.inr (.inl ⟨o, rfl⟩))⟩ n h
    exact .inl ⟨.inr ⟨o, q.1⟩, q.2⟩
  · exact .inr h
mutual
theorem Rep.kp (s : Kp T H T' H') : ∀ {v : V} {d : D}, Rep K T H v d → Rep K T' H' v d
  | _, _, .non => .non
  | _, _, .bl b => .bl b
  | _, _, .int i => .int i
  | _, _, .str x => .str x
  | _, _, .ty x => .ty x
  | _, _, .tup h n r => .tup (s.tup n h).1 (s.tup n h).2 (RepL.kp s r)
  | _, _, .lst h n r => .lst (s.lst n h).1 (s.lst n h).2 (RepL.kp s r)
  | _, _, .scr h => .scr (h.kp s)
  | _, _, .dct h n e r => .dct (s.dk _ _ n h).1 (s.dk _ _ n h).2 e (RepL.kp s r)
  | _, _, .loc h => .loc (s.get _ _ h)
theorem RepL.kp (s : Kp T H T' H') : ∀ {vs : List V} {ds : List D}, RepL K T H vs ds → RepL K T' H' vs ds
  | _, _, .nil => .nil
  | _, _, .cons h r => .cons (Rep.kp s h) (RepL.kp s r)
end
theorem Rep.step (s : Step T H T' H') {v : V} {d : D} (h : Rep K T H v d) : Rep K T' H' v d := h.kp s.kp
theorem RepL.step (s : Step T H T' H') {vs : List V} {ds : List D} (h : RepL K T H vs ds) : RepL K T' H' vs ds := h.kp s.kp
theorem RepL.length : ∀ {vs : List V} {ds : List D}, RepL K T H vs ds → vs.length = ds.length
  | _, _, .nil => rfl
  | _, _, .cons _ r => by rw [List.length_cons, List.length_cons, RepL.length r]
theorem RepL.get : ∀ {vs : List V} {ds : List D} {i : Nat} {d : D}, RepL K T H vs ds → ds[i]? = some d → ∃ v, vs[i]? = some v ∧ Rep K T H v d
  | _, _, i, _, .nil, e => by simp at e
  | _, _, 0, _, .cons r _, e => by simp at e; subst e; exact ⟨_, rfl, r⟩
  | _, _, i + 1, d, .cons _ t, e => by
    obtain ⟨v, h1, h2⟩ := RepL.get (i := i) (d := d) t (by simpa using e)
    exact ⟨v, by simpa using h1, h2⟩
theorem RepL.getV : ∀ {vs : List V} {ds : List D} {i : Nat} {v : V}, RepL K T H vs ds → vs[i]? = some v → ∃ d, ds[i]? = some d ∧ Rep K T H v d
  | _, _, i, _, .nil, e => by simp at e
  | _, _, 0, _, .cons r _, e => by simp at e; subst e; exact ⟨_, rfl, r⟩
  | _, _, i + 1, v, .cons _ t, e => by
    obtain ⟨d, h1, h2⟩ := RepL.getV (i := i) (v := v) t (by simpa using e)
    exact ⟨d, by simpa using h1, h2⟩
theorem RepL.append : ∀ {vs ws : List V} {ds es : List D}, RepL K T H vs ds → RepL K T H ws es → RepL K T H (vs ++ ws) (ds ++ es)
  | _, _, _, _, .nil, s => s
  | _, _, _, _, .cons r t, s => .cons r (RepL.append t s)
theorem RepL.set {v : V} {d : D} (r : Rep K T H v d) : ∀ {vs : List V} {ds : List D} (i : Nat), RepL K T H vs ds → RepL K T H (vs.set i v) (ds.set i d)
  | _, _, _, .nil => .nil
  | _, _, 0, .cons _ t => .cons r t
  | _, _, i + 1, .cons q t => .cons q (RepL.set r i t)
theorem RepL.take : ∀ {vs : List V} {ds : List D} (n : Nat), RepL K T H vs ds → RepL K T H (vs.take n) (ds.take n)
  | _, _, 0, _ => .nil
  | _, _, _ + 1, .nil => .nil
  | _, _, n + 1, .cons r t => .cons r (RepL.take n t)
theorem RepL.drop : ∀ {vs : List V} {ds : List D} (n : Nat), RepL K T H vs ds → RepL K T H (vs.drop n) (ds.drop n)
  | _, _, 0, r => r
  | _, _, _ + 1, .nil => .nil
  | _, _, n + 1, .cons _ t => RepL.drop n t
theorem RepL.reverse : ∀ {vs : List V} {ds : List D}, RepL K T H vs ds → RepL K T H vs.reverse ds.reverse
  | _, _, .nil => .nil
  | _, _, .cons r t => by
    rw [List.reverse_cons, List.reverse_cons]
    exact RepL.append (RepL.reverse t) (.cons r .nil)
theorem RepL.rep {vs : List V} {ds : List D} (h : RepL K T H vs ds) : ∀ k : Nat, RepL K T H (List.replicate k vs).flatten (List.replicate k ds).flatten
  | 0 => .nil
  | k + 1 => by
    rw [List.replicate_succ, List.replicate_succ, List.flatten_cons, List.flatten_cons]
    exact RepL.append h (RepL.rep h k)
theorem RepL.ints : ∀ (ns : List Int), RepL K T H (ns.map V.int) (ns.map D.int)
  | [] => .nil
  | n :: ns => .cons (.int n) (RepL.ints ns)
theorem RepL.of_ints : ∀ {vs : List V} {ns : List Int}, RepL K T H vs (ns.map D.int) → vs = ns.map V.int
  | _, [], .nil => rfl
  | _, n :: ns, .cons (.int _) r => by rw [RepL.of_ints r]; rfl
theorem RepL.bls : ∀ (ns : List Bool), RepL K T H (ns.map V.bl) (ns.map D.bl)
  | [] => .nil
  | n :: ns => .cons (.bl n) (RepL.bls ns)
theorem RepL.of_bls : ∀ {vs : List V} {ns : List Bool}, RepL K T H vs (ns.map D.bl) → vs = ns.map V.bl
  | _, [], .nil => rfl
  | _, n :: ns, .cons (.bl _) r => by rw [RepL.of_bls r]; rfl
theorem RepL.strs : ∀ (ns : List Str), RepL K T H (ns.map V.str) (ns.map D.str)
  | [] => .nil
  | n :: ns => .cons (.str n) (RepL.strs ns)
theorem RepL.of_strs : ∀ {vs : List V} {ns : List Str}, RepL K T H vs (ns.map D.str) → vs = ns.map V.str
  | _, [], .nil => rfl
  | _, n :: ns, .cons (.str _) r => by rw [RepL.of_strs r]; rfl
end

def HLen (H : Hp) : Prop := ∀ a xs, (Rd H a (.lst xs) ∨ Rd H a (.tup xs)) → xs.length ≤ sizeLine

/-- a is the address of the code table of the def that the global x tells -/
def TblAt (K : PySem.W.Frag) (mg : Str → Option Value) (x : Str) (a : Addr) : Prop :=
  ∃ (f c : Addr) (oc oc2 : Value) (od od2 : Option Addr) (fd : FuncData) (sl sl2 : Array (Option Value)) (vs : Array Value), mg x = some (.ref f) ∧ K.lookup f = some ⟨oc, od, .func fd, sl⟩ ∧ fd.code = .ref c ∧ K.lookup c = some ⟨oc2, od2, .fields vs, sl2⟩ ∧ vs[11]? = some (.ref a)
theorem TblAt.uniq {K : PySem.W.Frag} {mg : Str → Option Value} {x : Str} {a b : Addr} (h1 : TblAt K mg x a) (h2 : TblAt K mg x b) : a = b := by
  obtain ⟨f, c, _, _, _, _, fd, _, _, vs, p1, p2, p3, p4, p5⟩ := h1
  obtain ⟨f', c', _, _, _, _, fd', _, _, vs', q1, q2, q3, q4, q5⟩ := h2
  rw [p1] at q1
  cases q1
  rw [p2] at q2
  cases q2
  rw [p3] at q3
  cases q3
  rw [p4] at q4
  cases q4
  rw [p5] at q5
  cases q5
  rfl

def ORep (K : PySem.W.Frag) (mg : Str → Option Value) (T : Tb) (H : Hp) (a : Addr) : O → Prop
  | .lst ds => ∃ xs, H a = some (.lst xs) ∧ RepL K T H xs ds
  | .dct kds => ∃ kvs, H a = some (.dK kvs) ∧ kvs.map (·.1) = kds.map (·.1) ∧ RepL K T H (kvs.map (·.2)) (kds.map (·.2))
  | .ins c fs => ∃ C dx fvs, mg c = some (.ref C) ∧ H a = some (.ins C dx fvs) ∧ fvs.map (·.1) = fs.map (·.1) ∧ RepL K T H (fvs.map (·.2)) (fs.map (·.2))
  | .tbl x q => TblAt K mg x a ∧ ∃ ps : Array Value, H a = some (.tbl ps) ∧ TriplesOk ps.toList ∧ ∀ (pos : Pos) (cv : Value), codeAmong pos ps.toList = some cv → ∃ c, cv = .ref c ∧ H c = some (LamX.CodeO c q) ∧ T.off c

structure Sim (K : PySem.W.Frag) (mg : Str → Option Value) (T : Tb) (S : Store) (H : Hp) : Prop where
  len : T.loc.length = S.length
  nd : (T.loc ++ T.hid).Nodup
  obj : ∀ (i : Nat) (a : Addr) (o : O), T.loc[i]? = some a → S[i]? = some o → ORep K mg T H a o
  hid : ∀ a, a ∈ T.hid → H a ≠ none
  hl : HLen H

section
variable {K : PySem.W.Frag} {mg : Str → Option Value} {T T' : Tb} {H H' : Hp} {S : Store}
theorem ORep.kp {a : Addr} {o : O} (s : Kp T H T' H') (e : H' a = H a) (h : ORep K mg T H a o) : ORep K mg T' H' a o := by
  cases o with
  | lst ds =>
    obtain ⟨xs, h1, h2⟩ := h
    exact ⟨xs, e.trans h1, h2.kp s⟩
  | dct kds =>
    obtain ⟨kvs, h1, h2, h3⟩ := h
    exact ⟨kvs, e.trans h1, h2, h3.kp s⟩
  | ins c fs =>
    obtain ⟨C, dx, fvs, h1, h2, h3, h4⟩ := h
    exact ⟨C, dx, fvs, h1, e.trans h2, h3, h4.kp s⟩
  | tbl x q =>
    obtain ⟨hx, ps, h1, h2, h3⟩ := h
    refine ⟨hx, ps, e.trans h1, h2, fun pos cv hc => ?_⟩
    obtain ⟨c, rfl, h4, h5⟩ := h3 pos cv hc
    obtain ⟨h6, h7⟩ := s.sq c _ ⟨[], .inr (.inr (.inr ⟨_, rfl⟩))⟩ h5 h4
    exact ⟨c, rfl, h6, h7⟩
theorem ORep.step {a : Addr} {o : O} (s : Step T H T' H') (e : H' a = H a) (h : ORep K mg T H a o) : ORep K mg T' H' a o := h.kp s.kp e
theorem ORep.some {a : Addr} {o : O} (h : ORep K mg T H a o) : H a ≠ none := by
  cases o with
  | lst ds => obtain ⟨xs, h1, _⟩ := h; rw [h1]; exact fun e => by cases e
  | dct kds => obtain ⟨kvs, h1, _⟩ := h; rw [h1]; exact fun e => by cases e
  | ins c fs => obtain ⟨C, dx, fvs, _, h2, _⟩ := h; rw [h2]; exact fun e => by cases e
  | tbl x q => obtain ⟨_, ps, h1, _⟩ := h; rw [h1]; exact fun e => by cases e
theorem Sim.ndl (s : Sim K mg T S H) : T.loc.Nodup := (List.nodup_append.mp s.nd).1
theorem Sim.apart (s : Sim K mg T S H) {a : Addr} (h : a ∈ T.loc) (h2 : a ∈ T.hid) : False := (List.nodup_append.mp s.nd).2.2 a h a h2 rfl
theorem Sim.there (s : Sim K mg T S H) {a : Addr} (h : a ∈ T.loc) : H a ≠ none := by
  obtain ⟨i, hi, e⟩ := List.mem_iff_getElem.mp h
  have h1 : T.loc[i]? = some a := by rw [List.getElem?_eq_getElem hi, e]
  have hi2 : i < S.length := by rw [← s.len]; exact hi
  exact (s.obj i a S[i] h1 (List.getElem?_eq_getElem hi2)).some
theorem Sim.off (s : Sim K mg T S H) {p : Addr} (hp : H p = none) : T.off p := ⟨fun h => s.there h hp, fun h => s.hid p h hp⟩
/-- a heap that grew by things that nobody may change -/
theorem Sim.grow (s : Sim K mg T S H) (st : Step T H T H') (e : ∀ a ∈ T.loc, H' a = H a) (hl : HLen H') : Sim K mg T S H' :=
  ⟨s.len, s.nd, fun i a o h1 h2 => (s.obj i a o h1 h2).step st (e a (List.mem_of_getElem? h1)), fun a h => by rw [st.hkeep a h]; exact s.hid a h, hl⟩
/-- a new thing at p -/
theorem Sim.stepNew {p : Addr} {o : HO} (s : Sim K mg T S H) (hp : H p = none) : Step T H T (upd H p o) :=
  ⟨⟨[], by simp⟩, rfl, fun b hb => upd_ne fun e => s.hid b hb (by rw [e]; exact hp), fun b u _ h => by rw [upd_ne (ne_of_none h hp)]; exact h, fun _ h n => absurd h n⟩
theorem hlen_new {p : Addr} {o : HO} (h : HLen H) (ho : ∀ xs, (o = .lst xs ∨ o = .tup xs ∨ (∃ x, o = .frz x (.lst xs)) ∨ ∃ x, o = .frz x (.tup xs)) → xs.length ≤ sizeLine) : HLen (upd H p o) := fun a xs hr => by
  by_cases e : a = p
  · subst e
    refine ho xs ?_
    rcases hr with (q | ⟨x, q⟩) | (q | ⟨x, q⟩) <;> rw [upd_same] at q <;> cases q
    · exact .inl rfl
    · exact .inr (.inr (.inl ⟨x, rfl⟩))
    · exact .inr (.inl rfl)
    · exact .inr (.inr (.inr ⟨x, rfl⟩))
  · refine h a xs ?_
    rcases hr with (q | ⟨x, q⟩) | (q | ⟨x, q⟩) <;> rw [upd_ne e] at q
    · exact .inl (.inl q)
    · exact .inl (.inr ⟨x, q⟩)
    · exact .inr (.inl q)
    · exact .inr (.inr ⟨x, q⟩)
theorem hlen_lst {p : Addr} {xs : List V} (h : HLen H) (hx : xs.length ≤ sizeLine) : HLen (upd H p (.lst xs)) := hlen_new h fun ys q => by
  rcases q with q | q | ⟨x, q⟩ | ⟨x, q⟩ <;> cases q
  exact hx
theorem hlen_tup {p : Addr} {xs : List V} (h : HLen H) (hx : xs.length ≤ sizeLine) : HLen (upd H p (.tup xs)) := hlen_new h fun ys q => by
  rcases q with q | q | ⟨x, q⟩ | ⟨x, q⟩ <;> cases q
  exact hx
theorem hlen_oth {p : Addr} {o : HO} (h : HLen H) (ho : ∀ xs, o ≠ .lst xs ∧ o ≠ .tup xs ∧ (∀ x, o ≠ .frz x (.lst xs)) ∧ ∀ x, o ≠ .frz x (.tup xs)) : HLen (upd H p o) := hlen_new h fun ys q => by
  obtain ⟨h1, h2, h3, h4⟩ := ho ys
  rcases q with q | q | ⟨x, q⟩ | ⟨x, q⟩
  · exact absurd q h1
  · exact absurd q h2
  · exact absurd q (h3 x)
  · exact absurd q (h4 x)
theorem Sim.new {p : Addr} {o : HO} (s : Sim K mg T S H) (hp : H p = none) (hl : HLen (upd H p o)) : Sim K mg T S (upd H p o) :=
  s.grow (s.stepNew hp) (fun a ha => upd_ne fun e => s.there ha (by rw [e]; exact hp)) hl
theorem Sim.llen (s : Sim K mg T S H) {a : Addr} {xs : List V} (h : LAt K T H a xs) : xs.length ≤ sizeLine := by
  rcases h with ⟨h, _⟩ | h
  · exact s.hl a xs (.inl h)
  · exact h.len
/-- a new thing that may change -/
def Tb.add (T : Tb) (p : Addr) : Tb := ⟨T.loc ++ [p], T.hid⟩
theorem Sim.stepAlloc {p : Addr} {o : HO} (s : Sim K mg T S H) (hp : H p = none) : Step T H (T.add p) (upd H p o) := ⟨⟨[p], rfl⟩, rfl, (s.stepNew hp).hkeep, (s.stepNew hp).keep, fun a h n => by
  rcases List.mem_append.mp h with h | h
  · exact absurd h n
  · rw [List.mem_singleton.mp h]; exact hp⟩
theorem Sim.alloc {p : Addr} {u : HO} {o : O} (s : Sim K mg T S H) (hp : H p = none) (hl : HLen (upd H p u)) (ho : ORep K mg (T.add p) (upd H p u) p o) : Sim K mg (T.add p) (S ++ [o]) (upd H p u) where
  len := by
    show (T.loc ++ [p]).length = _
    rw [List.length_append, List.length_append, s.len]; rfl
  nd := by
    have h0 := List.nodup_append.mp s.nd
    refine List.nodup_append.mpr ⟨List.nodup_append.mpr ⟨h0.1, by simp, fun a ha b hb e => (s.off hp).1 (by rw [← List.mem_singleton.mp hb, ← e]; exact ha)⟩, h0.2.1, fun a ha b hb e => ?_⟩
    rcases List.mem_append.mp ha with ha | ha
    · exact h0.2.2 a ha b hb e
    · exact (s.off hp).2 (by rw [← List.mem_singleton.mp ha, e]; exact hb)
  obj := fun i a o' h1 h2 => by
    have h1 : (T.loc ++ [p])[i]? = Option.some a := h1
    by_cases hi : i < T.loc.length
    · rw [List.getElem?_append_left hi] at h1
      rw [List.getElem?_append_left (by rw [← s.len]; exact hi)] at h2
      exact (s.obj i a o' h1 h2).step (s.stepAlloc hp) (upd_ne fun e => (s.off hp).1 (by rw [← e]; exact List.mem_of_getElem? h1))
    · rw [List.getElem?_append_right (by omega)] at h1
      rw [List.getElem?_append_right (by rw [← s.len]; omega)] at h2
      rw [← s.len] at h2
      cases k : i - T.loc.length with
      | zero =>
        rw [k] at h1 h2
        cases h1; cases h2
        exact ho
      | succ j =>
        rw [k] at h1
        cases h1
  hid := fun a h => by rw [(s.stepNew hp).hkeep a h]; exact s.hid a h
  hl := hl
/-- a thing of the store changes -/
theorem Sim.stepSet {p : Addr} {u : HO} (s : Sim K mg T S H) (hp : p ∈ T.loc) : Step T H T (upd H p u) := ⟨⟨[], by simp⟩, rfl, fun b hb => upd_ne fun e => s.apart hp (by rw [← e]; exact hb), fun b v n h => by
  rw [upd_ne fun e => n.1 (by rw [e]; exact hp)]
  exact h, fun _ h n => absurd h n⟩
theorem Sim.set {p : Addr} {u : HO} {o : O} {n : Nat} (s : Sim K mg T S H) (hp : T.loc[n]? = Option.some p) (hl : HLen (upd H p u)) (ho : ORep K mg T (upd H p u) p o) : Sim K mg T (S.set n o) (upd H p u) where
  len := by rw [List.length_set, s.len]
  nd := s.nd
  obj := fun i a o' h1 h2 => by
    by_cases hi : i = n
    · subst hi
      rw [hp] at h1; cases h1
      have hlt : i < S.length := by rw [← s.len]; exact (List.getElem?_eq_some_iff.mp hp).1
      rw [List.getElem?_set_self hlt] at h2
      cases h2
      exact ho
    · rw [List.getElem?_set_ne (Ne.symm hi)] at h2
      refine (s.obj i a o' h1 h2).step (s.stepSet (List.mem_of_getElem? hp)) (upd_ne fun e => hi ?_)
      subst e
      exact nd_ix s.ndl h1 hp
  hid := fun a h => by rw [(s.stepSet (List.mem_of_getElem? hp)).hkeep a h]; exact s.hid a h
  hl := hl
end

def RepSt (K : PySem.W.Frag) (T : Tb) (H : Hp) (r : Env) (g : St) : Prop := r.length = g.length ∧ ∀ (i : Nat) (d : D), r[i]? = some (some d) → ∃ v, g[i]? = some (some v) ∧ Rep K T H v d
section
variable {K : PySem.W.Frag} {T T' : Tb} {H H' : Hp} {r : Env} {g : St}
theorem RepSt.kp (s : Kp T H T' H') (h : RepSt K T H r g) : RepSt K T' H' r g := ⟨h.1, fun i d e => by
  obtain ⟨v, h1, h2⟩ := h.2 i d e
  exact ⟨v, h1, h2.kp s⟩⟩
theorem RepSt.step (s : Step T H T' H') (h : RepSt K T H r g) : RepSt K T' H' r g := h.kp s.kp
theorem RepSt.set {i : Nat} {v : V} {d : D} (h : RepSt K T H r g) (hv : Rep K T H v d) : RepSt K T H (r.set i (some d)) (g.set i (some v)) := ⟨by rw [List.length_set, List.length_set, h.1], fun j e q => by
  by_cases hj : j = i
  · subst hj
    by_cases hl : j < r.length
    · rw [List.getElem?_set_self hl] at q
      cases q
      exact ⟨v, by rw [List.getElem?_set_self (by rw [← h.1]; exact hl)], hv⟩
    · rw [List.getElem?_eq_none (by rw [List.length_set]; omega)] at q
      cases q
  · rw [List.getElem?_set_ne (Ne.symm hj)] at q ⊢
    exact h.2 j e q⟩
theorem RepSt.forget {i : Nat} (h : RepSt K T H r g) : RepSt K T H (r.set i none) g := ⟨by rw [List.length_set, h.1], fun j e q => by
  by_cases hj : j = i
  · subst hj
    by_cases hl : j < r.length
    · rw [List.getElem?_set_self hl] at q
      cases q
    · rw [List.getElem?_eq_none (by rw [List.length_set]; omega)] at q
      cases q
  · rw [List.getElem?_set_ne (Ne.symm hj)] at q
    exact h.2 j e q⟩
theorem RepSt.forgetB {i : Nat} (h : RepSt K T H r g) : RepSt K T H (r.set i none) (g.set i none) := ⟨by rw [List.length_set, List.length_set, h.1], fun j e q => by
  by_cases hj : j = i
  · subst hj
    by_cases hl : j < r.length
    · rw [List.getElem?_set_self hl] at q
      cases q
    · rw [List.getElem?_eq_none (by rw [List.length_set]; omega)] at q
      cases q
  · rw [List.getElem?_set_ne (Ne.symm hj)] at q ⊢
    exact h.2 j e q⟩
end

/-! ### what an expression, a statement comes to -/
inductive R (α : Type) where
  | ok (a : α) (S : Store) : R α
  | exc (n : Str) (S : Store) : R α
  | bad : R α
def R.bind {α β : Type} (x : R α) (f : α → Store → R β) : R β := match x with
  | .ok a S => f a S
  | .exc n S => .exc n S
  | .bad => .bad
theorem R.bind_ok {α β : Type} (a : α) (S : Store) (f : α → Store → R β) : (R.ok a S).bind f = f a S := rfl
theorem R.bind_exc {α β : Type} (n : Str) (S : Store) (f : α → Store → R β) : (R.exc n S : R α).bind f = .exc n S := rfl
theorem R.bind_bad {α β : Type} (f : α → Store → R β) : (R.bad : R α).bind f = .bad := rfl
abbrev EM := Env → Store → R D
abbrev AM := Env → Store → R (List D)
abbrev BM := Env → Store → R Bool
inductive Fl where
  | next | ret (d : D) | brk | cont
inductive Z where
  | ok (f : Fl) (r : Env) (S : Store) : Z
  | exc (n : Str) (r : Env) (S : Store) : Z
  | bad : Z
abbrev SM := Env → Store → Z

section
variable (K : PySem.W.Frag) (mg : Str → Option Value) (Wx : WX)
def Wish (n : Str) (g : St) (H : Hp) : Prop := ∀ cls, mg n = some cls → Wx cls none g H
def Out {α β : Type} (rel : Tb → Hp → β → α → Prop) (T : Tb) (g : St) (H : Hp) (x : R α) (Q : β → Hp → Prop) : Prop := match x with
  | .ok d S => ∀ T' H' v, Step T H T' H' → Sim K mg T' S H' → rel T' H' v d → Q v H'
  | .exc n S => ∀ T' H', Step T H T' H' → Sim K mg T' S H' → Wish mg Wx n g H'
  | .bad => False
/-- the reading of an expression that comes to m -/
def tD (m : EM) : TE := fun g H Q => ∃ T r S, RepSt K T H r g ∧ Sim K mg T S H ∧ Out K mg Wx (Rep K) T g H (m r S) Q
def tDA (m : AM) : TA := fun g H Q => ∃ T r S, RepSt K T H r g ∧ Sim K mg T S H ∧ Out K mg Wx (RepL K) T g H (m r S) Q
/-- a test: a truth -/
def tDT (m : BM) : TT := fun g H Q => ∃ T r S, RepSt K T H r g ∧ Sim K mg T S H ∧ Out K mg Wx (fun _ _ v d => v = d) T g H (m r S) Q
def ZOut (T : Tb) (H : Hp) (z : Z) (E : Ends) : Prop := match z with
  | .ok .next r' S' => ∀ T' H' g', Step T H T' H' → Sim K mg T' S' H' → RepSt K T' H' r' g' → E.nx g' H'
  | .ok (.ret d) r' S' => ∀ T' H' v, Step T H T' H' → Sim K mg T' S' H' → Rep K T' H' v d → E.rt v H'
  | .ok .brk r' S' => ∀ T' H' g', Step T H T' H' → Sim K mg T' S' H' → RepSt K T' H' r' g' → E.bk g' H'
  | .ok .cont r' S' => ∀ T' H' g', Step T H T' H' → Sim K mg T' S' H' → RepSt K T' H' r' g' → E.ct g' H'
  | .exc n r' S' => ∀ T' H' g', Step T H T' H' → Sim K mg T' S' H' → RepSt K T' H' r' g' → Wish mg Wx n g' H'
  | .bad => False
def tDS (m : SM) : TS := fun E g H => ∃ T r S, RepSt K T H r g ∧ Sim K mg T S H ∧ ZOut K mg Wx T H (m r S) E
end
end Dv
namespace Dv
open PySem L2
theorem Sim.newGet {K : PySem.W.Frag} {mg : Str → Option Value} {T : Tb} {S : Store} {H : Hp} (s : Sim K mg T S H) {p : Addr} : (T.add p).loc[S.length]? = some p := by
  show (T.loc ++ [p])[S.length]? = some p
  rw [← s.len, List.getElem?_append_right (Nat.le_refl _), Nat.sub_self]
  rfl
/-! ### weaker readings -/
section
variable {X : Cx}
theorem pe_imp {e : Expr} {t t' : TE} (h : PE X e t) (i : ∀ g H Q, t' g H Q → t g H Q) : PE X e t' := ⟨fun pins s g H Q I w => h.run pins s g H Q I (i g H Q w)⟩
theorem pt_imp {e : Expr} {t t' : TT} (h : PT X e t) (i : ∀ g H Q, t' g H Q → t g H Q) : PT X e t' := ⟨fun pins s g H Q I w => h.run pins s g H Q I (i g H Q w)⟩
theorem pw_imp {e : Expr} {t t' : TT} (h : PW X e t) (i : ∀ g H Q, t' g H Q → t g H Q) : PW X e t' := ⟨fun wh pins s g H Q I w => h.run wh pins s g H Q I (i g H Q w)⟩
theorem pa_imp {es : List Expr} {t t' : TA} (h : PA X es t) (i : ∀ g H Q, t' g H Q → t g H Q) : PA X es t' := ⟨fun pos pins s g H Q I w => h.run pos pins s g H Q I (i g H Q w)⟩
theorem ps_imp {st : Stmt} {t t' : TS} (h : PS X st t) (i : ∀ E g H, t' E g H → t E g H) : PS X st t' := ⟨fun pins s g H E I w => h.run pins s g H E I (i E g H w)⟩
theorem pss_imp {st : List Stmt} {t t' : TS} (h : PSs X st t) (i : ∀ E g H, t' E g H → t E g H) : PSs X st t' := ⟨fun pins s g H E I w => h.run pins s g H E I (i E g H w)⟩
theorem pi_imp {tg e : Expr} {t t' : TI} (h : PI X tg e t) (i : ∀ g H R, t' g H R → t g H R) : PI X tg e t' := ⟨fun pins s g H R I w => h.run pins s g H R I (i g H R w)⟩
end

def ofO {α : Type} (o : Option α) (S : Store) : R α := match o with
  | some a => .ok a S
  | none => .bad

/-! ### going on behind a part -/
section
variable {K : PySem.W.Frag} {mg : Str → Option Value} {Wx : WX} {α β γ δ : Type} {relA : Tb → Hp → β → α → Prop} {relB : Tb → Hp → δ → γ → Prop} {T : Tb} {g : St} {H : Hp}
/-- behind a part that came to x the rest is to be shown from any state that it may leave -/
theorem Out.bind {x : R α} {f : α → Store → R γ} {Q : δ → Hp → Prop} {Q1 : β → Hp → Prop} (h : Out K mg Wx relB T g H (x.bind f) Q)
    (k : ∀ a S T1 H1 v, Step T H T1 H1 → Sim K mg T1 S H1 → relA T1 H1 v a → Out K mg Wx relB T1 g H1 (f a S) Q → Q1 v H1) : Out K mg Wx relA T g H x Q1 := by
  cases x with
  | bad => exact h
  | exc n S => exact h
  | ok a S =>
    intro T1 H1 v st sim rel
    refine k a S T1 H1 v st sim rel ?_
    have h : Out K mg Wx relB T g H (f a S) Q := h
    revert h
    cases f a S with
    | bad => exact fun h => h
    | exc n S2 => exact fun h T2 H2 st2 sim2 => h T2 H2 (st.trans st2) sim2
    | ok b S2 => exact fun h T2 H2 w st2 sim2 rel2 => h T2 H2 w (st.trans st2) sim2 rel2
theorem Out.use {o : Option γ} {S : Store} {Q : δ → Hp → Prop} {P : Prop} (h : Out K mg Wx relB T g H (ofO o S) Q)
    (k : ∀ b, o = some b → (∀ T' H' v, Step T H T' H' → Sim K mg T' S H' → relB T' H' v b → Q v H') → P) : P := by
  cases o with
  | none => exact h.elim
  | some b => exact k b rfl h
end

/-! ### names and constants -/
def mVar (i : Nat) : EM := fun r S => match r[i]? with
  | some (some d) => .ok d S
  | _ => .bad
def mC (d : D) : EM := fun _ S => .ok d S
section
variable {X : Cx} {Wx : WX}
theorem jv (i : Nat) {x : Str} {pos : Pos} (hN : X.N[i]? = some x := by rfl) (hv : Vis X.env.scope x := by first | exact Or.inl rfl | exact Or.inr (Or.inl rfl) | exact Or.inr (Or.inr rfl)) (hd : (x == ("__debug__" : Str)) = false := by decide)
    (hcd : (x == ("__classdict__" : Str)) = false := by decide) : PE X (.Name x pos) (tD X.K X.mg Wx (mVar i)) := by
  refine pe_imp (pe_var hN hv hd hcd) fun g H Q h => ?_
  obtain ⟨T, r, S, rs, sim, h⟩ := h
  unfold mVar at h
  split at h
  · rename_i d e
    obtain ⟨v, h1, h2⟩ := rs.2 i d e
    exact ⟨v, h1, h T H v (Step.refl T H) sim h2⟩
  · exact h.elim
theorem j_c {e : Expr} {v : V} {d : D} (h : PE X e (tC v)) (hd : ∀ T H, Rep X.K T H v d) : PE X e (tD X.K X.mg Wx (mC d)) := by
  refine pe_imp h fun g H Q h => ?_
  obtain ⟨T, r, S, rs, sim, h⟩ := h
  exact h T H v (Step.refl T H) sim (hd T H)
theorem j_int {i j pos} : PE X (.Constant (.int i) j pos) (tD X.K X.mg Wx (mC (.int i))) := j_c pe_int fun _ _ => .int i
theorem j_bl {i j pos} : PE X (.Constant (.bool i) j pos) (tD X.K X.mg Wx (mC (.bl i))) := j_c pe_bl fun _ _ => .bl i
theorem j_str {i j pos} : PE X (.Constant (.str i) j pos) (tD X.K X.mg Wx (mC (.str i))) := j_c pe_str fun _ _ => .str i
theorem j_non {j pos} : PE X (.Constant .none j pos) (tD X.K X.mg Wx (mC .non)) := j_c pe_non fun _ _ => .non
theorem j_globI {x : Str} {i : Int} {t : Tok} {pos : Pos} (hg : Gl X x) (hm : X.mg x = some (.int i t)) (hd : (x == ("__debug__" : Str)) = false := by decide) : PE X (.Name x pos) (tD X.K X.mg Wx (mC (.int i))) := j_c (pe_glob (v := .int i) hg hm ⟨t, rfl⟩ hd) fun _ _ => .int i
end

/-! ### argument lists, displays -/
def mNil : AM := fun _ S => .ok [] S
def mCons (m : EM) (ms : AM) : AM := fun r S => (m r S).bind fun d S1 => (ms r S1).bind fun ds S2 => .ok (d :: ds) S2
def mTup (ms : AM) : EM := fun r S => (ms r S).bind fun ds S1 => if ds.length ≤ 100000 then .ok (.tup ds) S1 else .bad
def mLst (ms : AM) : EM := fun r S => (ms r S).bind fun ds S1 => if ds.length ≤ 100000 then .ok (.lst ds) S1 else .bad
/-- a new list of the store -/
def mNewL (ms : AM) : EM := fun r S => (ms r S).bind fun ds S1 => if ds.length ≤ 100000 then .ok (.loc S1.length) (S1 ++ [.lst ds]) else .bad
theorem sz5 {n : Nat} (h : n ≤ 100000) : n ≤ sizeLine := Nat.le_trans h (by decide)
section
variable {X : Cx} {Wx : WX} {e : Expr} {es : List Expr} {pos : Pos} {m : EM} {ms : AM}
theorem ja_nil : PA X [] (tDA X.K X.mg Wx mNil) := by
  refine pa_imp pa_nil fun g H Q h => ?_
  obtain ⟨T, r, S, rs, sim, h⟩ := h
  exact h T H [] (Step.refl T H) sim .nil
theorem ja_cons (ha : PE X e (tD X.K X.mg Wx m)) (hr : PA X es (tDA X.K X.mg Wx ms)) (hs : starEach (e :: es) X.env = (false, eval e X.env) :: starEach es X.env := by rfl) : PA X (e :: es) (tDA X.K X.mg Wx (mCons m ms)) := by
  refine pa_imp (pa_cons ha hr hs) fun g H Q h => ?_
  obtain ⟨T, r, S, rs, sim, h⟩ := h
  refine ⟨T, r, S, rs, sim, Out.bind h fun d S1 T1 H1 v st sim1 rel h1 => ?_⟩
  refine ⟨T1, r, S1, rs.step st, sim1, Out.bind h1 fun ds S2 T2 H2 vs st2 sim2 rel2 h2 => ?_⟩
  exact h2 T2 H2 (v :: vs) (Step.refl T2 H2) sim2 (.cons (rel.step st2) rel2)
theorem j_tup {x1} (h : PA X es (tDA X.K X.mg Wx ms)) : PE X (.Tuple es x1 pos) (tD X.K X.mg Wx (mTup ms)) := by
  refine pe_imp (pe_tup h) fun g H Q h => ?_
  obtain ⟨T, r, S, rs, sim, h⟩ := h
  refine ⟨T, r, S, rs, sim, Out.bind h fun ds S1 T1 H1 vs st sim1 rel h1 => ?_⟩
  split at h1
  · rename_i hz
    have hz' : vs.length ≤ sizeLine := by rw [rel.length]; exact sz5 hz
    refine ⟨hz', fun p hp => ?_⟩
    have st1 : Step T1 H1 T1 (upd H1 p (.tup vs)) := sim1.stepNew hp
    exact h1 T1 _ _ st1 (sim1.new hp (hlen_tup sim1.hl hz')) (.tup upd_same (sim1.off hp) (rel.step st1))
  · exact h1.elim
theorem j_lst (h : PA X es (tDA X.K X.mg Wx ms)) : PE X (.List es pos) (tD X.K X.mg Wx (mLst ms)) := by
  refine pe_imp (pe_lst h) fun g H Q h => ?_
  obtain ⟨T, r, S, rs, sim, h⟩ := h
  refine ⟨T, r, S, rs, sim, Out.bind h fun ds S1 T1 H1 vs st sim1 rel h1 => ?_⟩
  split at h1
  · rename_i hz
    have hz' : vs.length ≤ sizeLine := by rw [rel.length]; exact sz5 hz
    refine ⟨hz', fun p hp => ?_⟩
    have st1 : Step T1 H1 T1 (upd H1 p (.lst vs)) := sim1.stepNew hp
    exact h1 T1 _ _ st1 (sim1.new hp (hlen_lst sim1.hl hz')) (.lst upd_same (sim1.off hp) (rel.step st1))
  · exact h1.elim
theorem j_newL (h : PA X es (tDA X.K X.mg Wx ms)) : PE X (.List es pos) (tD X.K X.mg Wx (mNewL ms)) := by
  refine pe_imp (pe_lst h) fun g H Q h => ?_
  obtain ⟨T, r, S, rs, sim, h⟩ := h
  refine ⟨T, r, S, rs, sim, Out.bind h fun ds S1 T1 H1 vs st sim1 rel h1 => ?_⟩
  split at h1
  · rename_i hz
    have hz' : vs.length ≤ sizeLine := by rw [rel.length]; exact sz5 hz
    refine ⟨hz', fun p hp => ?_⟩
    have st1 : Step T1 H1 (T1.add p) (upd H1 p (.lst vs)) := sim1.stepAlloc hp
    refine h1 (T1.add p) _ _ st1 (sim1.alloc hp (hlen_lst sim1.hl hz') ⟨vs, upd_same, rel.step st1⟩) (.loc ?_)
    exact sim1.newGet
  · exact h1.elim
end

/-! ### operators by values: the store is read, the heap may grow by what nobody may change -/
section
variable (K : PySem.W.Frag) (mg : Str → Option Value)
def POk (r : List V → Hp → VK → Prop) (f : List D → Store → Option D) : Prop := ∀ T S H vs ds d (Q : VK), Sim K mg T S H → RepL K T H vs ds → f ds S = some d →
  (∀ H' v, Step T H T H' → Sim K mg T S H' → Rep K T H' v d → Q v H') → r vs H Q
def POk2 (r : R2) (f : D → D → Store → Option D) : Prop := ∀ T S H x y a b d (Q : VK), Sim K mg T S H → Rep K T H x a → Rep K T H y b → f a b S = some d →
  (∀ H' v, Step T H T H' → Sim K mg T S H' → Rep K T H' v d → Q v H') → r x y H Q
def POk1 (r : V → Hp → VK → Prop) (f : D → Store → Option D) : Prop := ∀ T S H x a d (Q : VK), Sim K mg T S H → Rep K T H x a → f a S = some d →
  (∀ H' v, Step T H T H' → Sim K mg T S H' → Rep K T H' v d → Q v H') → r x H Q
end
def mBin (f : D → D → Store → Option D) (ma mb : EM) : EM := fun r S => (ma r S).bind fun a S1 => (mb r S1).bind fun b S2 => ofO (f a b S2) S2
def mUn (f : D → Store → Option D) (ma : EM) : EM := fun r S => (ma r S).bind fun a S1 => ofO (f a S1) S1
def mCall (f : List D → Store → Option D) (ms : AM) : EM := fun r S => (ms r S).bind fun ds S1 => ofO (f ds S1) S1
section
variable {X : Cx} {Wx : WX} {a b : Expr} {es : List Expr} {pos : Pos} {ma mb : EM} {ms : AM}
theorem tOp_of {K : PySem.W.Frag} {mg : Str → Option Value} {r : R2} {f : D → D → Store → Option D} (hf : POk2 K mg r f) : ∀ g H Q, tD K mg Wx (mBin f ma mb) g H Q → tOp r (tD K mg Wx ma) (tD K mg Wx mb) g H Q := by
  intro g H Q h
  obtain ⟨T, r, S, rs, sim, h⟩ := h
  refine ⟨T, r, S, rs, sim, Out.bind h fun x S1 T1 H1 v st sim1 rel h1 => ?_⟩
  refine ⟨T1, r, S1, rs.step st, sim1, Out.bind h1 fun y S2 T2 H2 w st2 sim2 rel2 h2 => ?_⟩
  exact Out.use h2 fun d e k => hf T2 S2 H2 v w x y d Q sim2 (rel.step st2) rel2 e fun H' v' s' => k T2 H' v' s'
theorem j_bin {op : Operator} {r : R2} {f : D → D → Store → Option D} (ho : OpR X (binaryOp op) r) (hf : POk2 X.K X.mg r f) (ha : PE X a (tD X.K X.mg Wx ma)) (hb : PE X b (tD X.K X.mg Wx mb)) : PE X (.BinOp a op b pos) (tD X.K X.mg Wx (mBin f ma mb)) :=
  pe_imp (pe_op ho ha hb) (tOp_of hf)
theorem j_cmp {op : CmpOp} {r : R2} {f : D → D → Store → Option D} (ho : OpR X (compareOp op) r) (hf : POk2 X.K X.mg r f) (hm : behindInMarks op b = false) (ha : PE X a (tD X.K X.mg Wx ma)) (hb : PE X b (tD X.K X.mg Wx mb)) : PE X (.Compare a [op] [b] pos) (tD X.K X.mg Wx (mBin f ma mb)) :=
  pe_imp (pe_cmpR ho ha hb hm) (tOp_of hf)
theorem j_un {op : UnaryOp} {r : V → Hp → VK → Prop} {f : D → Store → Option D} (ho : UnR X (unaryOp op) r) (hf : POk1 X.K X.mg r f) (ha : PE X a (tD X.K X.mg Wx ma)) : PE X (.UnaryOp op a pos) (tD X.K X.mg Wx (mUn f ma)) := by
  refine pe_imp (pe_un ho ha) fun g H Q h => ?_
  obtain ⟨T, r, S, rs, sim, h⟩ := h
  refine ⟨T, r, S, rs, sim, Out.bind h fun x S1 T1 H1 v st sim1 rel h1 => ?_⟩
  exact Out.use h1 fun d e k => hf T1 S1 H1 v x d Q sim1 rel e fun H' v' s' => k T1 H' v' s'
theorem j_ix {r : R2} {f : D → D → Store → Option D} (ho : IxR X r) (hf : POk2 X.K X.mg r f) (hs : PlainIx b) (ha : PE X a (tD X.K X.mg Wx ma)) (hb : PE X b (tD X.K X.mg Wx mb)) : PE X (.Subscript a b pos) (tD X.K X.mg Wx (mBin f ma mb)) :=
  pe_imp (pe_ix ho ha hb hs) (tOp_of hf)
theorem tCB_of {K : PySem.W.Frag} {mg : Str → Option Value} {r : List V → Hp → VK → Prop} {f : List D → Store → Option D} (hf : POk K mg r f) : ∀ g H Q, tD K mg Wx (mCall f ms) g H Q → tCB r (tDA K mg Wx ms) g H Q := by
  intro g H Q h
  obtain ⟨T, r, S, rs, sim, h⟩ := h
  refine ⟨T, r, S, rs, sim, Out.bind h fun x S1 T1 H1 v st sim1 rel h1 => ?_⟩
  exact Out.use h1 fun d e k => hf T1 S1 H1 v x d Q sim1 rel e fun H' v' s' => k T1 H' v' s'
theorem j_callB {x : Str} {p : Pos} {e : Expr} {id : String} {r : List V → Hp → VK → Prop} {f : List D → Store → Option D} (hc : CallR X (.builtin id) r) (hf : POk X.K X.mg r f) (hg : Gl X x) (hm : X.mg x = none) (hv : bootBuiltins x = some (.builtin id)) (ha : PA X (e :: es) (tDA X.K X.mg Wx ms))
    (hn : x ≠ "__name__" := by decide) (hdb : (x == ("__debug__" : Str)) = false := by decide) (he : starEach (e :: es) X.env = (false, eval e X.env) :: starEach es X.env := by rfl) (hpl : (backTo pos (starEach es X.env)).any (·.1) = false := by rfl) :
    PE X (.Call (.Name x p) (e :: es) [] pos) (tD X.K X.mg Wx (mCall f ms)) := pe_imp (pe_callB hc hg hm hv ha hn hdb he hpl) (tCB_of hf)
theorem j_callT {x : Str} {p : Pos} {e : Expr} {id : String} {r : List V → Hp → VK → Prop} {f : List D → Store → Option D} (hc : CallR X (.type id) r) (hf : POk X.K X.mg r f) (hg : Gl X x) (hm : X.mg x = none) (hv : bootBuiltins x = some (.type id)) (ha : PA X (e :: es) (tDA X.K X.mg Wx ms))
    (hn : x ≠ "__name__" := by decide) (hdb : (x == ("__debug__" : Str)) = false := by decide) (he : starEach (e :: es) X.env = (false, eval e X.env) :: starEach es X.env := by rfl) (hpl : (backTo pos (starEach es X.env)).any (·.1) = false := by rfl) :
    PE X (.Call (.Name x p) (e :: es) [] pos) (tD X.K X.mg Wx (mCall f ms)) := pe_imp (pe_callTy hc hg hm hv ha hn hdb he hpl) (tCB_of hf)
end
end Dv
namespace Dv
open PySem L2
theorem Rep.bl_of {K : PySem.W.Frag} {T : Tb} {H : Hp} {v : V} {b : Bool} (h : Rep K T H v (.bl b)) : v = .bl b := by
  cases h
  rfl
theorem Rep.int_of {K : PySem.W.Frag} {T : Tb} {H : Hp} {v : V} {b : Int} (h : Rep K T H v (.int b)) : v = .int b := by
  cases h
  rfl
theorem Rep.str_of {K : PySem.W.Frag} {T : Tb} {H : Hp} {v : V} {b : Str} (h : Rep K T H v (.str b)) : v = .str b := by
  cases h
  rfl
theorem Rep.non_of {K : PySem.W.Frag} {T : Tb} {H : Hp} {v : V} (h : Rep K T H v .non) : v = .non := by
  cases h
  rfl
/-! ### truths -/
def asB (d : D) : Option Bool := match d with
  | .bl b => some b
  | _ => none
def truD (d : D) (S : Store) : Option Bool := match d with
  | .non => some false
  | .bl b => some b
  | .int i => some (i != 0)
  | .str x => if x.length ≤ 100000 then some ((x.length : Int) != 0) else none
  | .tup xs => some (!xs.isEmpty)
  | .lst xs => some (!xs.isEmpty)
  | .scr ns => some (!ns.isEmpty)
  | .loc n => match S[n]? with
    | some (.lst xs) => some (!xs.isEmpty)
    | _ => none
  | _ => none
def mT (m : EM) : BM := fun r S => (m r S).bind fun d S1 => ofO (asB d) S1
def mTru (m : EM) : BM := fun r S => (m r S).bind fun d S1 => ofO (truD d S1) S1
def mNotT (m : BM) : BM := fun r S => (m r S).bind fun b S1 => .ok (!b) S1
def mAndT (ma mb : BM) : BM := fun r S => (ma r S).bind fun b S1 => if b = true then mb r S1 else .ok false S1
def mOrT (ma mb : BM) : BM := fun r S => (ma r S).bind fun b S1 => if b = true then .ok true S1 else mb r S1
def mAnd (ma mb : EM) : EM := fun r S => (ma r S).bind fun d S1 => match d with
  | .bl true => mb r S1
  | .bl false => .ok (.bl false) S1
  | _ => .bad
def mOr (ma mb : EM) : EM := fun r S => (ma r S).bind fun d S1 => match d with
  | .bl true => .ok (.bl true) S1
  | .bl false => mb r S1
  | _ => .bad
def mNot (ma : EM) : EM := fun r S => (ma r S).bind fun d S1 => match d with
  | .bl b => .ok (.bl (!b)) S1
  | _ => .bad
def mIf (mt : BM) (ma mb : EM) : EM := fun r S => (mt r S).bind fun b S1 => if b = true then ma r S1 else mb r S1
/-- a comparison of three, the middle one told once -/
def mChain (f f' : D → D → Store → Option D) (ma mb mc : EM) : EM := fun r S => (ma r S).bind fun a S1 => (mb r S1).bind fun b S2 => (ofO (f a b S2) S2).bind fun d S3 => match d with
  | .bl true => (mc r S3).bind fun c S4 => ofO (f' b c S4) S4
  | .bl false => .ok (.bl false) S3
  | _ => .bad
section
variable {X : Cx} {Wx : WX} {a b c : Expr} {rest : List Expr} {pos : Pos} {ma mb mc : EM} {ta tb : BM}
theorem isEmpty_rep {K : PySem.W.Frag} {T : Tb} {H : Hp} {xs : List V} {ds : List D} (h : RepL K T H xs ds) : (!xs.isEmpty) = !ds.isEmpty := by
  cases h <;> rfl
theorem truD_ok {K : PySem.W.Frag} {mg : Str → Option Value} {T : Tb} {S : Store} {H : Hp} {v : V} {d : D} {b : Bool} (sim : Sim K mg T S H) (h : Rep K T H v d) (e : truD d S = some b) : TruV K v H b := by
  cases h with
  | non => cases e; rfl
  | bl x => cases e; rfl
  | int i => cases e; rfl
  | str x =>
    have e : (if x.length ≤ 100000 then some ((x.length : Int) != 0) else none) = some b := e
    by_cases hz : x.length ≤ 100000
    · rw [if_pos hz] at e
      cases e
      exact ⟨sz5 hz, rfl⟩
    · rw [if_neg hz] at e
      cases e
  | tup h n r => cases e; exact .inr (.inl ⟨_, SqT.of h, (isEmpty_rep r).symm⟩)
  | lst h n r => cases e; exact .inl ⟨_, SqL.of h, (isEmpty_rep r).symm⟩
  | scr h =>
    cases e
    refine .inl ⟨_, h.sq, ?_⟩
    rename_i ns
    cases ns <;> rfl
  | dct h n q r => cases e
  | ty x => cases e
  | loc hn =>
    simp only [truD] at e
    split at e
    · rename_i xs q
      cases e
      obtain ⟨ys, h1, h2⟩ := sim.obj _ _ _ hn q
      exact .inl ⟨ys, .inl (.inl h1), (isEmpty_rep h2).symm⟩
    · cases e
theorem tTest_of {K : PySem.W.Frag} {mg : Str → Option Value} : ∀ g H Q, tDT K mg Wx (mT ma) g H Q → tTest (tD K mg Wx ma) g H Q := by
  intro g H Q h
  obtain ⟨T, r, S, rs, sim, h⟩ := h
  refine ⟨T, r, S, rs, sim, Out.bind h fun x S1 T1 H1 v st sim1 rel h1 => ?_⟩
  refine Out.use h1 fun k e q => ?_
  cases x <;> cases e
  rw [rel.bl_of]
  exact ⟨_, rfl, q T1 H1 _ (Step.refl T1 H1) sim1 rfl⟩
theorem jt_cmp {op : CmpOp} {r : R2} {f : D → D → Store → Option D} (ho : OpR X (compareOp op) r) (hf : POk2 X.K X.mg r f) (hm : behindInMarks op b = false) (ha : PE X a (tD X.K X.mg Wx ma)) (hb : PE X b (tD X.K X.mg Wx mb)) : PT X (.Compare a [op] [b] pos) (tDT X.K X.mg Wx (mT (mBin f ma mb))) :=
  pt_imp (pt_cmpR ho ha hb hm) fun g H Q h => by
    obtain ⟨T, r, S, rs, sim, h⟩ := tTest_of g H Q h
    exact tOp_of hf g H _ ⟨T, r, S, rs, sim, h⟩
theorem jt_tru (ha : PE X a (tD X.K X.mg Wx ma)) (he : ∀ whole, isTrue a X.env whole = (do let v ← whole; standAt a.pos; holding [v] (truthy v)) := by intro _; rfl) : PT X a (tDT X.K X.mg Wx (mTru ma)) :=
  pt_imp (pt_truth ha he) fun g H Q h => by
    obtain ⟨T, r, S, rs, sim, h⟩ := h
    refine ⟨T, r, S, rs, sim, Out.bind h fun x S1 T1 H1 v st sim1 rel h1 => ?_⟩
    exact Out.use h1 fun k e q => ⟨k, truD_ok sim1 rel e, q T1 H1 k (Step.refl T1 H1) sim1 rfl⟩
theorem jt_not (ha : PT X a (tDT X.K X.mg Wx ta)) : PT X (.UnaryOp .Not a pos) (tDT X.K X.mg Wx (mNotT ta)) :=
  pt_imp (pt_not ha) fun g H Q h => by
    obtain ⟨T, r, S, rs, sim, h⟩ := h
    refine ⟨T, r, S, rs, sim, Out.bind h fun x S1 T1 H1 v st sim1 rel h1 => ?_⟩
    subst rel
    exact h1 T1 H1 _ (Step.refl T1 H1) sim1 rfl
theorem jw_and1 (ha : PT X a (tDT X.K X.mg Wx ta)) : PW X (.BoolOp .And [a] pos) (tDT X.K X.mg Wx ta) := pw_and1 ha
theorem jw_or1 (ha : PT X a (tDT X.K X.mg Wx ta)) : PW X (.BoolOp .Or [a] pos) (tDT X.K X.mg Wx ta) := pw_or1 ha
theorem jw_and (ha : PT X a (tDT X.K X.mg Wx ta)) (hb : PW X (.BoolOp .And (b :: rest) pos) (tDT X.K X.mg Wx tb)) : PW X (.BoolOp .And (a :: b :: rest) pos) (tDT X.K X.mg Wx (mAndT ta tb)) :=
  pw_imp (pw_and ha hb) fun g H Q h => by
    obtain ⟨T, r, S, rs, sim, h⟩ := h
    refine ⟨T, r, S, rs, sim, Out.bind h fun x S1 T1 H1 v st sim1 rel h1 => ?_⟩
    subst rel
    cases v with
    | true => exact ⟨T1, r, S1, rs.step st, sim1, h1⟩
    | false => exact h1 T1 H1 _ (Step.refl T1 H1) sim1 rfl
theorem jw_or (ha : PT X a (tDT X.K X.mg Wx ta)) (hb : PW X (.BoolOp .Or (b :: rest) pos) (tDT X.K X.mg Wx tb)) : PW X (.BoolOp .Or (a :: b :: rest) pos) (tDT X.K X.mg Wx (mOrT ta tb)) :=
  pw_imp (pw_or ha hb) fun g H Q h => by
    obtain ⟨T, r, S, rs, sim, h⟩ := h
    refine ⟨T, r, S, rs, sim, Out.bind h fun x S1 T1 H1 v st sim1 rel h1 => ?_⟩
    subst rel
    cases v with
    | true => exact h1 T1 H1 _ (Step.refl T1 H1) sim1 rfl
    | false => exact ⟨T1, r, S1, rs.step st, sim1, h1⟩
theorem jw_pt {e : Expr} (h : PW X e (tDT X.K X.mg Wx ta)) : PT X e (tDT X.K X.mg Wx ta) := PW.pt h
theorem j_one {op} (h : PE X a (tD X.K X.mg Wx ma)) : PE X (.BoolOp op [a] pos) (tD X.K X.mg Wx ma) := pe_one h
theorem j_and (ha : PE X a (tD X.K X.mg Wx ma)) (hb : PE X (.BoolOp .And (b :: rest) pos) (tD X.K X.mg Wx mb)) : PE X (.BoolOp .And (a :: b :: rest) pos) (tD X.K X.mg Wx (mAnd ma mb)) :=
  pe_imp (pe_and ha hb) fun g H Q h => by
    obtain ⟨T, r, S, rs, sim, h⟩ := h
    refine ⟨T, r, S, rs, sim, Out.bind h fun x S1 T1 H1 v st sim1 rel h1 => ?_⟩
    cases x with
    | bl k =>
      rw [rel.bl_of]
      refine ⟨k, rfl, ?_⟩
      cases k with
      | true => exact ⟨T1, r, S1, rs.step st, sim1, h1⟩
      | false => exact h1 T1 H1 _ (Step.refl T1 H1) sim1 (.bl false)
    | _ => exact h1.elim
theorem j_or (ha : PE X a (tD X.K X.mg Wx ma)) (hb : PE X (.BoolOp .Or (b :: rest) pos) (tD X.K X.mg Wx mb)) : PE X (.BoolOp .Or (a :: b :: rest) pos) (tD X.K X.mg Wx (mOr ma mb)) :=
  pe_imp (pe_or ha hb) fun g H Q h => by
    obtain ⟨T, r, S, rs, sim, h⟩ := h
    refine ⟨T, r, S, rs, sim, Out.bind h fun x S1 T1 H1 v st sim1 rel h1 => ?_⟩
    cases x with
    | bl k =>
      rw [rel.bl_of]
      refine ⟨k, rfl, ?_⟩
      cases k with
      | true => exact h1 T1 H1 _ (Step.refl T1 H1) sim1 (.bl true)
      | false => exact ⟨T1, r, S1, rs.step st, sim1, h1⟩
    | _ => exact h1.elim
theorem j_not (ha : PE X a (tD X.K X.mg Wx ma)) : PE X (.UnaryOp .Not a pos) (tD X.K X.mg Wx (mNot ma)) :=
  pe_imp (pe_not ha) fun g H Q h => by
    obtain ⟨T, r, S, rs, sim, h⟩ := h
    refine ⟨T, r, S, rs, sim, Out.bind h fun x S1 T1 H1 v st sim1 rel h1 => ?_⟩
    cases x with
    | bl k =>
      rw [rel.bl_of]
      exact ⟨k, rfl, h1 T1 H1 _ (Step.refl T1 H1) sim1 (.bl (!k))⟩
    | _ => exact h1.elim
theorem j_if (hc : PT X c (tDT X.K X.mg Wx ta)) (ha : PE X a (tD X.K X.mg Wx ma)) (hb : PE X b (tD X.K X.mg Wx mb)) : PE X (.IfExp c a b pos) (tD X.K X.mg Wx (mIf ta ma mb)) :=
  pe_imp (pe_ifExp hc ha hb) fun g H Q h => by
    obtain ⟨T, r, S, rs, sim, h⟩ := h
    refine ⟨T, r, S, rs, sim, Out.bind h fun x S1 T1 H1 v st sim1 rel h1 => ?_⟩
    subst rel
    cases v with
    | true => exact ⟨T1, r, S1, rs.step st, sim1, h1⟩
    | false => exact ⟨T1, r, S1, rs.step st, sim1, h1⟩
theorem tChain_of {K : PySem.W.Frag} {mg : Str → Option Value} {r r' : R2} {f f' : D → D → Store → Option D} (hf : POk2 K mg r f) (hf' : POk2 K mg r' f') : ∀ g H Q, tD K mg Wx (mChain f f' ma mb mc) g H Q → tChain r r' (tD K mg Wx ma) (tD K mg Wx mb) (tD K mg Wx mc) g H Q := by
  intro g H Q h
  obtain ⟨T, en, S, rs, sim, h⟩ := h
  refine ⟨T, en, S, rs, sim, Out.bind h fun x S1 T1 H1 v st sim1 rel h1 => ?_⟩
  refine ⟨T1, en, S1, rs.step st, sim1, Out.bind h1 fun y S2 T2 H2 w st2 sim2 rel2 h2 => ?_⟩
  have h3 := Out.bind (relA := Rep K) (Q1 := fun z H3 => ∃ k, z = V.bl k ∧ (if k = true then tD K mg Wx mc g H3 fun w' H4 => r' w w' H4 Q else Q (.bl false) H3)) h2 fun d S3 T3 H3 z st3 sim3 rel3 h3 => by
    cases d with
    | bl k =>
      rw [rel3.bl_of]
      refine ⟨k, rfl, ?_⟩
      cases k with
      | false => exact h3 T3 H3 _ (Step.refl T3 H3) sim3 (.bl false)
      | true =>
        refine ⟨T3, en, S3, (rs.step st).step (st2.trans st3), sim3, Out.bind h3 fun u S4 T4 H4 w4 st4 sim4 rel4 h4 => ?_⟩
        exact Out.use h4 fun d' e' k' => hf' T4 S4 H4 w w4 y u d' Q sim4 (rel2.step (st3.trans st4)) rel4 e' fun H' v' s' => k' T4 H' v' s'
    | _ => exact h3.elim
  exact Out.use h3 fun d e k => hf T2 S2 H2 v w x y d _ sim2 (rel.step st2) rel2 e fun H' v' s' => k T2 H' v' s'
theorem j_chain {op op' : CmpOp} {r r' : R2} {f f' : D → D → Store → Option D} (ho : OpR X (compareOp op) r) (hf : POk2 X.K X.mg r f) (ho' : OpR X (compareOp op') r') (hf' : POk2 X.K X.mg r' f') (ha : PE X a (tD X.K X.mg Wx ma)) (hb : PE X b (tD X.K X.mg Wx mb)) (hc : PE X c (tD X.K X.mg Wx mc)) (hm : lastMarks [op, op'] [b, c] = false := by with_unfolding_all rfl) :
    PE X (.Compare a [op, op'] [b, c] pos) (tD X.K X.mg Wx (mChain f f' ma mb mc)) :=
  pe_imp (pe_chain ho ho' ha hb hc hm) (tChain_of hf hf')
theorem jt_chain {op op' : CmpOp} {r r' : R2} {f f' : D → D → Store → Option D} (ho : OpR X (compareOp op) r) (hf : POk2 X.K X.mg r f) (ho' : OpR X (compareOp op') r') (hf' : POk2 X.K X.mg r' f') (ha : PE X a (tD X.K X.mg Wx ma)) (hb : PE X b (tD X.K X.mg Wx mb)) (hc : PE X c (tD X.K X.mg Wx mc)) (hm : lastMarks [op, op'] [b, c] = false := by with_unfolding_all rfl) :
    PT X (.Compare a [op, op'] [b, c] pos) (tDT X.K X.mg Wx (mT (mChain f f' ma mb mc))) :=
  pt_imp (pt_chain ho ho' ha hb hc hm) fun g H Q h => by
    obtain ⟨T, r, S, rs, sim, h⟩ := tTest_of g H Q h
    exact tChain_of hf hf' g H _ ⟨T, r, S, rs, sim, h⟩
end
end Dv
namespace Dv
open PySem L2
def bindS {α : Type} (x : R α) (r : Env) (f : α → Store → Z) : Z := match x with
  | .ok a S => f a S
  | .exc n S => .exc n r S
  | .bad => .bad
section
variable {K : PySem.W.Frag} {mg : Str → Option Value} {Wx : WX} {T T1 : Tb} {H H1 : Hp} {E : Ends} {α β : Type} {rel : Tb → Hp → β → α → Prop} {r : Env} {g : St}
theorem ZOut.step {z : Z} (st : Step T H T1 H1) (h : ZOut K mg Wx T H z E) : ZOut K mg Wx T1 H1 z E := by
  cases z with
  | bad => exact h
  | exc n r' S' => exact fun T' H' g' s => h T' H' g' (st.trans s)
  | ok f r' S' =>
    cases f with
    | next => exact fun T' H' g' s => h T' H' g' (st.trans s)
    | ret d => exact fun T' H' g' s => h T' H' g' (st.trans s)
    | brk => exact fun T' H' g' s => h T' H' g' (st.trans s)
    | cont => exact fun T' H' g' s => h T' H' g' (st.trans s)
theorem ZOut.bind {x : R α} {f : α → Store → Z} {Q : β → Hp → Prop} (h : ZOut K mg Wx T H (bindS x r f) E) (rs : RepSt K T H r g)
    (k : ∀ a S T1 H1 v, Step T H T1 H1 → Sim K mg T1 S H1 → rel T1 H1 v a → RepSt K T1 H1 r g → ZOut K mg Wx T1 H1 (f a S) E → Q v H1) : Out K mg Wx rel T g H x Q := by
  cases x with
  | bad => exact h
  | exc n S => exact fun T1 H1 st sim => h T1 H1 g st sim (rs.step st)
  | ok a S => exact fun T1 H1 v st sim rl => k a S T1 H1 v st sim rl (rs.step st) (ZOut.step st h)
theorem ZOut.nx {r : Env} {S : Store} {g : St} (h : ZOut K mg Wx T H (.ok .next r S) E) (sim : Sim K mg T S H) (rs : RepSt K T H r g) : E.nx g H := h T H g (Step.refl T H) sim rs
end
/-! ### blocks and small statements -/
def sNil : SM := fun r S => .ok .next r S
def sSeq (a b : SM) : SM := fun r S => match a r S with
  | .ok .next r1 S1 => b r1 S1
  | z => z
def sSet (i : Nat) (m : EM) : SM := fun r S => bindS (m r S) r fun d S1 => .ok .next (r.set i (some d)) S1
def sDrop (m : EM) : SM := fun r S => bindS (m r S) r fun _ S1 => .ok .next r S1
def sRet (m : EM) : SM := fun r S => bindS (m r S) r fun d S1 => .ok (.ret d) r S1
def sRetN : SM := fun r S => .ok (.ret .non) r S
def sIf (c : BM) (a b : SM) : SM := fun r S => bindS (c r S) r fun k S1 => if k = true then a r S1 else b r S1
def sBrk : SM := fun r S => .ok .brk r S
def sCont : SM := fun r S => .ok .cont r S
def sNever : SM := fun _ _ => .bad
/-- names told no more -/
def sForget (i : Nat) (a : SM) : SM := fun r S => a (r.set i none) S
def sAug (i : Nat) (f : Int → Int → Int) (m : EM) : SM := fun r S => match r[i]? with
  | some (some (.int a)) => bindS (m r S) r fun d S1 => match d with
    | .int b => .ok .next (r.set i (some (.int (f a b)))) S1
    | _ => .bad
  | _ => .bad
def sPar (i j : Nat) (ms : AM) : SM := fun r S => bindS (ms r S) r fun ds S1 => match ds with
  | [a, b] => .ok .next ((r.set i (some a)).set j (some b)) S1
  | _ => .bad
section
variable {X : Cx} {Wx : WX} {st : Stmt} {rest : List Stmt} {pos pos' : Pos} {e : Expr} {m : EM} {sa sb : SM} {c : BM}
theorem js_nil : PSs X [] (tDS X.K X.mg Wx sNil) := pss_imp pss_nil fun E g H h => by
  obtain ⟨T, r, S, rs, sim, h⟩ := h
  exact h.nx sim rs
theorem js_cons (h1 : PS X st (tDS X.K X.mg Wx sa)) (h2 : PSs X rest (tDS X.K X.mg Wx sb)) : PSs X (st :: rest) (tDS X.K X.mg Wx (sSeq sa sb)) := pss_imp (pss_cons h1 h2) fun E g H h => by
  obtain ⟨T, r, S, rs, sim, h⟩ := h
  refine ⟨T, r, S, rs, sim, ?_⟩
  unfold sSeq at h
  revert h
  cases sa r S with
  | bad => exact fun h => h
  | exc n r' S' => exact fun h => h
  | ok f r' S' =>
    cases f with
    | next => exact fun h T' H' g' s sim' rs' => ⟨T', r', S', rs', sim', ZOut.step s h⟩
    | ret d => exact fun h => h
    | brk => exact fun h => h
    | cont => exact fun h => h
theorem js_one (h1 : PS X st (tDS X.K X.mg Wx sa)) : PSs X [st] (tDS X.K X.mg Wx sa) := pss_one h1
theorem js_set {i : Nat} {x : Str} (hN : X.N.Nodup) (hi : X.N[i]? = some x) (hx : Loc X.env.scope x) (he : PE X e (tD X.K X.mg Wx m)) (hs : swapsWith e (some (.Name x pos')) pos.line X.env = pure false := by rfl)
    (hf : X.fn x = true ∨ X.env.scope.names.lookup x = some .local := by first | exact .inl rfl | exact .inr rfl | assumption) : PS X (.Assign [.Name x pos'] e pos) (tDS X.K X.mg Wx (sSet i m)) :=
  ps_imp (ps_set hN hi hx he hs hf) fun E g H h => by
    obtain ⟨T, r, S, rs, sim, h⟩ := h
    refine ⟨T, r, S, rs, sim, ZOut.bind h rs fun d S1 T1 H1 v st sim1 rel rs1 h1 => ?_⟩
    exact h1.nx sim1 (rs1.set rel)
theorem js_drop (he : PE X e (tD X.K X.mg Wx m)) (hs : swapsWith e none pos.line X.env = pure false := by rfl) : PS X (.Expr e pos) (tDS X.K X.mg Wx (sDrop m)) :=
  ps_imp (ps_expr he hs) fun E g H h => by
    obtain ⟨T, r, S, rs, sim, h⟩ := h
    refine ⟨T, r, S, rs, sim, ZOut.bind h rs fun d S1 T1 H1 v st sim1 rel rs1 h1 => ?_⟩
    exact h1.nx sim1 rs1
theorem js_ret (he : PE X e (tD X.K X.mg Wx m)) : PS X (.Return (some e) pos) (tDS X.K X.mg Wx (sRet m)) :=
  ps_imp (ps_ret he) fun E g H h => by
    obtain ⟨T, r, S, rs, sim, h⟩ := h
    refine ⟨T, r, S, rs, sim, ZOut.bind h rs fun d S1 T1 H1 v st sim1 rel rs1 h1 => ?_⟩
    exact h1 T1 H1 v (Step.refl T1 H1) sim1 rel
theorem js_retN : PS X (.Return none pos) (tDS X.K X.mg Wx sRetN) := ps_imp ps_retN fun E g H h => by
  obtain ⟨T, r, S, rs, sim, h⟩ := h
  exact h T H .non (Step.refl T H) sim .non
theorem js_brk : PS X (.Break pos) (tDS X.K X.mg Wx sBrk) := ps_imp ps_break fun E g H h => by
  obtain ⟨T, r, S, rs, sim, h⟩ := h
  exact h T H g (Step.refl T H) sim rs
theorem js_cont : PS X (.Continue pos) (tDS X.K X.mg Wx sCont) := ps_imp ps_continue fun E g H h => by
  obtain ⟨T, r, S, rs, sim, h⟩ := h
  exact h T H g (Step.refl T H) sim rs
theorem js_never : PS X st (tDS X.K X.mg Wx sNever) := ps_imp ps_never fun E g H h => by
  obtain ⟨T, r, S, rs, sim, h⟩ := h
  exact h
theorem js_doc {x j} : PS X (.Expr (.Constant (.str x) j pos) pos') (tDS X.K X.mg Wx sNil) := ps_imp ps_doc fun E g H h => by
  obtain ⟨T, r, S, rs, sim, h⟩ := h
  exact h.nx sim rs
theorem js_forget {i : Nat} (h1 : PS X st (tDS X.K X.mg Wx sa)) : PS X st (tDS X.K X.mg Wx (sForget i sa)) := ps_imp h1 fun E g H h => by
  obtain ⟨T, r, S, rs, sim, h⟩ := h
  exact ⟨T, r.set i none, S, rs.forget, sim, h⟩
theorem jss_forget {i : Nat} {sts : List Stmt} (h1 : PSs X sts (tDS X.K X.mg Wx sa)) : PSs X sts (tDS X.K X.mg Wx (sForget i sa)) := pss_imp h1 fun E g H h => by
  obtain ⟨T, r, S, rs, sim, h⟩ := h
  exact ⟨T, r.set i none, S, rs.forget, sim, h⟩
theorem js_if {t : Expr} {a b : List Stmt} (hc : PT X t (tDT X.K X.mg Wx c)) (ha : PSs X a (tDS X.K X.mg Wx sa)) (hb : PSs X b (tDS X.K X.mg Wx sb)) : PS X (.If t a b pos) (tDS X.K X.mg Wx (sIf c sa sb)) :=
  ps_imp (ps_if hc ha hb) fun E g H h => by
    obtain ⟨T, r, S, rs, sim, h⟩ := h
    refine ⟨T, r, S, rs, sim, ZOut.bind h rs fun d S1 T1 H1 v st sim1 rel rs1 h1 => ?_⟩
    subst rel
    cases v with
    | true => exact ⟨T1, r, S1, rs1, sim1, h1⟩
    | false => exact ⟨T1, r, S1, rs1, sim1, h1⟩
theorem js_augI {i : Nat} {x : Str} {op : Operator} {f : Int → Int → Int} (hN : X.N.Nodup) (hi : X.N[i]? = some x) (hx : Loc X.env.scope x) (ho : PIp X op (ipI f)) (he : PE X e (tD X.K X.mg Wx m))
    (hf : X.fn x = true ∨ X.env.scope.names.lookup x = some .local := by first | exact .inl rfl | exact .inr rfl | assumption) : PS X (.AugAssign (.Name x pos') op e pos) (tDS X.K X.mg Wx (sAug i f m)) :=
  ps_imp (ps_aug hN hi hx he ho hf) fun E g H h => by
    obtain ⟨T, r, S, rs, sim, h⟩ := h
    unfold sAug at h
    split at h
    · rename_i a ea
      obtain ⟨v, h1, h2⟩ := rs.2 i _ ea
      refine ⟨v, h1, T, r, S, rs, sim, ZOut.bind h rs fun d S1 T1 H1 w st sim1 rel rs1 h3 => ?_⟩
      cases d with
      | int b =>
        rw [rel.int_of]
        exact ⟨a, b, h2.int_of, rfl, h3.nx sim1 (rs1.set (.int _))⟩
      | _ => exact h3.elim
    · exact h.elim
theorem js_par {i j : Nat} {x y : Str} {a b : Expr} {ms : AM} {px py pt : Pos} {kt k2 pt2} (hc : X.calm = true) (hN : X.N.Nodup) (hi : X.N[i]? = some x) (hj : X.N[j]? = some y) (hij : i ≠ j)
    (hx : X.env.scope.names.lookup x = some .local) (hy : X.env.scope.names.lookup y = some .local) (ha : PA X [a, b] (tDA X.K X.mg Wx ms))
    (hw : swappedStores [.Tuple [.Name x px, .Name y py] kt pt] (.Tuple [a, b] k2 pt2) X.env = pure (some [x, y]))
    (hs : swapsWithSole [.Tuple [.Name x px, .Name y py] kt pt] (.Tuple [a, b] k2 pt2) pos.line X.env = pure false := by rfl) :
    PS X (.Assign [.Tuple [.Name x px, .Name y py] kt pt] (.Tuple [a, b] k2 pt2) pos) (tDS X.K X.mg Wx (sPar i j ms)) :=
  ps_imp (ps_par hc hN hi hj hij hx hy ha hw hs) fun E g H h => by
    obtain ⟨T, r, S, rs, sim, h⟩ := h
    refine ⟨T, r, S, rs, sim, ZOut.bind h rs fun d S1 T1 H1 v st sim1 rel rs1 h1 => ?_⟩
    cases rel with
    | nil => exact h1.elim
    | cons q1 rel =>
      cases rel with
      | nil => exact h1.elim
      | cons q2 rel =>
        cases rel with
        | nil => exact ⟨_, _, rfl, h1.nx sim1 ((rs1.set q1).set q2)⟩
        | cons _ _ => exact h1.elim
end

/-! ### targets -/
def gD (K : PySem.W.Frag) (mg : Str → Option Value) (sl : List Nat) (gm : D → Env → Option Env) : TG := fun v g H Q => ∃ T r S d r', RepSt K T H r g ∧ Sim K mg T S H ∧ Rep K T H v d ∧ gm d r = some r' ∧
  ∀ g', RepSt K T H r' g' → g'.length = g.length → (∀ j, j ∉ sl → g'[j]? = g[j]?) → Q g' H
def gDs (K : PySem.W.Frag) (mg : Str → Option Value) (sl : List Nat) (gm : List D → Env → Option Env) : TGs := fun vs g H Q => ∃ T r S ds r', RepSt K T H r g ∧ Sim K mg T S H ∧ RepL K T H vs ds ∧ gm ds r = some r' ∧
  ∀ g', RepSt K T H r' g' → g'.length = g.length → (∀ j, j ∉ sl → g'[j]? = g[j]?) → Q g' H
def tgN (i : Nat) : D → Env → Option Env := fun d r => some (r.set i (some d))
def tgsNil : List D → Env → Option Env := fun ds r => match ds with
  | [] => some r
  | _ => none
def tgsCons (a : D → Env → Option Env) (b : List D → Env → Option Env) : List D → Env → Option Env := fun ds r => match ds with
  | d :: ds => (a d r).bind fun r1 => b ds r1
  | [] => none
def tgT (n : Nat) (b : List D → Env → Option Env) : D → Env → Option Env := fun d r => match d with
  | .tup ds => if ds.length = n then b ds r else none
  | _ => none
section
variable {X : Cx} {pos : Pos}
theorem pg_imp {tg : Expr} {t t' : TG} (h : PG X tg t) (i : ∀ v g H Q, t' v g H Q → t v g H Q) : PG X tg t' := ⟨fun pins s g H v u Q I r w => h.run pins s g H v u Q I r (i v g H Q w)⟩
theorem pgs_imp {tg : List Expr} {t t' : TGs} (h : PGs X tg t) (i : ∀ v g H Q, t' v g H Q → t v g H Q) : PGs X tg t' := ⟨fun pins s g H v u Q I r w => h.run pins s g H v u Q I r (i v g H Q w)⟩
theorem jg_name {i : Nat} {x : Str} (hN : X.N.Nodup) (hi : X.N[i]? = some x) (hx : Loc X.env.scope x) (hf : X.fn x = true ∨ X.env.scope.names.lookup x = some .local := by first | exact .inl rfl | exact .inr rfl | assumption) : PG X (.Name x pos) (gD X.K X.mg [i] (tgN i)) :=
  pg_imp (pg_name hN hi hx hf) fun v g H Q h => by
    obtain ⟨T, r, S, d, r', rs, sim, rep, e, k⟩ := h
    cases e
    exact k _ (rs.set rep) List.length_set fun j hj => List.getElem?_set_ne fun q => hj (by rw [q]; exact List.mem_singleton.mpr rfl)
theorem jgs_nil : PGs X [] (gDs X.K X.mg [] tgsNil) := pgs_imp pgs_nil fun v g H Q h => by
  obtain ⟨T, r, S, d, r', rs, sim, rep, e, k⟩ := h
  cases rep with
  | nil =>
    cases e
    exact ⟨rfl, k g rs rfl fun _ _ => rfl⟩
  | cons _ _ => cases e
theorem jgs_cons {e : Expr} {es : List Expr} {sl sl2 : List Nat} {a : D → Env → Option Env} {b : List D → Env → Option Env} (h1 : PG X e (gD X.K X.mg sl a)) (h2 : PGs X es (gDs X.K X.mg sl2 b))
    (hs : (assignEach (e :: es) X.env).map (·.2) = assign e X.env :: (assignEach es X.env).map (·.2) := by rfl) : PGs X (e :: es) (gDs X.K X.mg (sl ++ sl2) (tgsCons a b)) := pgs_imp (pgs_cons h1 h2 hs) fun v g H Q h => by
  obtain ⟨T, r, S, ds, r', rs, sim, rep, e, k⟩ := h
  cases rep with
  | nil => cases e
  | @cons x vs d ds q1 q2 =>
    have e : (a d r).bind (fun r1 => b ds r1) = some r' := e
    cases q : a d r with
    | none => rw [q] at e; cases e
    | some r1 =>
      rw [q] at e
      refine ⟨x, vs, rfl, T, r, S, d, r1, rs, sim, q1, q, fun g1 rs1 l1 k1 => ?_⟩
      refine ⟨T, r1, S, ds, r', rs1, sim, q2, e, fun g2 rs2 l2 k2 => k g2 rs2 (l2.trans l1) fun j hj => ?_⟩
      rw [List.mem_append, not_or] at hj
      exact (k2 j hj.2).trans (k1 j hj.1)
theorem jg_tup {es : List Expr} {k n : Nat} {sl : List Nat} {b : List D → Env → Option Env} (hc : X.calm = true) (h : PGs X es (gDs X.K X.mg sl b))
    (hn : (assignEach es X.env).length = n := by rfl) (hst : (assignEach es X.env).findIdx? (·.1) = none := by rfl) : PG X (.Tuple es k pos) (gD X.K X.mg sl (tgT n b)) := pg_imp (pg_tup hc h hn hst) fun v g H Q h => by
  obtain ⟨T, r, S, d, r', rs, sim, rep, e, k⟩ := h
  cases rep with
  | tup h1 h2 h3 =>
    simp only [tgT] at e
    split at e
    · rename_i hl
      exact ⟨_, _, rfl, SqT.of h1, by rw [h3.length]; exact hl, T, r, S, _, r', rs, sim, h3, e, k⟩
    · cases e
  | _ => cases e
end
def sAsg (m : EM) (gm : D → Env → Option Env) : SM := fun r S => bindS (m r S) r fun d S1 => match gm d r with
  | some r1 => .ok .next r1 S1
  | none => .bad
section
variable {X : Cx} {Wx : WX} {pos : Pos} {tg e : Expr} {m : EM} {sl : List Nat} {gm : D → Env → Option Env}
theorem js_asg (he : PE X e (tD X.K X.mg Wx m)) (hg : PG X tg (gD X.K X.mg sl gm)) (hs : swapsWithSole [tg] e pos.line X.env = pure false := by rfl) (hw : swappedStores [tg] e X.env = pure none := by rfl)
    (h1 : (assignEach [tg] X.env).map (·.2) = [assign tg X.env] := by rfl) : PS X (.Assign [tg] e pos) (tDS X.K X.mg Wx (sAsg m gm)) :=
  ps_imp (ps_asg he hg hs hw h1) fun E g H h => by
    obtain ⟨T, r, S, rs, sim, h⟩ := h
    refine ⟨T, r, S, rs, sim, ZOut.bind h rs fun d S1 T1 H1 v st sim1 rel rs1 h1 => ?_⟩
    split at h1
    · rename_i r1 q
      exact ⟨T1, r, S1, d, r1, rs1, sim1, rel, q, fun g' rs' _ _ => h1.nx sim1 rs'⟩
    · exact h1.elim
end

/-! ### while -/
def sWhile (c : BM) (b : SM) : Nat → SM
  | 0 => fun _ _ => .bad
  | n + 1 => fun r S => bindS (c r S) r fun k S1 => if k = true then (match b r S1 with
      | .ok .next r2 S2 => sWhile c b n r2 S2
      | .ok .cont r2 S2 => sWhile c b n r2 S2
      | .ok .brk r2 S2 => .ok .next r2 S2
      | .ok (.ret d) r2 S2 => .ok (.ret d) r2 S2
      | .exc x r2 S2 => .exc x r2 S2
      | .bad => .bad) else .ok .next r S1
section
variable {X : Cx} {Wx : WX} {pos : Pos} {c : BM} {sb : SM}
theorem js_while {t : Expr} {body : List Stmt} (n : Nat) (hp : PassesOwn (model X.prog X.w) X.A X.env X.xe) (hc : PT X t (tDT X.K X.mg Wx c)) (hb : PSs X body (tDS X.K X.mg Wx sb)) : PS X (.While t body [] pos) (tDS X.K X.mg Wx (sWhile c sb n)) :=
  ps_imp (ps_while hp hc hb) fun E g H h => by
    refine ⟨fun m g H => ∃ T r S, RepSt X.K T H r g ∧ Sim X.K X.mg T S H ∧ ZOut X.K X.mg Wx T H (sWhile c sb m r S) E, ⟨n, h⟩, fun m g H h => ?_⟩
    obtain ⟨T, r, S, rs, sim, h⟩ := h
    cases m with
    | zero => exact h.elim
    | succ m =>
      refine ⟨T, r, S, rs, sim, ZOut.bind h rs fun d S1 T1 H1 v st sim1 rel rs1 h1 => ?_⟩
      subst rel
      cases v with
      | false => exact h1.nx sim1 rs1
      | true =>
        refine ⟨fun g H => ∃ T r S, RepSt X.K T H r g ∧ Sim X.K X.mg T S H ∧ ZOut X.K X.mg Wx T H (sWhile c sb m r S) E, fun g2 H2 q => ⟨m, Nat.lt_succ_self m, q⟩, T1, r, S1, rs1, sim1, ?_⟩
        rw [if_pos rfl] at h1
        revert h1
        cases sb r S1 with
        | bad => exact fun h => h
        | exc n r' S' => exact fun h => h
        | ok f r' S' =>
          cases f with
          | next => exact fun h T' H' g' s sim' rs' => ⟨T', r', S', rs', sim', ZOut.step s h⟩
          | cont => exact fun h T' H' g' s sim' rs' => ⟨T', r', S', rs', sim', ZOut.step s h⟩
          | ret d => exact fun h => h
          | brk => exact fun h => h
end

/-! ### what is walked -/
def Walks (K : PySem.W.Frag) (mg : Str → Option Value) (T : Tb) (H : Hp) (J : It) (ds : List D) : Prop := ∀ T' S' H', Kf T H T' H' → Sim K mg T' S' H' → J.stop ds.length H' ∧
  ∀ (i : Nat) (d : D), ds[i]? = some d → J.go i H' ∧ ∀ x H2, J.yld i H' x H2 → Step T' H' T' H2 ∧ Sim K mg T' S' H2 ∧ Rep K T' H2 x d
abbrev IM := Env → Store → R (List D)
def iD (K : PySem.W.Frag) (mg : Str → Option Value) (Wx : WX) (mi : IM) : TI := fun g H Q => ∃ T r S, RepSt K T H r g ∧ Sim K mg T S H ∧
  Out K mg Wx (fun T' H' (J : It) ds => Walks K mg T' H' J ds ∧ ds.length ≤ sizeLine) T g H (mi r S) Q
theorem Kp.trans {T T1 T2 : Tb} {H H1 H2 : Hp} (a : Kp T H T1 H1) (b : Kp T1 H1 T2 H2) : Kp T H T2 H2 := ⟨fun c u k n h => b.sq c u k (a.sq c u k n h).2 (a.sq c u k n h).1, fun c u n h => b.dk c u (a.dk c u n h).2 (a.dk c u n h).1, fun n c h => b.get n c (a.get n c h)⟩
theorem Kf.trans {T T1 T2 : Tb} {H H1 H2 : Hp} (a : Kf T H T1 H1) (b : Kf T1 H1 T2 H2) : Kf T H T2 H2 := ⟨a.toKp.trans b.toKp, fun c o u n h => b.frz c o u (a.frz c o u n h).2 (a.frz c o u n h).1⟩
theorem Walks.kp {K : PySem.W.Frag} {mg : Str → Option Value} {T T1 : Tb} {H H1 : Hp} {J : It} {ds : List D} (st : Kf T H T1 H1) (h : Walks K mg T H J ds) : Walks K mg T1 H1 J ds := fun T' S' H' s sim => h T' S' H' (st.trans s) sim
def sLoop (gm : D → Env → Option Env) (b : SM) : List D → SM
  | [] => fun r S => .ok .next r S
  | d :: ds => fun r S => match gm d r with
    | none => .bad
    | some r1 => match b r1 S with
      | .ok .next r2 S2 => sLoop gm b ds r2 S2
      | .ok .cont r2 S2 => sLoop gm b ds r2 S2
      | .ok .brk r2 S2 => .ok .next r2 S2
      | .ok (.ret d) r2 S2 => .ok (.ret d) r2 S2
      | .exc x r2 S2 => .exc x r2 S2
      | .bad => .bad
def sFor (mi : IM) (gm : D → Env → Option Env) (b : SM) : SM := fun r S => bindS (mi r S) r fun ds S1 => sLoop gm b ds r S1
section
variable {X : Cx} {Wx : WX} {pos : Pos} {tg iter : Expr} {mi : IM} {sl : List Nat} {gm : D → Env → Option Env} {sb : SM}
theorem js_for {body : List Stmt} (hp : PassesOwn (model X.prog X.w) X.A X.env X.xe) (hc : X.calm = true) (hi : PI X tg iter (iD X.K X.mg Wx mi)) (hg : PG X tg (gD X.K X.mg sl gm)) (hb : PSs X body (tDS X.K X.mg Wx sb))
    (hs : ∀ x, foldedSetIterable iter X.env x = pure x := by intro _; rfl) : PS X (.For tg iter body [] pos) (tDS X.K X.mg Wx (sFor mi gm sb)) :=
  ps_imp (ps_for hp hc hi hg hb hs) fun E g H h => by
    obtain ⟨T, r, S, rs, sim, h⟩ := h
    refine ⟨T, r, S, rs, sim, ZOut.bind h rs fun ds S1 T1 H1 J st sim1 rel rs1 h1 => ?_⟩
    obtain ⟨wk, hz⟩ := rel
    refine ⟨fun i m g H => ∃ T r S, m = ds.length - i ∧ i ≤ ds.length ∧ Step T1 H1 T H ∧ RepSt X.K T H r g ∧ Sim X.K X.mg T S H ∧ ZOut X.K X.mg Wx T H (sLoop gm sb (ds.drop i) r S) E, ⟨ds.length, T1, r, S1, by simp, Nat.zero_le _, Step.refl T1 H1, rs1, sim1, h1⟩, ?_⟩
    rintro i m g2 H2 ⟨T2, r2, S2, rfl, hi2, st2, rs2, sim2, h2⟩
    obtain ⟨stop, go⟩ := wk T2 S2 H2 st2.kf sim2
    by_cases hlt : i < ds.length
    · have ed : ds.drop i = ds[i] :: ds.drop (i + 1) := List.drop_eq_getElem_cons hlt
      rw [ed] at h2
      obtain ⟨g1, yl⟩ := go i ds[i] (List.getElem?_eq_getElem hlt)
      refine .inr ⟨g1, fun g H => ∃ T r S, Step T1 H1 T H ∧ RepSt X.K T H r g ∧ Sim X.K X.mg T S H ∧ ZOut X.K X.mg Wx T H (sLoop gm sb (ds.drop (i + 1)) r S) E, fun g3 H3 q => ?_, fun x H3 y => ?_⟩
      · obtain ⟨T3, r3, S3, q1, q2, q3, q4⟩ := q
        exact ⟨ds.length - (i + 1), by omega, T3, r3, S3, rfl, hlt, q1, q2, q3, q4⟩
      · obtain ⟨st3, sim3, rep3⟩ := yl x H3 y
        have h3 := ZOut.step st3 h2
        simp only [sLoop] at h3
        split at h3
        · exact h3.elim
        · rename_i r3 eg
          refine ⟨T2, r2, S2, ds[i], r3, rs2.step st3, sim3, rep3, eg, fun g4 rs4 _ _ => ⟨T2, r3, S2, rs4, sim3, ?_⟩⟩
          revert h3
          cases sb r3 S2 with
          | bad => exact fun h => h
          | exc n r' S' => exact fun h => h
          | ok f r' S' =>
            cases f with
            | next => exact fun h T' H' g' s sim' rs' => ⟨T', r', S', (st2.trans st3).trans s, rs', sim', ZOut.step s h⟩
            | cont => exact fun h T' H' g' s sim' rs' => ⟨T', r', S', (st2.trans st3).trans s, rs', sim', ZOut.step s h⟩
            | ret d => exact fun h => h
            | brk => exact fun h => h
    · have e : i = ds.length := by omega
      subst e
      rw [List.drop_length] at h2
      exact .inl ⟨stop, h2.nx sim2 rs2⟩
end
end Dv
namespace Dv
open PySem L2
/-! ### what is walked: lists, tuples, texts, ranges -/
def chD (c : Nat) : D := .str ⟨#[c]⟩
def seqD (d : D) : Option (List D) := match d with
  | .lst xs => some xs
  | .tup xs => some xs
  | .scr ns => some (ns.map D.int)
  | .str x => if x.cps.size ≤ 100000 then some (x.cps.toList.map chD) else none
  | _ => none
def mIter (m : EM) : IM := fun r S => (m r S).bind fun d S1 => ofO (seqD d) S1
def rng (lo : Int) (n : Nat) : List D := (List.range n).map fun i => D.int (lo + (i : Nat))
def rng1 (ds : List D) : Option (List D) := match ds with
  | [.int j] => if -100000 ≤ j ∧ j ≤ 100000 then some (rng 0 j.toNat) else none
  | _ => none
def rng2 (ds : List D) : Option (List D) := match ds with
  | [.int i, .int j] => if (-100000 ≤ i ∧ i ≤ 100000) ∧ (-100000 ≤ j ∧ j ≤ 100000) then some (rng i (j - i).toNat) else none
  | _ => none
def mRng1 (ms : AM) : IM := fun r S => (ms r S).bind fun ds S1 => ofO (rng1 ds) S1
def mRng2 (ms : AM) : IM := fun r S => (ms r S).bind fun ds S1 => ofO (rng2 ds) S1
def iSq (K : PySem.W.Frag) (tl : TE) : TI := fun g H Q => tl g H fun x H1 => (∃ a xs, x = .ref a ∧ SqL K H1 a xs ∧ Q (Itl K a) H1) ∨ (∃ a xs, x = .ref a ∧ SqT K H1 a xs ∧ Q (Itt K a) H1) ∨ ∃ z, x = .str z ∧ Q (Its z) H1
theorem pi_sq {X : Cx} {tg l : Expr} {tl : TE} (hl : PE X l tl) : PI X tg l (iSq X.K tl) := by
  refine ⟨fun pins s g H Q I h => thn (hl.run pins s g H _ I h) fun v s1 hv => ?_⟩
  obtain ⟨x, H1, I1, r1, q1⟩ := hv
  rcases q1 with ⟨a, xs, ex, hq, q⟩ | ⟨a, xs, ex, hq, q⟩ | ⟨z, ex, q⟩
  · subst ex
    cases r1
    obtain ⟨its, rv, pl, _⟩ := I1.list hq
    exact wpAny_pyIter_list pl.isList (pi_one (tk := s1.toks) I1 _ (turn_list a _) ⟨_, Heap.get?_push_size _ rfl, rfl, rfl⟩ q)
  · subst ex
    cases r1
    obtain ⟨its, rv, pl, _⟩ := I1.tuple hq
    exact wpAny_pyIter_tuple (show s1.heap.IsTuple a its.toArray from pl) (pi_one (tk := s1.toks) I1 _ (turn_tuple a _) ⟨_, Heap.get?_push_size _ rfl, rfl, rfl⟩ q)
  · subst ex
    obtain ⟨t, rfl⟩ := r1
    by_cases ha : z.cps.all (· < 128) = true
    · exact wpAny_pyIter_ascii ha (pi_one (tk := s1.toks) I1 _ (turn_str _ z t "str_ascii_iterator" (.inl rfl)) ⟨_, Heap.get?_push_size _ rfl, rfl, rfl⟩ q)
    · exact wpAny_pyIter_wide (by simpa using ha) (pi_one (tk := s1.toks) I1 _ (turn_str _ z t "str_iterator" (.inr rfl)) ⟨_, Heap.get?_push_size _ rfl, rfl, rfl⟩ q)
section
variable {K : PySem.W.Frag} {mg : Str → Option Value} {T : Tb} {H : Hp}
theorem walks_lst {a : Addr} {xs : List V} {ds : List D} (h : LAt K T H a xs) (r : RepL K T H xs ds) : Walks K mg T H (Itl K a) ds := fun T' S' H' kf sim => by
  have k := kf.toKp
  have hq : SqL K H' a xs := (h.kp k).sq
  refine ⟨⟨xs, hq, by rw [r.length]; exact Nat.le_refl _⟩, fun i d e => ?_⟩
  obtain ⟨v, h1, h2⟩ := r.get e
  refine ⟨⟨xs, v, hq, h1⟩, fun x H2 y => ?_⟩
  obtain ⟨rfl, y⟩ := y
  have e2 := (y xs hq).symm.trans h1
  cases e2
  exact ⟨Step.refl _ _, sim, h2.kp k⟩
theorem walks_tup {a : Addr} {xs : List V} {ds : List D} (h : H a = some (.tup xs)) (n : T.off a) (r : RepL K T H xs ds) : Walks K mg T H (Itt K a) ds := fun T' S' H' kf sim => by
  have k := kf.toKp
  have hq : SqT K H' a xs := SqT.of (k.tup n h).1
  refine ⟨⟨xs, hq, by rw [r.length]; exact Nat.le_refl _⟩, fun i d e => ?_⟩
  obtain ⟨v, h1, h2⟩ := r.get e
  refine ⟨⟨xs, v, hq, h1⟩, fun x H2 y => ?_⟩
  obtain ⟨rfl, y⟩ := y
  have e2 := (y xs hq).symm.trans h1
  cases e2
  exact ⟨Step.refl _ _, sim, h2.kp k⟩
theorem walks_str {z : Str} : Walks K mg T H (Its z) (z.cps.toList.map chD) := fun T' S' H' kf sim => by
  have k := kf.toKp
  refine ⟨?_, fun i d e => ?_⟩
  · show z.cps.size ≤ _
    rw [List.length_map, Array.length_toList]
    exact Nat.le_refl _
  · rw [List.getElem?_map] at e
    cases q : z.cps.toList[i]? with
    | none => rw [q] at e; cases e
    | some c =>
      rw [q] at e
      cases e
      have hi := (List.getElem?_eq_some_iff.mp q).1
      rw [Array.length_toList] at hi
      refine ⟨hi, fun x H2 y => ?_⟩
      obtain ⟨rfl, c', h1, rfl⟩ := y
      rw [Array.getElem?_toList] at q
      rw [q] at h1
      cases h1
      exact ⟨Step.refl _ _, sim, .str _⟩
theorem walks_rng {lo : Int} {n : Nat} : Walks K mg T H (Itr lo n) (rng lo n) := fun T' S' H' kf sim => by
  have k := kf.toKp
  refine ⟨?_, fun i d e => ?_⟩
  · show n ≤ _
    unfold rng
    rw [List.length_map, List.length_range]
    exact Nat.le_refl _
  · unfold rng at e
    rw [List.getElem?_map] at e
    cases q : (List.range n)[i]? with
    | none => rw [q] at e; cases e
    | some c =>
      rw [q] at e
      cases e
      obtain ⟨hi, hc⟩ := List.getElem?_eq_some_iff.mp q
      rw [List.length_range] at hi
      rw [List.getElem_range] at hc
      subst hc
      refine ⟨hi, fun x H2 y => ?_⟩
      obtain ⟨rfl, rfl⟩ := y
      exact ⟨Step.refl _ _, sim, .int _⟩
theorem rng_len (lo : Int) (n : Nat) : (rng lo n).length = n := by
  unfold rng
  rw [List.length_map, List.length_range]
end
section
variable {X : Cx} {Wx : WX} {tg e : Expr} {m : EM} {ms : AM} {pos p : Pos}
theorem ji_seq (h : PE X e (tD X.K X.mg Wx m)) : PI X tg e (iD X.K X.mg Wx (mIter m)) := pi_imp (pi_sq h) fun g H Q h => by
  obtain ⟨T, r, S, rs, sim, h⟩ := h
  refine ⟨T, r, S, rs, sim, Out.bind h fun d S1 T1 H1 v st sim1 rel h1 => ?_⟩
  refine Out.use h1 fun ds e k => ?_
  cases rel with
  | lst q1 q2 q3 =>
    cases e
    exact .inl ⟨_, _, rfl, SqL.of q1, k T1 H1 _ (Step.refl T1 H1) sim1 ⟨walks_lst (.inl ⟨.inl q1, q2⟩) q3, by rw [← q3.length]; exact sim1.hl _ _ (.inl (.inl q1))⟩⟩
  | scr q =>
    cases e
    exact .inl ⟨_, _, rfl, q.sq, k T1 H1 _ (Step.refl T1 H1) sim1 ⟨walks_lst q (RepL.ints _), by have := sim1.llen q; rw [List.length_map] at this ⊢; exact this⟩⟩
  | tup q1 q2 q3 =>
    cases e
    exact .inr (.inl ⟨_, _, rfl, SqT.of q1, k T1 H1 _ (Step.refl T1 H1) sim1 ⟨walks_tup q1 q2 q3, by rw [← q3.length]; exact sim1.hl _ _ (.inr (.inl q1))⟩⟩)
  | str x =>
    simp only [seqD] at e
    split at e
    · rename_i hz
      cases e
      exact .inr (.inr ⟨x, rfl, k T1 H1 _ (Step.refl T1 H1) sim1 ⟨walks_str, by rw [List.length_map, Array.length_toList]; exact sz5 hz⟩⟩)
    · cases e
  | _ => cases e
theorem ji_rng1 {a : Expr} (hg : Gl X "range") (hm : X.mg "range" = none) (ha : PA X [a] (tDA X.K X.mg Wx ms)) (hs : starEach [a] X.env = [(false, eval a X.env)] := by rfl) : PI X tg (.Call (.Name "range" p) [a] [] pos) (iD X.K X.mg Wx (mRng1 ms)) :=
  pi_imp (pi_range1 hg hm ha hs) fun g H Q h => by
    obtain ⟨T, r, S, rs, sim, h⟩ := h
    refine ⟨T, r, S, rs, sim, Out.bind h fun d S1 T1 H1 v st sim1 rel h1 => ?_⟩
    refine Out.use h1 fun ds e k => ?_
    unfold rng1 at e
    split at e
    · rename_i j
      split at e
      · rename_i hj
        cases e
        cases rel with
        | cons q1 q2 =>
          cases q2
          refine ⟨j, by rw [q1.int_of], by omega, by omega, k T1 H1 _ (Step.refl T1 H1) sim1 ⟨walks_rng, ?_⟩⟩
          rw [rng_len]
          exact sz5 (by omega)
      · cases e
    · cases e
theorem ji_rng2 {a b : Expr} (hg : Gl X "range") (hm : X.mg "range" = none) (ha : PA X [a, b] (tDA X.K X.mg Wx ms)) (hs : starEach [a, b] X.env = [(false, eval a X.env), (false, eval b X.env)] := by rfl) (hs2 : starEach [b] X.env = [(false, eval b X.env)] := by rfl) : PI X tg (.Call (.Name "range" p) [a, b] [] pos) (iD X.K X.mg Wx (mRng2 ms)) :=
  pi_imp (pi_range2 hg hm ha hs hs2) fun g H Q h => by
    obtain ⟨T, r, S, rs, sim, h⟩ := h
    refine ⟨T, r, S, rs, sim, Out.bind h fun d S1 T1 H1 v st sim1 rel h1 => ?_⟩
    refine Out.use h1 fun ds e k => ?_
    unfold rng2 at e
    split at e
    · rename_i i j
      split at e
      · rename_i hj
        cases e
        cases rel with
        | cons q1 q2 =>
          cases q2 with
          | cons q2 q3 =>
            cases q3
            refine ⟨i, j, by rw [q1.int_of, q2.int_of], by omega, k T1 H1 _ (Step.refl T1 H1) sim1 ⟨walks_rng, ?_⟩⟩
            rw [rng_len]
            exact Nat.le_trans (show (j - i).toNat ≤ 200000 by omega) (by decide)
      · cases e
    · cases e
end

/-! ### zip of two tuples, of two lists -/
def zipD (ds : List D) : Option (List D) := match ds with
  | [.tup xs, .tup ys] => some (List.zipWith (fun a b => D.tup [a, b]) xs ys)
  | [.lst xs, .lst ys] => some (List.zipWith (fun a b => D.tup [a, b]) xs ys)
  | _ => none
def mZip (ms : AM) : IM := fun r S => (ms r S).bind fun ds S1 => ofO (zipD ds) S1
theorem zip_get {xs ys : List D} {i : Nat} {d : D} (h : (List.zipWith (fun a b => D.tup [a, b]) xs ys)[i]? = some d) : ∃ a b, xs[i]? = some a ∧ ys[i]? = some b ∧ d = .tup [a, b] := by
  rw [List.getElem?_zipWith] at h
  cases q : xs[i]? with
  | none => rw [q] at h; cases h
  | some a =>
    cases q2 : ys[i]? with
    | none => rw [q, q2] at h; cases h
    | some b =>
      rw [q, q2] at h
      cases h
      exact ⟨a, b, rfl, rfl, rfl⟩
section
variable {X : Cx} {Wx : WX} {e e2 : Expr} {ms : AM} {pos p tpos : Pos} {elts : List Expr} {kk : Nat}
theorem pair_new {K : PySem.W.Frag} {mg : Str → Option Value} {T : Tb} {S : Store} {H : Hp} {p : Addr} {x y : V} {a b : D} (sim : Sim K mg T S H) (hp : H p = none) (ha : Rep K T H x a) (hb : Rep K T H y b) :
    Step T H T (upd H p (.tup [x, y])) ∧ Sim K mg T S (upd H p (.tup [x, y])) ∧ Rep K T (upd H p (.tup [x, y])) (.ref p) (.tup [a, b]) :=
  ⟨sim.stepNew hp, sim.new hp (hlen_tup sim.hl (by show 2 ≤ sizeLine; decide)), .tup upd_same (sim.off hp) (.cons (ha.step (sim.stepNew hp)) (.cons (hb.step (sim.stepNew hp)) .nil))⟩
theorem ji_zip (hg : Gl X "zip") (hm : X.mg "zip" = none) (ha : PA X [e, e2] (tDA X.K X.mg Wx ms)) (hs : starEach [e, e2] X.env = (false, eval e X.env) :: starEach [e2] X.env := by rfl) (hpl : (backTo pos (starEach [e2] X.env)).any (·.1) = false := by rfl) :
    PI X (.Tuple elts kk tpos) (.Call (.Name "zip" p) [e, e2] [] pos) (iD X.K X.mg Wx (mZip ms)) := pi_imp (RZ.pi_zipA hg hm ha hs hpl) fun g H Q h => by
  obtain ⟨T, r, S, rs, sim, h⟩ := h
  refine ⟨T, r, S, rs, sim, Out.bind h fun d S1 T1 H1 v st sim1 rel h1 => ?_⟩
  refine Out.use h1 fun ds e k => ?_
  unfold zipD at e
  split at e
  · cases e
    cases rel with
    | cons q1 q2 =>
      cases q2 with
      | cons q2 q3 =>
        cases q3
        cases q1 with
        | @tup a xs _ h1 n1 r1 =>
          cases q2 with
          | @tup b ys _ h2 n2 r2 =>
            refine ⟨a, b, xs, ys, rfl, .inr ⟨SqT.of h1, SqT.of h2, k T1 H1 _ (Step.refl T1 H1) sim1 ⟨fun T' S' H' kp sim' => ?_, ?_⟩⟩⟩
            · have k1 : SqT X.K H' a xs := SqT.of (kp.tup n1 h1).1
              have k2 : SqT X.K H' b ys := SqT.of (kp.tup n2 h2).1
              refine ⟨⟨xs, ys, k1, k2, ?_⟩, fun i d ed => ?_⟩
              · rw [List.length_zipWith, ← r1.length, ← r2.length]
                omega
              · obtain ⟨x, y, e1, e2, rfl⟩ := zip_get ed
                obtain ⟨v1, f1, f2⟩ := r1.get e1
                obtain ⟨v2, f3, f4⟩ := r2.get e2
                refine ⟨⟨xs, ys, v1, v2, k1, k2, f1, f3⟩, fun z H2 yl => ?_⟩
                obtain ⟨P, x', y', rfl, hn, rfl, g1, g2⟩ := yl
                have z1 := (g1 xs k1).symm.trans f1
                have z2 := (g2 ys k2).symm.trans f3
                cases z1; cases z2
                exact pair_new sim' hn (f2.kp kp.toKp) (f4.kp kp.toKp)
            · rw [List.length_zipWith, ← r1.length]
              exact Nat.le_trans (Nat.min_le_left _ _) (sim1.hl _ _ (.inr (.inl h1)))
  · cases e
    cases rel with
    | cons q1 q2 =>
      cases q2 with
      | cons q2 q3 =>
        cases q3
        cases q1 with
        | @lst a xs _ h1 n1 r1 =>
          cases q2 with
          | @lst b ys _ h2 n2 r2 =>
            refine ⟨a, b, xs, ys, rfl, .inl ⟨SqL.of h1, SqL.of h2, k T1 H1 _ (Step.refl T1 H1) sim1 ⟨fun T' S' H' kp sim' => ?_, ?_⟩⟩⟩
            · have k1 : SqL X.K H' a xs := SqL.of (kp.lst n1 h1).1
              have k2 : SqL X.K H' b ys := SqL.of (kp.lst n2 h2).1
              refine ⟨⟨xs, ys, k1, k2, ?_⟩, fun i d ed => ?_⟩
              · rw [List.length_zipWith, ← r1.length, ← r2.length]
                omega
              · obtain ⟨x, y, e1, e2, rfl⟩ := zip_get ed
                obtain ⟨v1, f1, f2⟩ := r1.get e1
                obtain ⟨v2, f3, f4⟩ := r2.get e2
                refine ⟨⟨xs, ys, v1, v2, k1, k2, f1, f3⟩, fun z H2 yl => ?_⟩
                obtain ⟨P, x', y', rfl, hn, rfl, g1, g2⟩ := yl
                have z1 := (g1 xs k1).symm.trans f1
                have z2 := (g2 ys k2).symm.trans f3
                cases z1; cases z2
                exact pair_new sim' hn (f2.kp kp.toKp) (f4.kp kp.toKp)
            · rw [List.length_zipWith, ← r1.length]
              exact Nat.le_trans (Nat.min_le_left _ _) (sim1.hl _ _ (.inl (.inl h1)))
  · cases e
end

/-! ### list comprehensions -/
def W0 : WX := fun _ _ _ _ => False
def nox {α : Type} (x : R α) : R α := match x with
  | .exc _ _ => .bad
  | y => y
def wipeE (r : Env) : List Nat → Env
  | [] => r
  | v :: vs => (wipeE r vs).set v none
def lcL (gm : D → Env → Option Env) (tt : BM) (te : EM) (r0 : Env) : List D → Store → R (List D)
  | [], S => .ok [] S
  | d :: ds, S => match gm d r0 with
    | none => .bad
    | some r1 => (nox (tt r1 S)).bind fun b S1 => if b = true then (nox (te r1 S1)).bind fun y S2 => (lcL gm tt te r0 ds S2).bind fun ys S3 => .ok (y :: ys) S3 else lcL gm tt te r0 ds S1
def mLc (mi : IM) (vs : List Nat) (gm : D → Env → Option Env) (tt : BM) (te : EM) : EM := fun r S => (mi r S).bind fun ds S1 => (lcL gm tt te (wipeE r vs) ds S1).bind fun ys S2 => .ok (.lst ys) S2
def mYes : BM := fun _ S => .ok true S
section
variable {K : PySem.W.Frag} {mg : Str → Option Value} {Wx : WX} {T : Tb} {H : Hp} {r : Env} {g : St}
theorem RepSt.wipe (h : RepSt K T H r g) : ∀ vs : List Nat, RepSt K T H (wipeE r vs) (L2.wipe g vs)
  | [] => h
  | v :: vs => (RepSt.wipe h vs).forgetB
theorem wipe_get {g : St} {i : Nat} : ∀ {vs : List Nat}, i ∈ vs → i < g.length → (L2.wipe g vs)[i]? = some none
  | [], h, _ => nomatch h
  | v :: vs, h, hl => by
    unfold L2.wipe
    by_cases e : v = i
    · subst e
      rw [List.getElem?_set_self (by rw [wipe_length]; exact hl)]
    · rw [List.getElem?_set_ne e]
      exact wipe_get ((List.mem_cons.mp h).resolve_left fun q => e q.symm) hl
theorem wipe_same {g g2 : St} {vs sl : List Nat} (hs : ∀ i ∈ sl, i ∈ vs) (hl : g2.length = g.length) (h : ∀ j, j ∉ sl → g2[j]? = (L2.wipe g vs)[j]?) : L2.wipe g2 vs = L2.wipe g vs := by
  refine List.ext_getElem? fun j => ?_
  by_cases hj : j ∈ vs
  · by_cases hlt : j < g.length
    · rw [wipe_get hj (by rw [hl]; exact hlt), wipe_get hj hlt]
    · rw [List.getElem?_eq_none (by rw [wipe_length, hl]; omega), List.getElem?_eq_none (by rw [wipe_length]; omega)]
  · rw [wipe_out hj, h j fun q => hj (hs j q)]
/-- the new list hidden -/
def Tb.hide (T : Tb) (p : Addr) : Tb := ⟨T.loc, p :: T.hid⟩
theorem Sim.hide {S : Store} {p : Addr} {u : HO} (s : Sim K mg T S H) (hp : H p = none) (hl : HLen (upd H p u)) : Kp T H (T.hide p) (upd H p u) ∧ Sim K mg (T.hide p) S (upd H p u) := by
  have kp : Kp T H (T.hide p) (upd H p u) := ⟨fun b v _ n h => by
    have nb : b ≠ p := ne_of_none h hp
    exact ⟨by rw [upd_ne nb]; exact h, n.1, fun q => (List.mem_cons.mp q).elim nb n.2⟩, fun b v n h => by
    have nb : b ≠ p := fun e => rd_some h (by rw [e]; exact hp)
    exact ⟨rd_keep (fun w q => by rw [upd_ne nb]; exact q) h, n.1, fun q => (List.mem_cons.mp q).elim nb n.2⟩, fun _ _ h => h⟩
  refine ⟨kp, s.len, ?_, fun i a o h1 h2 => (s.obj i a o h1 h2).kp kp (upd_ne fun e => (s.off hp).1 (by rw [← e]; exact List.mem_of_getElem? h1)), fun a ha => ?_, hl⟩
  · have h0 := List.nodup_append.mp s.nd
    refine List.nodup_append.mpr ⟨h0.1, List.nodup_cons.mpr ⟨(s.off hp).2, h0.2.1⟩, fun a ha b hb e => ?_⟩
    rcases List.mem_cons.mp hb with hb | hb
    · exact (s.off hp).1 (by rw [← hb, ← e]; exact ha)
    · exact h0.2.2 a ha b hb e
  · rcases List.mem_cons.mp ha with ha | ha
    · rw [ha, upd_same]
      exact fun e => by cases e
    · rw [upd_ne fun e => s.hid a ha (by rw [e]; exact hp)]
      exact s.hid a ha
theorem Sim.setHid {S : Store} {p : Addr} {u : HO} (s : Sim K mg T S H) (hp : p ∈ T.hid) (hl : HLen (upd H p u)) : Kf T H T (upd H p u) ∧ Sim K mg T S (upd H p u) := by
  have kp : Kp T H T (upd H p u) := ⟨fun b v _ n h => by
    have nb : b ≠ p := fun e => n.2 (by rw [e]; exact hp)
    exact ⟨by rw [upd_ne nb]; exact h, n⟩, fun b v n h => by
    have nb : b ≠ p := fun e => n.2 (by rw [e]; exact hp)
    exact ⟨rd_keep (fun w q => by rw [upd_ne nb]; exact q) h, n⟩, fun _ _ h => h⟩
  refine ⟨⟨kp, fun b o v n h => ⟨by rw [upd_ne fun e => n.2 (by rw [e]; exact hp)]; exact h, n⟩⟩, s.len, s.nd, fun i a o h1 h2 => (s.obj i a o h1 h2).kp kp (upd_ne fun e => s.apart (List.mem_of_getElem? h1) (by rw [e]; exact hp)), fun a ha => ?_, hl⟩
  by_cases e : a = p
  · rw [e, upd_same]
    exact fun e => by cases e
  · rw [upd_ne e]
    exact s.hid a ha
theorem R.bind_assoc {α β γ : Type} (x : R α) (f : α → Store → R β) (k : β → Store → R γ) : (x.bind f).bind k = x.bind fun a S => (f a S).bind k := by
  cases x <;> rfl
theorem off_unhide {p a : Addr} {l h : List Addr} (x : (Tb.mk l (p :: h)).off a) : (Tb.mk l h).off a := ⟨x.1, fun q => x.2 (List.mem_cons_of_mem _ q)⟩
theorem kp_unhide {p : Addr} {l h : List Addr} : Kp ⟨l, p :: h⟩ H ⟨l, h⟩ H := ⟨fun _ _ _ n q => ⟨q, off_unhide n⟩, fun _ _ n q => ⟨q, off_unhide n⟩, fun _ _ q => q⟩
theorem Sim.unhide {S : Store} {p : Addr} {l h : List Addr} (s : Sim K mg ⟨l, p :: h⟩ S H) : Sim K mg ⟨l, h⟩ S H :=
  ⟨s.len, by
    have h0 := List.nodup_append.mp s.nd
    exact List.nodup_append.mpr ⟨h0.1, (List.nodup_cons.mp h0.2.1).2, fun a ha b hb e => h0.2.2 a ha b (List.mem_cons_of_mem _ hb) e⟩, fun i a o h1 h2 => (s.obj i a o h1 h2).kp kp_unhide rfl, fun a ha => s.hid a (List.mem_cons_of_mem _ ha), s.hl⟩
theorem lc_bind {α β γ δ : Type} {relA : Tb → Hp → β → α → Prop} {relB : Tb → Hp → δ → γ → Prop} {T1 : Tb} {H1 : Hp} {g g2 : St} {x : R α} {f : α → Store → R γ} {Q : δ → Hp → Prop} {Q1 : β → Hp → Prop} (h : Out K mg Wx relB T1 g H1 ((nox x).bind f) Q)
    (k : ∀ a S T3 H3 v, Step T H T3 H3 → Sim K mg T3 S H3 → relA T3 H3 v a → Out K mg Wx relB T1 g H1 (f a S) Q → Q1 v H3) : Out K mg W0 relA T g2 H x Q1 := by
  cases x with
  | bad => exact h.elim
  | exc n S => exact h.elim
  | ok a S => exact fun T3 H3 v st sim rl => k a S T3 H3 v st sim rl h
end
section
variable {X : Cx} {Wx : WX} {elt tg iter : Expr} {ifs : List Expr} {scope : Scope} {own : List (Str × Nat)} {pos : Pos} {mi : IM} {sl : List Nat} {gm : D → Env → Option Env} {tt : BM} {te : EM}
theorem jts_nil : PTs X [] (tDT X.K X.mg Wx mYes) := ⟨fun pins s g H Q I h => by
  obtain ⟨T, r, S, rs, sim, h⟩ := h
  exact pts_nil.run pins s g H Q I (h T H true (Step.refl T H) sim rfl)⟩
theorem jts_one {c : Expr} (h : PT X c (tDT X.K X.mg Wx tt)) : PTs X [c] (tDT X.K X.mg Wx tt) := pts_one h
theorem tLc_of {K : PySem.W.Frag} {mg : Str → Option Value} {vs : List Nat} (hsl : ∀ i ∈ sl, i ∈ vs) : ∀ g H Q, tD K mg Wx (mLc mi vs gm tt te) g H Q → tLc (iD K mg Wx mi) (gD K mg sl gm) (tDT K mg W0 tt) (tD K mg W0 te) vs g H Q := by
  intro g H Q h
  obtain ⟨T, r, S, rs, sim, h⟩ := h
  refine ⟨T, r, S, rs, sim, Out.bind h fun ds S1 T1 H1 J st sim1 rel h1 => ?_⟩
  obtain ⟨wk, hz⟩ := rel
  intro Dl hD
  have hl0 : HLen (upd H1 Dl (.lst [])) := hlen_lst sim1.hl (Nat.zero_le _)
  obtain ⟨kp0, simh⟩ := sim1.hide (u := .lst []) hD hl0
  have rs1 := rs.step st
  refine ⟨fun i m H => ∃ T S acc ys, m = ds.length - i ∧ i ≤ ds.length ∧ T.hid = Dl :: T1.hid ∧ Step T1 H1 ⟨T.loc, T1.hid⟩ H ∧ Sim K mg T S H ∧ H Dl = some (.lst acc) ∧ RepL K T H acc ys ∧ ys.length ≤ i ∧
    Out K mg Wx (Rep K) T1 g H1 ((lcL gm tt te (wipeE r vs) (ds.drop i) S).bind fun zs S2 => .ok (.lst (ys ++ zs)) S2) Q, ⟨ds.length, T1.hide Dl, S1, [], [], by simp, Nat.zero_le _, rfl, sim1.stepNew hD, simh, upd_same, .nil, Nat.le_refl _, by simpa using h1⟩, ?_⟩
  rintro i m H2 ⟨T2, S2, acc, ys, rfl, hi, eh, st2, sim2, hD2, ra, hys, ho⟩
  have off2 : ∀ b, T1.off b → H1 b ≠ none → T2.off b := fun b n q => ⟨(st2.out q n).1, fun z => by
    rw [eh] at z
    rcases List.mem_cons.mp z with z | z
    · exact q (by rw [z]; exact hD)
    · exact n.2 z⟩
  have kp2 : Kp T1 H1 T2 H2 := ⟨fun b u k n q => ⟨st2.keep b u n q, off2 b n (some_ne q)⟩, fun b u n q => ⟨st2.rd q n, off2 b n (rd_some q)⟩, fun n a q => st2.get q⟩
  have kf2 : Kf T1 H1 T2 H2 := ⟨kp2, fun b o u n q => ⟨st2.keep b _ n q, off2 b n (some_ne q)⟩⟩
  obtain ⟨stop, go⟩ := wk T2 S2 H2 kf2 sim2
  by_cases hlt : i < ds.length
  · have ed : ds.drop i = ds[i] :: ds.drop (i + 1) := List.drop_eq_getElem_cons hlt
    rw [ed] at ho
    obtain ⟨g1, yl⟩ := go i ds[i] (List.getElem?_eq_getElem hlt)
    refine .inr ⟨g1, fun H => ∃ T S acc ys, T.hid = Dl :: T1.hid ∧ Step T1 H1 ⟨T.loc, T1.hid⟩ H ∧ Sim K mg T S H ∧ H Dl = some (.lst acc) ∧ RepL K T H acc ys ∧ ys.length ≤ i + 1 ∧
      Out K mg Wx (Rep K) T1 g H1 ((lcL gm tt te (wipeE r vs) (ds.drop (i + 1)) S).bind fun zs S2 => .ok (.lst (ys ++ zs)) S2) Q, fun H3 q => ?_, fun x H3 y => ?_⟩
    · obtain ⟨T3, S3, acc3, ys3, q1, q2, q3, q4, q5, q6, q7⟩ := q
      exact ⟨ds.length - (i + 1), by omega, T3, S3, acc3, ys3, rfl, hlt, q1, q2, q3, q4, q5, q6, q7⟩
    · obtain ⟨st3, sim3, rep3⟩ := yl x H3 y
      simp only [lcL] at ho
      -- how a step of the hidden table is one of the open one
      have opn : ∀ {Ta Tb : Tb} {Ha Hb : Hp}, Ta.hid = Dl :: T1.hid → Step T1 H1 ⟨Ta.loc, T1.hid⟩ Ha → Step Ta Ha Tb Hb → Tb.hid = Dl :: T1.hid ∧ Step T1 H1 ⟨Tb.loc, T1.hid⟩ Hb := fun {Ta Tb Ha Hb} e1 s1 s2 => by
        refine ⟨s2.hid.trans e1, s1.trans ⟨s2.ext, rfl, fun b hb => s2.hkeep b (by rw [e1]; exact List.mem_cons_of_mem _ hb), fun b u n q => ?_, s2.new⟩⟩
        by_cases hb : b = Dl
        · subst hb
          rw [s2.hkeep b (by rw [e1]; exact List.mem_cons_self)]
          exact q
        · exact s2.keep b u ⟨n.1, fun z => by
            rw [e1] at z
            exact (List.mem_cons.mp z).elim hb n.2⟩ q
      obtain ⟨eh3, op3⟩ := opn eh st2 st3
      have hid3 : Dl ∈ T2.hid := by rw [eh]; exact List.mem_cons_self
      split at ho
      · exact ho.elim
      · rename_i r1 eg
        refine ⟨T2, wipeE r vs, S2, ds[i], r1, ((rs1.wipe vs).kp kp2).step st3, sim3, rep3, eg, fun g4 rs4 lg kg => ⟨wipe_same hsl (by rw [lg, wipe_length]) kg, T2, r1, S2, rs4, sim3, ?_⟩⟩
        rw [R.bind_assoc] at ho
        refine lc_bind ho fun b S4 T4 H4 v st4 sim4 rel4 ho4 => ?_
        subst rel4
        obtain ⟨eh4, op4⟩ := opn eh3 op3 st4
        have hid4 : Dl ∈ T4.hid := by rw [eh4]; exact List.mem_cons_self
        have hD4 : H4 Dl = some (.lst acc) := (st4.hkeep Dl hid3).trans ((st3.hkeep Dl hid3).trans hD2)
        cases v with
        | false =>
          rw [if_neg Bool.false_ne_true] at ho4 ⊢
          exact ⟨T4, S4, acc, ys, eh4, op4, sim4, hD4, ra.step (st3.trans st4), by omega, ho4⟩
        | true =>
          rw [if_pos rfl, R.bind_assoc] at ho4
          rw [if_pos rfl]
          refine ⟨T4, r1, S4, rs4.step st4, sim4, lc_bind ho4 fun yd S5 T5 H5 yv st5 sim5 rel5 ho5 => ?_⟩
          obtain ⟨eh5, op5⟩ := opn eh4 op4 st5
          have hid5 : Dl ∈ T5.hid := by rw [eh5]; exact List.mem_cons_self
          have ra5 : RepL K T5 H5 acc ys := ra.step ((st3.trans st4).trans st5)
          have hal : acc.length < sizeLine := by rw [ra5.length]; omega
          have hl5 : HLen (upd H5 Dl (.lst (acc ++ [yv]))) := hlen_lst sim5.hl (by rw [List.length_append, List.length_singleton]; omega)
          obtain ⟨kp5, sim6⟩ := sim5.setHid (u := .lst (acc ++ [yv])) hid5 hl5
          refine ⟨acc, (st5.hkeep Dl hid4).trans hD4, hal, T5, S5, acc ++ [yv], ys ++ [yd], eh5, ⟨op5.ext, rfl, fun b hb => ?_, fun b u n q => ?_, op5.new⟩, sim6, upd_same, RepL.append (ra5.kp kp5.toKp) (.cons (rel5.kp kp5.toKp) .nil), by rw [List.length_append, List.length_singleton]; omega, ?_⟩
          · rw [upd_ne fun e => sim1.hid b hb (by rw [e]; exact hD)]
            exact op5.hkeep b hb
          · rw [upd_ne (ne_of_none q hD)]
            exact op5.keep b u n q
          · rw [R.bind_assoc] at ho5
            have e5 : (fun zs S2 => (R.ok (D.lst (ys ++ [yd] ++ zs)) S2 : R D)) = fun a S => (R.ok (yd :: a) S).bind fun zs S2 => R.ok (D.lst (ys ++ zs)) S2 := by
              funext zs S2
              show _ = R.ok (D.lst (ys ++ (yd :: zs))) S2
              rw [List.append_assoc]
              rfl
            rw [e5]
            exact ho5
  · have e : i = ds.length := by omega
    subst e
    rw [List.drop_length] at ho
    refine .inl ⟨stop, ho ⟨T2.loc, T1.hid⟩ H2 _ st2 ?_ ?_⟩
    · have h9 := sim2
      obtain ⟨l2, h2⟩ := T2
      cases eh
      exact h9.unhide
    · obtain ⟨l2, h2⟩ := T2
      cases eh
      rw [List.append_nil]
      refine .lst hD2 ⟨fun z => ?_, fun z => ?_⟩ (ra.kp kp_unhide)
      · exact sim2.apart z List.mem_cons_self
      · have nd := (List.nodup_append.mp sim2.nd).2.1
        exact (List.nodup_cons.mp nd).1 z
theorem j_lc (hsl : ∀ i ∈ sl, i ∈ own.map (·.2)) (hc : X.calm = true) (hN : X.N.Nodup) (hi : PI X tg iter (iD X.K X.mg Wx mi)) (ok : BlkOk X.N X.env.scope scope own)
    (hg : ∀ (s : Shared) (H : Hp) (C : Addr) (cl : List (Str × Addr)) (fp : List Addr), PG (X.blk s H scope (compEnvC scope cl C X.env) fp) tg (gD X.K X.mg sl gm)) (ht : ∀ (s : Shared) (H : Hp) (C : Addr) (cl : List (Str × Addr)) (fp : List Addr), PTs (X.blk s H scope (compEnvC scope cl C X.env) fp) ifs (tDT X.K X.mg W0 tt))
    (he : ∀ (s : Shared) (H : Hp) (C : Addr) (cl : List (Str × Addr)) (fp : List Addr), PE (X.blk s H scope (compEnvC scope cl C X.env) fp) elt (tD X.K X.mg W0 te)) (hs : ∀ x, foldedSetIterable iter X.env x = pure x := by intro _; rfl) :
    PE X (.ListComp elt [⟨tg, iter, ifs, 0⟩] scope pos) (tD X.K X.mg Wx (mLc mi (own.map (·.2)) gm tt te)) := pe_imp (pe_lc hc hN hi ok hg ht he hs) (tLc_of hsl)
theorem js_setLc {i : Nat} {y : Str} {py spos : Pos} (hsl : ∀ i ∈ sl, i ∈ own.map (·.2)) (hc : X.calm = true) (hN : X.N.Nodup) (hy : X.N[i]? = some y) (hyl : X.env.scope.names.lookup y = some .local)
    (hsw : swapsWith (.ListComp elt [⟨tg, iter, ifs, 0⟩] scope pos) (some (.Name y py)) spos.line X.env = pure true) (hi : PI X tg iter (iD X.K X.mg Wx mi)) (ok : BlkOk X.N X.env.scope scope own)
    (hg : ∀ (s : Shared) (H : Hp) (C : Addr) (cl : List (Str × Addr)) (fp : List Addr), PG (X.blk s H scope (compEnvC scope cl C X.env) fp) tg (gD X.K X.mg sl gm)) (ht : ∀ (s : Shared) (H : Hp) (C : Addr) (cl : List (Str × Addr)) (fp : List Addr), PTs (X.blk s H scope (compEnvC scope cl C X.env) fp) ifs (tDT X.K X.mg W0 tt))
    (he : ∀ (s : Shared) (H : Hp) (C : Addr) (cl : List (Str × Addr)) (fp : List Addr), PE (X.blk s H scope (compEnvC scope cl C X.env) fp) elt (tD X.K X.mg W0 te)) (hs : ∀ x, foldedSetIterable iter X.env x = pure x := by intro _; rfl) :
    PS X (.Assign [.Name y py] (.ListComp elt [⟨tg, iter, ifs, 0⟩] scope pos) spos) (tDS X.K X.mg Wx (sSet i (mLc mi (own.map (·.2)) gm tt te))) :=
  ps_imp (ps_setLc hc hN hy hyl hsw hi ok hg ht he hs) fun E g H h => by
    obtain ⟨T, r, S, rs, sim, h⟩ := h
    refine tLc_of hsl g H _ ⟨T, r, S, rs, sim, ZOut.bind h rs fun d S1 T1 H1 v st sim1 rel rs1 h1 => ?_⟩
    exact h1.nx sim1 (rs1.set rel)
end
end Dv
namespace Dv
open PySem L2
/-! ### defs of the text -/
def spD (K : PySem.W.Frag) (mg : Str → Option Value) (n : Nat) (F : List D → Store → R D) : Sp := fun vs H Q E => vs.length = n ∧ ∃ T S ds, RepL K T H vs ds ∧ Sim K mg T S H ∧ Out K mg (fun c d _ H => E c d H) (Rep K) T [] H (F ds S) Q
def mApp (n : Nat) (F : List D → Store → R D) (ms : AM) : EM := fun r S => (ms r S).bind fun ds S1 => if ds.length = n then F ds S1 else .bad
section
variable {X : Cx} {Wx : WX} {k n : Nat} {f : Addr} {fd : FuncData} {ps : List Str} {Fn : List D → Store → R D} {x : Str} {p pos : Pos} {e : Expr} {es : List Expr} {ms : AM}
theorem j_call (F : FnOk X.prog X.w X.K X.mg X.base (L2.CX X.prog X.w) k f fd ps (spD X.K X.mg n Fn)) (hr : Room k X.A) (hg : Gl X x) (hm : X.mg x = some (.ref f)) (hk : PySem.W.keepIn X.K (.ref f) = true) (hb : Binds X.K fd ps []) (tk : Takes X Wx)
    (ha : PA X (e :: es) (tDA X.K X.mg Wx ms)) (hdb : (x == ("__debug__" : Str)) = false := by decide) (he : starEach (e :: es) X.env = (false, eval e X.env) :: starEach es X.env := by rfl) (hpl : (backTo pos (starEach es X.env)).any (·.1) = false := by rfl) :
    PE X (.Call (.Name x p) (e :: es) [] pos) (tD X.K X.mg Wx (mApp n Fn ms)) :=
  pe_imp (pe_callSD (E := WE Wx) F hr hg hm hk hb .nil (fun g => passAt tk g) ha hdb he hpl) fun g H Q h => by
    obtain ⟨T, r, S, rs, sim, h⟩ := h
    refine ⟨T, r, S, rs, sim, Out.bind h fun ds S1 T1 H1 vs st sim1 rel h1 => ?_⟩
    split at h1
    · rename_i hn
      rw [List.append_nil]
      refine ⟨by rw [rel.length]; exact hn, T1, S1, ds, rel, sim1, ?_⟩
      revert h1
      cases Fn ds S1 with
      | bad => exact fun h => h
      | exc x S2 => exact fun h => h
      | ok d S2 => exact fun h => h
    · exact h1.elim
end
def frame (sz : Nat) (ds : List D) : Env := ds.map some ++ List.replicate (sz - ds.length) none
theorem frame_ok {K : PySem.W.Frag} {T : Tb} {H : Hp} {vs : List V} {ds : List D} (N : List Str) (h : RepL K T H vs ds) : RepSt K T H (frame N.length ds) (L2.start N vs) := by
  have hl := h.length
  refine ⟨?_, fun i d e => ?_⟩
  · unfold frame L2.start
    rw [List.length_append, List.length_append, List.length_map, List.length_map, hl, List.length_replicate, List.length_replicate]
  · unfold frame at e
    by_cases hi : i < ds.length
    · rw [List.getElem?_append_left (by rw [List.length_map]; exact hi), List.getElem?_map, List.getElem?_eq_getElem hi] at e
      cases e
      obtain ⟨v, h1, h2⟩ := h.get (List.getElem?_eq_getElem hi)
      refine ⟨v, ?_, h2⟩
      unfold L2.start
      rw [List.getElem?_append_left (by rw [List.length_map, hl]; exact hi), List.getElem?_map, h1]
      rfl
    · rw [List.getElem?_append_right (by rw [List.length_map]; omega), List.getElem?_replicate] at e
      split at e <;> cases e
/-- what a body comes to, its new things kept -/
def finK (z : Z) : R D := match z with
  | .ok (.ret d) _ S => .ok d S
  | .ok .next _ S => .ok .non S
  | .exc n _ S => .exc n S
  | _ => .bad
def runK (sz : Nat) (b : SM) : List D → Store → R D := fun ds S => finK (b (frame sz ds) S)
section
variable {P : Program} {w : World} {K : PySem.W.Frag} {mg : Str → Option Value} {base : Heap} {x qual : Str} {st : Stmt} {f : Addr} {fd : FuncData} {N ps : List Str} {k : Nat} {b : SM}
abbrev BodyOk (P : Program) (w : World) (K : PySem.W.Frag) (mg : Str → Option Value) (base : Heap) (N : List Str) (qual : Str) (st : Stmt) (f : Addr) (k : Nat) (b : SM) : Prop :=
  ∀ (cdv : Value) (A : Around) (outer : List PySem.Env) (s : Shared) (H : Hp) (E : XK), Room k (A.deeper (PyProof.Rows.envOfC qual (defScope st) s.heap.objs.size f cdv)) →
    PSs (cxOf (L2.CX P w) P w K mg base N qual (defScope st) f cdv A outer s H E) (defBody st) (tDS K mg (fun c d _ H => E c d H) b)
theorem fnK (F : Fun K x qual st f fd) (Sc : FnScope N ps (defScope st)) (hb : BodyOk P w K mg base N qual st f k b) : FnOk P w K mg base (L2.CX P w) (k + 1) f fd ps (spD K mg ps.length (runK N.length b)) := by
  refine F.okX Sc (fun vs H Q E h => h.1) fun cdv A outer s H vs Q E hr hsp => ⟨_, hb cdv A outer s H E hr, ?_⟩
  obtain ⟨hl, T, S, ds, rep, sim, out⟩ := hsp
  refine ⟨T, frame N.length ds, S, frame_ok N rep, sim, ?_⟩
  unfold runK at out
  revert out
  cases b (frame N.length ds) S with
  | bad => exact fun h => h
  | exc n r' S' => exact fun h T' H' g' s sim' _ => h T' H' s sim'
  | ok fl r' S' =>
    cases fl with
    | next => exact fun h T' H' g' s sim' rs' => h T' H' .non s sim' .non
    | ret d => exact fun h => h
    | brk => exact fun h => h.elim
    | cont => exact fun h => h.elim
end
/-! ### a body whose new things go when it ends -/
mutual
def clo (n : Nat) : D → Bool
  | .tup xs => cloL n xs
  | .lst xs => cloL n xs
  | .dct kvs => cloK n kvs
  | .loc m => decide (m < n)
  | .non => true
  | .bl _ => true
  | .int _ => true
  | .str _ => true
  | .scr _ => true
  | .ty _ => true
def cloL (n : Nat) : List D → Bool
  | [] => true
  | d :: ds => clo n d && cloL n ds
def cloK (n : Nat) : List (Key × D) → Bool
  | [] => true
  | (_, d) :: ds => clo n d && cloK n ds
end
theorem cloK_eq (n : Nat) : ∀ kvs : List (Key × D), cloK n kvs = cloL n (kvs.map (·.2))
  | [] => rfl
  | (_, d) :: ds => by
    show (clo n d && cloK n ds) = (clo n d && cloL n (ds.map (·.2)))
    rw [cloK_eq n ds]
theorem cloL_ints (n : Nat) : ∀ ns : List Int, cloL n (ns.map D.int) = true
  | [] => rfl
  | x :: ns => by
    show (clo n (D.int x) && cloL n (ns.map D.int)) = true
    rw [cloL_ints n ns]
    rfl
theorem cloL_iff (n : Nat) : ∀ ds : List D, cloL n ds = true ↔ ∀ d ∈ ds, clo n d = true
  | [] => ⟨fun _ d h => (by cases h), fun _ => rfl⟩
  | x :: ds => by
    show (clo n x && cloL n ds) = true ↔ _
    rw [Bool.and_eq_true, cloL_iff n ds]
    exact ⟨fun h d hd => (List.mem_cons.mp hd).elim (fun e => e ▸ h.1) (h.2 d), fun h => ⟨h x List.mem_cons_self, fun d hd => h d (List.mem_cons_of_mem _ hd)⟩⟩
def cloO (n : Nat) : O → Bool
  | .lst xs => cloL n xs
  | .dct kvs => cloK n kvs
  | .ins _ fs => cloL n (fs.map (·.2))
  | .tbl _ _ => true
section
variable {K : PySem.W.Frag} {mg : Str → Option Value} {T T' : Tb} {H : Hp}
mutual
theorem Rep.clo : ∀ {v : V} {d : D}, Rep K T H v d → Dv.clo T.loc.length d = true
  | _, _, .non => rfl
  | _, _, .bl b => rfl
  | _, _, .int i => rfl
  | _, _, .str x => rfl
  | _, _, .ty x => rfl
  | _, _, .tup h n r => RepL.clo r
  | _, _, .lst h n r => RepL.clo r
  | _, _, .scr h => rfl
  | _, _, @Rep.dct _ _ _ a kvs kds h n e r => by
    show cloK _ kds = true
    rw [cloK_eq]
    exact RepL.clo r
  | _, _, .loc h => decide_eq_true (List.getElem?_eq_some_iff.mp h).1
theorem RepL.clo : ∀ {vs : List V} {ds : List D}, RepL K T H vs ds → cloL T.loc.length ds = true
  | _, _, .nil => rfl
  | _, _, .cons h r => by
    show (Dv.clo _ _ && cloL _ _) = true
    rw [Rep.clo h, RepL.clo r]
    rfl
end
theorem ORep.clo {a : Addr} {o : O} (h : ORep K mg T H a o) : cloO T.loc.length o = true := by
  cases o with
  | lst ds => obtain ⟨xs, _, h2⟩ := h; exact h2.clo
  | dct kds => obtain ⟨xs, _, _, h2⟩ := h; show cloK _ _ = true; rw [cloK_eq]; exact h2.clo
  | ins c fs => obtain ⟨_, _, _, _, _, _, h2⟩ := h; exact h2.clo
  | tbl x q => rfl
mutual
theorem Rep.cut {m : List Addr} (e : T'.loc = T.loc ++ m) (eh : T'.hid = T.hid) : ∀ {v : V} {d : D}, Rep K T' H v d → Dv.clo T.loc.length d = true → Rep K T H v d
  | _, _, .non, _ => .non
  | _, _, .bl b, _ => .bl b
  | _, _, .int i, _ => .int i
  | _, _, .str x, _ => .str x
  | _, _, .ty x, _ => .ty x
  | _, _, .tup h n r, c => .tup h ⟨fun z => n.1 (by rw [e]; exact List.mem_append_left _ z), by rw [← eh]; exact n.2⟩ (RepL.cut e eh r c)
  | _, _, .lst h n r, c => .lst h ⟨fun z => n.1 (by rw [e]; exact List.mem_append_left _ z), by rw [← eh]; exact n.2⟩ (RepL.cut e eh r c)
  | _, _, .scr (.inl ⟨h, n⟩), _ => .scr (.inl ⟨h, fun z => n.1 (by rw [e]; exact List.mem_append_left _ z), by rw [← eh]; exact n.2⟩)
  | _, _, .scr (.inr h), _ => .scr (.inr h)
  | _, _, @Rep.dct _ _ _ a kvs kds h n q r, c => .dct h ⟨fun z => n.1 (by rw [e]; exact List.mem_append_left _ z), by rw [← eh]; exact n.2⟩ q (RepL.cut e eh r (by
    have c : cloK _ kds = true := c
    rw [cloK_eq] at c
    exact c))
  | _, _, .loc h, c => .loc (by
    rw [e, List.getElem?_append_left (of_decide_eq_true c)] at h
    exact h)
theorem RepL.cut {m : List Addr} (e : T'.loc = T.loc ++ m) (eh : T'.hid = T.hid) : ∀ {vs : List V} {ds : List D}, RepL K T' H vs ds → cloL T.loc.length ds = true → RepL K T H vs ds
  | _, _, .nil, _ => .nil
  | _, _, @RepL.cons _ _ _ v vs d ds h r, c => by
    have c : (Dv.clo _ d && cloL _ ds) = true := c
    rw [Bool.and_eq_true] at c
    exact .cons (Rep.cut e eh h c.1) (RepL.cut e eh r c.2)
end
theorem ORep.cut {m : List Addr} {a : Addr} {o : O} (e : T'.loc = T.loc ++ m) (eh : T'.hid = T.hid) (h : ORep K mg T' H a o) (c : cloO T.loc.length o = true) : ORep K mg T H a o := by
  cases o with
  | lst ds => obtain ⟨xs, h1, h2⟩ := h; exact ⟨xs, h1, h2.cut e eh c⟩
  | dct kds =>
    obtain ⟨xs, h1, h3, h2⟩ := h
    have c : cloK _ kds = true := c
    rw [cloK_eq] at c
    exact ⟨xs, h1, h3, h2.cut e eh c⟩
  | ins n fs => obtain ⟨C, dx, fvs, h1, h2, h3, h4⟩ := h; exact ⟨C, dx, fvs, h1, h2, h3, h4.cut e eh c⟩
  | tbl x q =>
    obtain ⟨hx, ps, h1, h2, h3⟩ := h
    refine ⟨hx, ps, h1, h2, fun pos cv hc => ?_⟩
    obtain ⟨z, rfl, h4, h5⟩ := h3 pos cv hc
    exact ⟨z, rfl, h4, fun q => h5.1 (by rw [e]; exact List.mem_append_left _ q), by rw [← eh]; exact h5.2⟩
end
/-- the things of the store ahead of a call are as they were, or tell of none of the new -/
def Tr (S S1 : Store) : Prop := S.length ≤ S1.length ∧ ∀ (i : Nat) (o : O), i < S.length → S1[i]? = some o → S[i]? = some o ∨ cloO S.length o = true
theorem Tr.app (S E : Store) : Tr S (S ++ E) := ⟨by rw [List.length_append]; omega, fun i o hi h => .inl (by rw [List.getElem?_append_left hi] at h; exact h)⟩
theorem Tr.set (S E : Store) (n : Nat) (o : O) (h : cloO S.length o = true) : Tr S (S.set n o ++ E) := ⟨by rw [List.length_append, List.length_set]; omega, fun i o' hi q => by
  rw [List.getElem?_append_left (by rw [List.length_set]; exact hi)] at q
  by_cases e : n = i
  · subst e
    rw [List.getElem?_set_self hi] at q
    cases q
    exact .inr h
  · rw [List.getElem?_set_ne e] at q
    exact .inl q⟩
/-- a value told without the new things: a new list is from now on as it is -/
def fzD (n : Nat) (S : Store) (d : D) : Option D := match d with
  | .loc m => if m < n then some (.loc m) else match S[m]? with
    | some (.lst ds) => if cloL n ds = true then some (.lst ds) else none
    | some (.dct kvs) => if cloK n kvs = true then some (.dct kvs) else none
    | _ => none
  | d => if clo n d = true then some d else none
open Classical in
noncomputable def finT (S : Store) (z : Z) : R D := match z with
  | .ok (.ret d) _ S1 => if Tr S S1 then (match fzD S.length S1 d with
    | some d' => .ok d' (S1.take S.length)
    | none => .bad) else .bad
  | .ok .next _ S1 => if Tr S S1 then .ok .non (S1.take S.length) else .bad
  | .exc n _ S1 => if Tr S S1 then .exc n (S1.take S.length) else .bad
  | _ => .bad
noncomputable def runT (sz : Nat) (b : SM) : List D → Store → R D := fun ds S => finT S (b (frame sz ds) S)
section
variable {K : PySem.W.Frag} {mg : Str → Option Value} {T T1 : Tb} {H H1 : Hp} {S S1 : Store}
theorem tr_back (sim : Sim K mg T S H) (st : Step T H T1 H1) (sim1 : Sim K mg T1 S1 H1) (tr : Tr S S1) : Step T H T H1 ∧ Sim K mg T (S1.take S.length) H1 := by
  obtain ⟨m, em⟩ := st.ext
  refine ⟨⟨⟨[], by simp⟩, rfl, st.hkeep, st.keep, fun a h n => absurd h n⟩, ?_, sim.nd, fun i a o h1 h2 => ?_, fun a h => by rw [← st.hid] at h; exact sim1.hid a h, sim1.hl⟩
  · rw [List.length_take, sim.len]
    have := tr.1
    omega
  · have hi : i < S.length := by rw [← sim.len]; exact (List.getElem?_eq_some_iff.mp h1).1
    rw [List.getElem?_take, if_pos hi] at h2
    refine (sim1.obj i a o (st.get h1) h2).cut em st.hid ?_
    rcases tr.2 i o hi h2 with q | q
    · exact (sim.obj i a o h1 q).clo
    · rw [sim.len]; exact q
theorem fz_back (sim : Sim K mg T S H) (st : Step T H T1 H1) (sim1 : Sim K mg T1 S1 H1) {v : V} {d d' : D} (h : Rep K T1 H1 v d) (e : fzD S.length S1 d = some d') : Rep K T H1 v d' := by
  obtain ⟨m, em⟩ := st.ext
  have off : ∀ (i : Nat) (a : Addr), T1.loc[i]? = some a → ¬ i < S.length → T.off a := fun i a h1 hi => ⟨fun z => by
    obtain ⟨j, hj, ej⟩ := List.mem_iff_getElem.mp z
    have h2 : T1.loc[j]? = some a := st.get (by rw [List.getElem?_eq_getElem hj, ej])
    have := nd_ix sim1.ndl h1 h2
    rw [sim.len] at hj
    omega, fun z => sim1.apart (List.mem_of_getElem? h1) (by rw [st.hid]; exact z)⟩
  have plain : ∀ d, (∀ n, d ≠ .loc n) → fzD S.length S1 d = (if clo S.length d = true then some d else none) := fun d hd => by
    cases d <;> first | rfl | exact absurd rfl (hd _)
  by_cases hd : ∀ n, d ≠ .loc n
  · rw [plain d hd] at e
    split at e
    · rename_i c
      cases e
      exact h.cut em st.hid (by rw [sim.len]; exact c)
    · cases e
  · cases d with
    | loc k =>
      cases h with
      | loc hk =>
        simp only [fzD] at e
        split at e
        · rename_i hlt
          cases e
          refine .loc ?_
          rw [em, List.getElem?_append_left (by rw [sim.len]; exact hlt)] at hk
          exact hk
        · rename_i hlt
          have of := off k _ hk hlt
          split at e
          · rename_i ds es
            split at e
            · rename_i c
              cases e
              obtain ⟨xs, q1, q2⟩ := sim1.obj k _ _ hk es
              exact .lst q1 of (q2.cut em st.hid (by rw [sim.len]; exact c))
            · cases e
          · rename_i kvs es
            split at e
            · rename_i c
              cases e
              obtain ⟨xs, q1, q3, q2⟩ := sim1.obj k _ _ hk es
              rw [cloK_eq] at c
              exact .dct (.inl q1) of q3 (q2.cut em st.hid (by rw [sim.len]; exact c))
            · cases e
          · cases e
    | _ => exact absurd (fun n q => by cases q) hd
end
section
variable {P : Program} {w : World} {K : PySem.W.Frag} {mg : Str → Option Value} {base : Heap} {x qual : Str} {st : Stmt} {f : Addr} {fd : FuncData} {N ps : List Str} {k : Nat} {b : SM}
theorem fnT (F : Fun K x qual st f fd) (Sc : FnScope N ps (defScope st)) (hb : BodyOk P w K mg base N qual st f k b) : FnOk P w K mg base (L2.CX P w) (k + 1) f fd ps (spD K mg ps.length (runT N.length b)) := by
  refine F.okX Sc (fun vs H Q E h => h.1) fun cdv A outer s H vs Q E hr hsp => ⟨_, hb cdv A outer s H E hr, ?_⟩
  obtain ⟨hl, T, S, ds, rep, sim, out⟩ := hsp
  refine ⟨T, frame N.length ds, S, frame_ok N rep, sim, ?_⟩
  unfold runT finT at out
  revert out
  cases b (frame N.length ds) S with
  | bad => exact fun h => h
  | exc n r' S' =>
    intro h T' H' g' s sim' _
    dsimp only at h
    split at h
    · rename_i tr
      obtain ⟨s1, m1⟩ := tr_back sim s sim' tr
      exact h T H' s1 m1
    · exact h.elim
  | ok fl r' S' =>
    cases fl with
    | next =>
      intro h T' H' g' s sim' rs'
      dsimp only at h
      split at h
      · rename_i tr
        obtain ⟨s1, m1⟩ := tr_back sim s sim' tr
        exact h T H' .non s1 m1 .non
      · exact h.elim
    | ret d =>
      intro h T' H' v s sim' rv
      dsimp only at h
      split at h
      · rename_i tr
        obtain ⟨s1, m1⟩ := tr_back sim s sim' tr
        split at h
        · rename_i d' ed
          exact h T H' v s1 m1 (fz_back sim s sim' rv ed)
        · exact h.elim
      · exact h.elim
    | brk => exact fun h => h.elim
    | cont => exact fun h => h.elim
end
end Dv
namespace Dv
open PySem L2
/-! ### numbers -/
def subD (a b : D) (_ : Store) : Option D := match a, b with
  | .int i, .int j => some (.int (i - j))
  | _, _ => none
def fdivD (a b : D) (_ : Store) : Option D := match a, b with
  | .int i, .int j => if 0 < j ∧ j < 1073741824 then some (.int (i / j)) else none
  | _, _ => none
def modD (a b : D) (_ : Store) : Option D := match a, b with
  | .int i, .int j => if 0 < j then some (.int (i % j)) else none
  | _, _ => none
def negD (a : D) (_ : Store) : Option D := match a with
  | .int i => some (.int (-i))
  | _ => none
def addD (a b : D) (_ : Store) : Option D := match a, b with
  | .int i, .int j => some (.int (i + j))
  | .str x, .str y => if x.length + y.length ≤ 100000 then some (.str (x ++ y)) else none
  | .tup xs, .tup ys => if xs.length + ys.length ≤ 100000 then some (.tup (xs ++ ys)) else none
  | .lst xs, .lst ys => if xs.length + ys.length ≤ 100000 then some (.lst (xs ++ ys)) else none
  | _, _ => none
def mulD (a b : D) (_ : Store) : Option D := match a, b with
  | .int i, .int j => if (-(2 ^ 64) < i ∧ i < 2 ^ 64) ∨ (-(2 ^ 64) < j ∧ j < 2 ^ 64) then some (.int (i * j)) else none
  | .lst xs, .int k => if -100000 ≤ k ∧ k ≤ 100000 ∧ xs.length * k.toNat ≤ 100000 then some (.lst (List.replicate k.toNat xs).flatten) else none
  | _, _ => none
def ltD (a b : D) (_ : Store) : Option D := match a, b with
  | .int i, .int j => some (.bl (decide (i < j)))
  | .str x, .str y => some (.bl (decide (x.cps.toList < y.cps.toList)))
  | _, _ => none
def leD (a b : D) (_ : Store) : Option D := match a, b with
  | .int i, .int j => some (.bl (decide (i ≤ j)))
  | .str x, .str y => some (.bl (!decide (y.cps.toList < x.cps.toList)))
  | _, _ => none
def gtD (a b : D) (_ : Store) : Option D := match a, b with
  | .int i, .int j => some (.bl (decide (j < i)))
  | _, _ => none
def geD (a b : D) (_ : Store) : Option D := match a, b with
  | .int i, .int j => some (.bl (decide (j ≤ i)))
  | _, _ => none
section
variable {X : Cx} {K : PySem.W.Frag} {mg : Str → Option Value}
/-- a rule of two ints that tells a plain value -/
theorem pok_I0 {g : Int → Int → V} {gd : Int → Int → D} {f : D → D → Store → Option D} (hf : ∀ a b S d, f a b S = some d → ∃ i j, a = .int i ∧ b = .int j ∧ d = gd i j) (hg : ∀ T H i j, Rep K T H (g i j) (gd i j)) : POk2 K mg (rI0 g) f := fun T S H x y a b d Q sim rx ry e k => by
  obtain ⟨i, j, rfl, rfl, rfl⟩ := hf a b S d e
  exact ⟨i, j, rx.int_of, ry.int_of, k H _ (Step.refl T H) sim (hg T H i j)⟩
theorem pok_I {C : Int → Int → Prop} {g : Int → Int → V} {gd : Int → Int → D} {f : D → D → Store → Option D} (hf : ∀ a b S d, f a b S = some d → ∃ i j, a = .int i ∧ b = .int j ∧ C i j ∧ d = gd i j) (hg : ∀ T H i j, Rep K T H (g i j) (gd i j)) : POk2 K mg (rI C g) f := fun T S H x y a b d Q sim rx ry e k => by
  obtain ⟨i, j, rfl, rfl, hc, rfl⟩ := hf a b S d e
  exact ⟨i, j, rx.int_of, ry.int_of, hc, k H _ (Step.refl T H) sim (hg T H i j)⟩
theorem pok_sub : POk2 K mg (rI0 fun i j => .int (i - j)) subD := pok_I0 (gd := fun i j => .int (i - j)) (fun a b S d e => by
  cases a <;> cases b <;> cases e
  exact ⟨_, _, rfl, rfl, rfl⟩) fun _ _ _ _ => .int _
theorem pok_fdiv : POk2 K mg (rI CDiv fun i j => .int (i / j)) fdivD := pok_I (gd := fun i j => .int (i / j)) (fun a b S d e => by
  cases a <;> cases b <;> try cases e
  simp only [fdivD] at e
  split at e
  · rename_i h
    cases e
    exact ⟨_, _, rfl, rfl, h, rfl⟩
  · cases e) fun _ _ _ _ => .int _
theorem pok_mod : POk2 K mg (rI (fun _ j => 0 < j) fun i j => .int (i % j)) modD := pok_I (gd := fun i j => .int (i % j)) (fun a b S d e => by
  cases a <;> cases b <;> try cases e
  simp only [modD] at e
  split at e
  · rename_i h
    cases e
    exact ⟨_, _, rfl, rfl, h, rfl⟩
  · cases e) fun _ _ _ _ => .int _
theorem pok_neg : POk1 K mg (rU fun i => .int (-i)) negD := fun T S H x a d Q sim rx e k => by
  cases a <;> cases e
  exact ⟨_, rx.int_of, k H _ (Step.refl T H) sim (.int _)⟩
/-- the four kinds of + -/
def rAddA (K : PySem.W.Frag) : R2 := fun x y H Q => (∃ i j, x = .int i ∧ y = .int j ∧ Q (.int (i + j)) H) ∨ (∃ i j, x = .str i ∧ y = .str j ∧ i.length + j.length ≤ sizeLine ∧ Q (.str (i ++ j)) H) ∨ rCatA K x y H Q ∨ rCat x y H Q
theorem op_addA : OpR X (binaryOp .Add) (rAddA X.K) := op_add.or (op_add_str.or (op_catA.or op_cat))
theorem pok_add : POk2 K mg (rAddA K) addD := fun T S H x y a b d Q sim rx ry e k => by
  cases rx <;> cases ry <;> try cases e
  · exact .inl ⟨_, _, rfl, rfl, k H _ (Step.refl T H) sim (.int _)⟩
  · simp only [addD] at e
    split at e
    · rename_i h
      cases e
      exact .inr (.inl ⟨_, _, rfl, rfl, sz5 h, k H _ (Step.refl T H) sim (.str _)⟩)
    · cases e
  · rename_i a1 xs ds h1 n1 r1 a2 ys es h2 n2 r2
    simp only [addD] at e
    split at e
    · rename_i hz
      cases e
      have hz' : xs.length + ys.length ≤ sizeLine := by rw [r1.length, r2.length]; exact sz5 hz
      refine .inr (.inr (.inl ⟨a1, a2, xs, ys, rfl, rfl, SqT.of h1, SqT.of h2, hz', fun q => ?_, fun q1 q2 => ?_, fun q1 q2 p hp => ?_⟩))
      · subst q
        cases r1
        exact k H _ (Step.refl T H) sim (.tup h2 n2 r2)
      · subst q2
        cases r2
        rw [List.append_nil] at k
        exact k H _ (Step.refl T H) sim (.tup h1 n1 r1)
      · have st := sim.stepNew (o := .tup (xs ++ ys)) hp
        exact k _ _ st (sim.new hp (hlen_tup sim.hl (by rw [List.length_append]; exact hz'))) (.tup upd_same (sim.off hp) (RepL.append (r1.step st) (r2.step st)))
    · cases e
  · rename_i a1 xs ds h1 n1 r1 a2 ys es h2 n2 r2
    simp only [addD] at e
    split at e
    · rename_i hz
      cases e
      have hz' : xs.length + ys.length ≤ sizeLine := by rw [r1.length, r2.length]; exact sz5 hz
      refine .inr (.inr (.inr ⟨a1, a2, xs, ys, rfl, rfl, h1, h2, hz', fun p hp => ?_⟩))
      have st := sim.stepNew (o := .lst (xs ++ ys)) hp
      exact k _ _ st (sim.new hp (hlen_lst sim.hl (by rw [List.length_append]; exact hz'))) (.lst upd_same (sim.off hp) (RepL.append (r1.step st) (r2.step st)))
    · cases e
def rMulA : R2 := fun x y H Q => rI CMul (fun i j => .int (i * j)) x y H Q ∨ rRep x y H Q
theorem op_mulA : OpR X (binaryOp .Mult) rMulA := op_mul.or op_rep
theorem flat_len {α : Type} (xs : List α) : ∀ k : Nat, (List.replicate k xs).flatten.length = xs.length * k
  | 0 => rfl
  | k + 1 => by
    rw [List.replicate_succ, List.flatten_cons, List.length_append, flat_len xs k, Nat.mul_succ, Nat.add_comm]
theorem pok_mul : POk2 K mg rMulA mulD := fun T S H x y a b d Q sim rx ry e k => by
  cases rx <;> cases ry <;> try cases e
  · simp only [mulD] at e
    split at e
    · rename_i h
      cases e
      exact .inl ⟨_, _, rfl, rfl, h, k H _ (Step.refl T H) sim (.int _)⟩
    · cases e
  · rename_i a1 xs ds h1 n1 r1 i
    simp only [mulD] at e
    split at e
    · rename_i hz
      cases e
      have hz' : xs.length * i.toNat ≤ sizeLine := by rw [r1.length]; exact sz5 hz.2.2
      refine .inr ⟨a1, i, xs, rfl, rfl, h1, by omega, by omega, hz', fun p hp => ?_⟩
      have st := sim.stepNew (o := .lst (List.replicate i.toNat xs).flatten) hp
      exact k _ _ st (sim.new hp (hlen_lst sim.hl (by rw [flat_len]; exact hz'))) (.lst upd_same (sim.off hp) ((r1.step st).rep i.toNat))
    · cases e
def rLtA (K : PySem.W.Frag) : R2 := fun x y H Q => (∃ i j, x = .int i ∧ y = .int j ∧ Q (.bl (decide (i < j))) H) ∨ (∃ i j, x = .str i ∧ y = .str j ∧ Q (.bl (decide (i.cps.toList < j.cps.toList))) H)
theorem op_ltA : OpR X (compareOp .Lt) (rLtA X.K) := op_lt.or op_lt_str
theorem pok_lt : POk2 K mg (rLtA K) ltD := fun T S H x y a b d Q sim rx ry e k => by
  cases rx <;> cases ry <;> cases e
  · exact .inl ⟨_, _, rfl, rfl, k H _ (Step.refl T H) sim (.bl _)⟩
  · exact .inr ⟨_, _, rfl, rfl, k H _ (Step.refl T H) sim (.bl _)⟩
def rLeA (K : PySem.W.Frag) : R2 := fun x y H Q => (∃ i j, x = .int i ∧ y = .int j ∧ Q (.bl (decide (i ≤ j))) H) ∨ (∃ i j, x = .str i ∧ y = .str j ∧ Q (.bl (!decide (j.cps.toList < i.cps.toList))) H)
theorem op_leA : OpR X (compareOp .LtE) (rLeA X.K) := op_le.or op_le_str
theorem pok_le : POk2 K mg (rLeA K) leD := fun T S H x y a b d Q sim rx ry e k => by
  cases rx <;> cases ry <;> cases e
  · exact .inl ⟨_, _, rfl, rfl, k H _ (Step.refl T H) sim (.bl _)⟩
  · exact .inr ⟨_, _, rfl, rfl, k H _ (Step.refl T H) sim (.bl _)⟩
theorem pok_gt : POk2 K mg (rI0 fun i j => .bl (decide (j < i))) gtD := pok_I0 (gd := fun i j => .bl (decide (j < i))) (fun a b S d e => by
  cases a <;> cases b <;> cases e
  exact ⟨_, _, rfl, rfl, rfl⟩) fun _ _ _ _ => .bl _
theorem pok_ge : POk2 K mg (rI0 fun i j => .bl (decide (j ≤ i))) geD := pok_I0 (gd := fun i j => .bl (decide (j ≤ i))) (fun a b S d e => by
  cases a <;> cases b <;> cases e
  exact ⟨_, _, rfl, rfl, rfl⟩) fun _ _ _ _ => .bl _
end
/-! ### equality of data -/
mutual
def pyD : D → PyData
  | .non => .none
  | .bl b => .bool b
  | .int i => .int i
  | .str x => .str x
  | .tup xs => .tuple (pyDs xs)
  | .lst xs => .list (pyDs xs)
  | .scr _ => .none
  | .dct _ => .none
  | .loc _ => .none
  | .ty _ => .none
def pyDs : List D → List PyData
  | [] => []
  | d :: ds => pyD d :: pyDs ds
end
mutual
/-- plain data: no thing that changes, no dict -/
def dat : D → Bool
  | .non => true
  | .bl _ => true
  | .int _ => true
  | .str _ => true
  | .tup xs => dats xs
  | .lst xs => dats xs
  | .scr _ => false
  | .dct _ => false
  | .loc _ => false
  | .ty _ => false
def dats : List D → Bool
  | [] => true
  | d :: ds => dat d && dats ds
end
theorem pyDs_map : ∀ ds : List D, pyDs ds = ds.map pyD
  | [] => rfl
  | d :: ds => by
    show pyD d :: pyDs ds = _
    rw [pyDs_map ds]
    rfl
theorem dats_all : ∀ ds : List D, dats ds = ds.all dat
  | [] => rfl
  | d :: ds => by
    show (dat d && dats ds) = _
    rw [dats_all ds]
    rfl
section
variable {K : PySem.W.Frag} {T : Tb} {H : Hp}
mutual
theorem Rep.dp : ∀ {v : V} {d : D}, Rep K T H v d → dat d = true → Dp K H v (pyD d)
  | _, _, .non, _ => .non
  | _, _, .bl b, _ => .bl b
  | _, _, .int i, _ => .int i
  | _, _, .str x, _ => .str x
  | _, _, .tup h n r, c => .tup (SqT.of h) (RepL.dp r c)
  | _, _, .lst h n r, c => .lst (SqL.of h) (RepL.dp r c)
  | _, _, .scr h, c => by cases c
  | _, _, .dct h n e r, c => by cases c
  | _, _, .loc h, c => by cases c
  | _, _, .ty h, c => by cases c
theorem RepL.dp : ∀ {vs : List V} {ds : List D}, RepL K T H vs ds → dats ds = true → DpAll K H vs (pyDs ds)
  | _, _, .nil, _ => .nil
  | _, _, @RepL.cons _ _ _ v vs d ds h r, c => by
    have c : (dat d && dats ds) = true := c
    rw [Bool.and_eq_true] at c
    exact .cons (Rep.dp h c.1) (RepL.dp r c.2)
end
end
def okD (d : D) : Bool := dat d && SeqAt.shaped (pyD d)
def eqvD (a b : D) : Bool := PyData.eqv (pyD a) (pyD b)
/-- a list of the store is told as it stands -/
def now (d : D) (S : Store) : D := match d with
  | .loc n => match S[n]? with
    | some (.lst xs) => .lst xs
    | _ => .loc n
  | d => d
def eqO (a b : D) : Option Bool := match a, b with
  | .int i, .int j => some (decide (i = j))
  | .str x, .str y => some (decide (x = y))
  | .bl x, .bl y => some (decide (x = y))
  | a, b => if okD a = true ∧ okD b = true then some (eqvD a b) else none
def eqD (a b : D) (S : Store) : Option D := (eqO (now a S) (now b S)).map .bl
def neD (a b : D) (S : Store) : Option D := (eqO (now a S) (now b S)).map fun k => .bl (!k)
section
variable {X : Cx} {K : PySem.W.Frag} {mg : Str → Option Value}
def rEqA (K : PySem.W.Frag) : R2 := fun x y H Q => rEq x y H Q ∨ rEqD K x y H Q
def rNeA (K : PySem.W.Frag) : R2 := fun x y H Q => rNe x y H Q ∨ rNeD K x y H Q
theorem op_eqA (hu : X.A.units + 64 < cLine) : OpR X (compareOp .Eq) (rEqA X.K) := op_eq.or (op_eqD hu)
theorem op_neA (hu : X.A.units + 64 < cLine) : OpR X (compareOp .NotEq) (rNeA X.K) := op_ne.or (op_neD hu)
/-- a value as data, a list of the store too -/
theorem now_dp {T : Tb} {S : Store} {H : Hp} {v : V} {d : D} (sim : Sim K mg T S H) (h : Rep K T H v d) (c : dat (now d S) = true) : Dp K H v (pyD (now d S)) := by
  cases d with
  | loc n =>
    simp only [now] at c ⊢
    split at c
    · rename_i xs e
      cases h with
      | loc hn =>
        obtain ⟨ys, q1, q2⟩ := sim.obj _ _ _ hn e
        exact .lst (SqL.of q1) (q2.dp c)
    · cases c
  | _ => exact h.dp c
theorem now_int {T : Tb} {S : Store} {H : Hp} {v : V} {d : D} {i : Int} (h : Rep K T H v d) (e : now d S = .int i) : v = .int i := by
  cases d with
  | loc n =>
    simp only [now] at e
    split at e <;> cases e
  | int j => cases e; exact h.int_of
  | _ => cases e
theorem now_str {T : Tb} {S : Store} {H : Hp} {v : V} {d : D} {i : Str} (h : Rep K T H v d) (e : now d S = .str i) : v = .str i := by
  cases d with
  | loc n =>
    simp only [now] at e
    split at e <;> cases e
  | str j => cases e; exact h.str_of
  | _ => cases e
theorem now_bl {T : Tb} {S : Store} {H : Hp} {v : V} {d : D} {i : Bool} (h : Rep K T H v d) (e : now d S = .bl i) : v = .bl i := by
  cases d with
  | loc n =>
    simp only [now] at e
    split at e <;> cases e
  | bl j => cases e; exact h.bl_of
  | _ => cases e
theorem eqO_cases {T : Tb} {S : Store} {H : Hp} {x y : V} {a b : D} {k : Bool} (sim : Sim K mg T S H) (rx : Rep K T H x a) (ry : Rep K T H y b) (e : eqO (now a S) (now b S) = some k) :
    (scal x y = true ∧ k = decide (x = y)) ∨ (∃ d1 d2, Dp K H x d1 ∧ Dp K H y d2 ∧ SeqAt.shaped d1 = true ∧ SeqAt.shaped d2 = true ∧ k = PyData.eqv d1 d2) := by
  unfold eqO at e
  split at e
  · rename_i i j e1 e2
    cases e
    rw [now_int rx e1, now_int ry e2]
    exact .inl ⟨rfl, by rw [dec_int, Bool.beq_eq_decide_eq]⟩
  · rename_i i j e1 e2
    cases e
    rw [now_str rx e1, now_str ry e2]
    exact .inl ⟨rfl, by rw [dec_str, Bool.beq_eq_decide_eq]⟩
  · rename_i i j e1 e2
    cases e
    rw [now_bl rx e1, now_bl ry e2]
    exact .inl ⟨rfl, by rw [dec_bl, Bool.beq_eq_decide_eq]⟩
  · split at e
    · rename_i h
      cases e
      have h1 := h.1
      have h2 := h.2
      unfold okD at h1 h2
      rw [Bool.and_eq_true] at h1 h2
      exact .inr ⟨_, _, now_dp sim rx h1.1, now_dp sim ry h2.1, h1.2, h2.2, rfl⟩
    · cases e
theorem pok_eq : POk2 K mg (rEqA K) eqD := fun T S H x y a b d Q sim rx ry e k => by
  unfold eqD at e
  cases q : eqO (now a S) (now b S) with
  | none => rw [q] at e; cases e
  | some t =>
    rw [q] at e
    cases e
    have kk := k H (.bl t) (Step.refl T H) sim (.bl t)
    rcases eqO_cases sim rx ry q with ⟨h1, h2⟩ | ⟨d1, d2, h1, h2, h3, h4, h5⟩
    · exact .inl ⟨h1, by rw [← h2]; exact kk⟩
    · exact .inr ⟨d1, d2, h1, h2, h3, h4, by rw [← h5]; exact kk⟩
theorem pok_ne : POk2 K mg (rNeA K) neD := fun T S H x y a b d Q sim rx ry e k => by
  unfold neD at e
  cases q : eqO (now a S) (now b S) with
  | none => rw [q] at e; cases e
  | some t =>
    rw [q] at e
    cases e
    have kk := k H (.bl (!t)) (Step.refl T H) sim (.bl (!t))
    rcases eqO_cases sim rx ry q with ⟨h1, h2⟩ | ⟨d1, d2, h1, h2, h3, h4, h5⟩
    · exact .inl ⟨h1, by rw [← h2]; exact kk⟩
    · exact .inr ⟨d1, d2, h1, h2, h3, h4, by rw [← h5]; exact kk⟩
end
/-! ### is None -/
def isND (a b : D) (_ : Store) : Option D := match a, b with
  | .non, .non => some (.bl true)
  | _, .non => some (.bl false)
  | _, _ => none
def notND (a b : D) (_ : Store) : Option D := match a, b with
  | .non, .non => some (.bl false)
  | _, .non => some (.bl true)
  | _, _ => none
/-! ### in -/
def inO (a b : D) : Option Bool := match b with
  | .lst xs => if okD a = true ∧ okD (.lst xs) = true then some (xs.any fun z => eqvD z a) else none
  | _ => none
def inD (a b : D) (S : Store) : Option D := (inO (now a S) (now b S)).map .bl
def ninD (a b : D) (S : Store) : Option D := (inO (now a S) (now b S)).map fun k => .bl (!k)
section
variable {X : Cx} {K : PySem.W.Frag} {mg : Str → Option Value}
theorem pok_isN : POk2 K mg (fun x y H Q => y = .non ∧ Q (.bl (decide (x = .non))) H) isND := fun T S H x y a b d Q sim rx ry e k => by
  cases ry <;> cases rx <;> cases e <;> exact ⟨rfl, k H _ (Step.refl T H) sim (.bl _)⟩
theorem pok_notN : POk2 K mg (fun x y H Q => y = .non ∧ Q (.bl (!decide (x = .non))) H) notND := fun T S H x y a b d Q sim rx ry e k => by
  cases ry <;> cases rx <;> cases e <;> exact ⟨rfl, k H _ (Step.refl T H) sim (.bl _)⟩
theorem inO_cases {T : Tb} {S : Store} {H : Hp} {x y : V} {a b : D} {k : Bool} (sim : Sim K mg T S H) (rx : Rep K T H x a) (ry : Rep K T H y b) (e : inO (now a S) (now b S) = some k) :
    ∃ d ds, Dp K H x d ∧ Dp K H y (.list ds) ∧ SeqAt.shaped d = true ∧ SeqAt.shaped (.list ds) = true ∧ k = ds.any fun z => PyData.eqv z d := by
  unfold inO at e
  split at e
  · rename_i xs e2
    split at e
    · rename_i h
      cases e
      have h1 := h.1
      have h2 := h.2
      rw [← e2] at h2
      unfold okD at h1 h2
      rw [Bool.and_eq_true] at h1 h2
      have q := now_dp sim ry h2.1
      have q2 := h2.2
      rw [e2] at q q2
      refine ⟨_, _, now_dp sim rx h1.1, q, h1.2, q2, ?_⟩
      rw [pyDs_map, List.any_map]
      rfl
    · cases e
  · cases e
theorem pok_in : POk2 K mg (rInD K) inD := fun T S H x y a b d Q sim rx ry e k => by
  unfold inD at e
  cases q : inO (now a S) (now b S) with
  | none => rw [q] at e; cases e
  | some t =>
    rw [q] at e
    cases e
    obtain ⟨d, ds, h1, h2, h3, h4, h5⟩ := inO_cases sim rx ry q
    exact ⟨d, ds, h1, h2, h3, h4, by rw [← h5]; exact k H _ (Step.refl T H) sim (.bl _)⟩
theorem pok_nin : POk2 K mg (rNotInD K) ninD := fun T S H x y a b d Q sim rx ry e k => by
  unfold ninD at e
  cases q : inO (now a S) (now b S) with
  | none => rw [q] at e; cases e
  | some t =>
    rw [q] at e
    cases e
    obtain ⟨d, ds, h1, h2, h3, h4, h5⟩ := inO_cases sim rx ry q
    exact ⟨d, ds, h1, h2, h3, h4, by rw [← h5]; exact k H _ (Step.refl T H) sim (.bl _)⟩
end
end Dv
namespace Dv
open PySem L2
/-! ### built-in functions -/
def lenD (ds : List D) (S : Store) : Option D := match ds with
  | [.lst xs] => some (.int xs.length)
  | [.tup xs] => some (.int xs.length)
  | [.scr xs] => some (.int xs.length)
  | [.str x] => if x.length ≤ 100000 then some (.int x.length) else none
  | [.loc n] => match S[n]? with
    | some (.lst xs) => some (.int xs.length)
    | _ => none
  | _ => none
def absD (ds : List D) (_ : Store) : Option D := match ds with
  | [.int i] => some (.int (if i < 0 then -i else i))
  | _ => none
def intD (ds : List D) (_ : Store) : Option D := match ds with
  | [.int i] => some (.int i)
  | [.bl b] => some (.int (if b = true then 1 else 0))
  | _ => none
def intsOf : List D → Option (List Int)
  | [] => some []
  | .int i :: ds => (intsOf ds).map (i :: ·)
  | _ :: _ => none
def blsOf : List D → Option (List Bool)
  | [] => some []
  | .bl i :: ds => (blsOf ds).map (i :: ·)
  | _ :: _ => none
theorem intsOf_map : ∀ ns : List Int, intsOf (ns.map D.int) = some ns
  | [] => rfl
  | n :: ns => by
    show (intsOf (ns.map D.int)).map (n :: ·) = _
    rw [intsOf_map ns]
    rfl
theorem intsOf_some : ∀ {ds : List D} {ns : List Int}, intsOf ds = some ns → ds = ns.map D.int
  | [], _, e => by cases e; rfl
  | d :: ds, ns, e => by
    cases d <;> try cases e
    simp only [intsOf] at e
    cases q : intsOf ds with
    | none => rw [q] at e; cases e
    | some ms =>
      rw [q] at e
      cases e
      rw [intsOf_some q]
      rfl
theorem blsOf_map : ∀ ns : List Bool, blsOf (ns.map D.bl) = some ns
  | [] => rfl
  | n :: ns => by
    show (blsOf (ns.map D.bl)).map (n :: ·) = _
    rw [blsOf_map ns]
    rfl
theorem blsOf_some : ∀ {ds : List D} {ns : List Bool}, blsOf ds = some ns → ds = ns.map D.bl
  | [], _, e => by cases e; rfl
  | d :: ds, ns, e => by
    cases d <;> try cases e
    simp only [blsOf] at e
    cases q : blsOf ds with
    | none => rw [q] at e; cases e
    | some ms =>
      rw [q] at e
      cases e
      rw [blsOf_some q]
      rfl
def maxI : List Int → Option Int
  | [] => none
  | [x] => some x
  | x :: xs => (maxI xs).map fun m => if m < x then x else m
theorem maxI_ok : ∀ {ns : List Int} {m : Int}, maxI ns = some m → m ∈ ns ∧ ∀ y ∈ ns, y ≤ m
  | [], _, e => by cases e
  | [x], m, e => by
    cases e
    exact ⟨List.mem_singleton.mpr rfl, fun y hy => by rw [List.mem_singleton.mp hy]; exact Int.le_refl _⟩
  | x :: y :: xs, m, e => by
    simp only [maxI] at e
    cases q : maxI (y :: xs) with
    | none => rw [show (maxI (y :: xs)) = none from q] at e; cases e
    | some k =>
      have e : (maxI (y :: xs)).map (fun m => if m < x then x else m) = some m := e
      rw [q] at e
      obtain ⟨h1, h2⟩ := maxI_ok q
      cases e
      show (if k < x then x else k) ∈ x :: y :: xs ∧ ∀ z ∈ x :: y :: xs, z ≤ (if k < x then x else k)
      by_cases hk : k < x
      · rw [if_pos hk]
        exact ⟨List.mem_cons_self, fun z hz => (List.mem_cons.mp hz).elim (fun e => by rw [e]; exact Int.le_refl _) fun hz => Int.le_trans (h2 z hz) (Int.le_of_lt hk)⟩
      · rw [if_neg hk]
        exact ⟨List.mem_cons_of_mem _ h1, fun z hz => (List.mem_cons.mp hz).elim (fun e => by rw [e]; omega) fun hz => h2 z hz⟩
def maxD (ds : List D) (_ : Store) : Option D := match ds with
  | [.lst xs] => ((intsOf xs).bind maxI).map .int
  | _ => none
def sumD (ds : List D) (_ : Store) : Option D := match ds with
  | [.lst xs] => (intsOf xs).map fun ns => .int ns.sum
  | _ => none
def allD (ds : List D) (_ : Store) : Option D := match ds with
  | [.lst xs] => (blsOf xs).map fun ns => .bl (ns.all id)
  | _ => none
def anyD (ds : List D) (_ : Store) : Option D := match ds with
  | [.lst xs] => (blsOf xs).map fun ns => .bl (ns.any id)
  | _ => none
def tupD (ds : List D) (S : Store) : Option D := match ds with
  | [.lst xs] => some (.tup xs)
  | [.tup xs] => some (.tup xs)
  | [.loc n] => match S[n]? with
    | some (.lst xs) => some (.tup xs)
    | _ => none
  | _ => none
def lstD (ds : List D) (S : Store) : Option D := match ds with
  | [.lst xs] => some (.lst xs)
  | [.tup xs] => some (.lst xs)
  | [.loc n] => match S[n]? with
    | some (.lst xs) => some (.lst xs)
    | _ => none
  | _ => none
section
variable {X : Cx} {K : PySem.W.Frag} {mg : Str → Option Value}
theorem RepL.one {T : Tb} {H : Hp} {vs : List V} {d : D} (h : RepL K T H vs [d]) : ∃ v, vs = [v] ∧ Rep K T H v d := by
  cases h with
  | cons r q =>
    cases q
    exact ⟨_, rfl, r⟩
theorem pok_len : POk K mg (fun xs H Q => ∃ x n, xs = [x] ∧ LenV K x H n ∧ Q (.int n) H) lenD := fun T S H vs ds d Q sim rep e k => by
  unfold lenD at e
  split at e
  · rename_i xs
    cases e
    obtain ⟨v, rfl, r⟩ := rep.one
    cases r with
    | lst h n q => exact ⟨_, _, rfl, .inl ⟨_, SqL.of h, q.length.symm⟩, k H _ (Step.refl T H) sim (.int _)⟩
  · rename_i xs
    cases e
    obtain ⟨v, rfl, r⟩ := rep.one
    cases r with
    | tup h n q => exact ⟨_, _, rfl, .inr ⟨_, SqT.of h, q.length.symm⟩, k H _ (Step.refl T H) sim (.int _)⟩
  · rename_i xs
    cases e
    obtain ⟨v, rfl, r⟩ := rep.one
    cases r with
    | scr h => exact ⟨_, _, rfl, .inl ⟨_, h.sq, (List.length_map ..).symm⟩, k H _ (Step.refl T H) sim (.int _)⟩
  · rename_i x
    obtain ⟨v, rfl, r⟩ := rep.one
    split at e
    · rename_i hz
      cases e
      cases r
      exact ⟨_, _, rfl, ⟨sz5 hz, rfl⟩, k H _ (Step.refl T H) sim (.int _)⟩
    · cases e
  · rename_i n
    obtain ⟨v, rfl, r⟩ := rep.one
    split at e
    · rename_i xs q
      cases e
      cases r with
      | loc hn =>
        obtain ⟨ys, q1, q2⟩ := sim.obj _ _ _ hn q
        exact ⟨_, _, rfl, .inl ⟨_, SqL.of q1, q2.length.symm⟩, k H _ (Step.refl T H) sim (.int _)⟩
    · cases e
  · cases e
theorem pok_abs : POk K mg (fun xs H Q => ∃ i, xs = [.int i] ∧ Q (.int (if i < 0 then -i else i)) H) absD := fun T S H vs ds d Q sim rep e k => by
  unfold absD at e
  split at e
  · cases e
    obtain ⟨v, rfl, r⟩ := rep.one
    exact ⟨_, by rw [r.int_of], k H _ (Step.refl T H) sim (.int _)⟩
  · cases e
theorem pok_int : POk K mg (fun xs H Q => (∃ i, xs = [.int i] ∧ Q (.int i) H) ∨ ∃ k, xs = [.bl k] ∧ Q (.int (if k then 1 else 0)) H) intD := fun T S H vs ds d Q sim rep e k => by
  unfold intD at e
  split at e
  · cases e
    obtain ⟨v, rfl, r⟩ := rep.one
    exact .inl ⟨_, by rw [r.int_of], k H _ (Step.refl T H) sim (.int _)⟩
  · cases e
    obtain ⟨v, rfl, r⟩ := rep.one
    exact .inr ⟨_, by rw [r.bl_of], k H _ (Step.refl T H) sim (.int _)⟩
  · cases e
theorem pok_max : POk K mg (rMax K) maxD := fun T S H vs ds d Q sim rep e k => by
  unfold maxD at e
  split at e
  · rename_i xs
    obtain ⟨v, rfl, r⟩ := rep.one
    cases q : intsOf xs with
    | none => rw [q] at e; cases e
    | some ns =>
      rw [q] at e
      have e : (maxI ns).map D.int = some d := e
      cases q2 : maxI ns with
      | none => rw [q2] at e; cases e
      | some m =>
        rw [q2] at e
        cases e
        have e3 := intsOf_some q
        subst e3
        obtain ⟨h1, h2⟩ := maxI_ok q2
        cases r with
        | lst h n r =>
          rw [r.of_ints] at h
          refine ⟨_, ns, rfl, SqL.of h, List.length_pos_of_mem h1, fun m' h3 h4 => ?_⟩
          have e5 : m' = m := Int.le_antisymm (h2 m' h3) (h4 m h1)
          subst e5
          exact k H _ (Step.refl T H) sim (.int _)
  · cases e
theorem pok_sum : POk K mg (rSum K) sumD := fun T S H vs ds d Q sim rep e k => by
  unfold sumD at e
  split at e
  · rename_i xs
    obtain ⟨v, rfl, r⟩ := rep.one
    cases q : intsOf xs with
    | none => rw [q] at e; cases e
    | some ns =>
      rw [q] at e
      cases e
      have e3 := intsOf_some q
      subst e3
      cases r with
      | lst h n r =>
        rw [r.of_ints] at h
        exact ⟨_, ns, rfl, SqL.of h, k H _ (Step.refl T H) sim (.int _)⟩
  · cases e
theorem pok_all : POk K mg (rAll K) allD := fun T S H vs ds d Q sim rep e k => by
  unfold allD at e
  split at e
  · rename_i xs
    obtain ⟨v, rfl, r⟩ := rep.one
    cases q : blsOf xs with
    | none => rw [q] at e; cases e
    | some ns =>
      rw [q] at e
      cases e
      have e3 := blsOf_some q
      subst e3
      cases r with
      | lst h n r =>
        rw [r.of_bls] at h
        exact ⟨_, ns, rfl, SqL.of h, k H _ (Step.refl T H) sim (.bl _)⟩
  · cases e
theorem pok_any : POk K mg (rAny K) anyD := fun T S H vs ds d Q sim rep e k => by
  unfold anyD at e
  split at e
  · rename_i xs
    obtain ⟨v, rfl, r⟩ := rep.one
    cases q : blsOf xs with
    | none => rw [q] at e; cases e
    | some ns =>
      rw [q] at e
      cases e
      have e3 := blsOf_some q
      subst e3
      cases r with
      | lst h n r =>
        rw [r.of_bls] at h
        exact ⟨_, ns, rfl, SqL.of h, k H _ (Step.refl T H) sim (.bl _)⟩
  · cases e
theorem pok_tup : POk K mg (fun xs H Q => ∃ p ys, xs = [.ref p] ∧ ((SqL K H p ys ∧ ∀ l, H l = none → Q (.ref l) (upd H l (.tup ys))) ∨ (SqT K H p ys ∧ Q (.ref p) H))) tupD := fun T S H vs ds d Q sim rep e k => by
  have mk : ∀ {a : Addr} {xs : List V} {es : List D}, H a = some (.lst xs) → RepL K T H xs es → d = .tup es → ∃ p ys, [V.ref a] = [.ref p] ∧ ((SqL K H p ys ∧ ∀ l, H l = none → Q (.ref l) (upd H l (.tup ys))) ∨ (SqT K H p ys ∧ Q (.ref p) H)) := fun {a xs es} h r ed => by
    subst ed
    refine ⟨a, xs, rfl, .inl ⟨SqL.of h, fun p hp => ?_⟩⟩
    have st := sim.stepNew (o := .tup xs) hp
    exact k _ _ st (sim.new hp (hlen_tup sim.hl (sim.hl _ _ (.inl (.inl h))))) (.tup upd_same (sim.off hp) (r.step st))
  unfold tupD at e
  split at e
  · cases e
    obtain ⟨v, rfl, r⟩ := rep.one
    cases r with
    | lst h n r => exact mk h r rfl
  · cases e
    obtain ⟨v, rfl, r⟩ := rep.one
    cases r with
    | tup h n r => exact ⟨_, _, rfl, .inr ⟨SqT.of h, k H _ (Step.refl T H) sim (.tup h n r)⟩⟩
  · obtain ⟨v, rfl, r⟩ := rep.one
    split at e
    · rename_i xs q
      cases e
      cases r with
      | loc hn =>
        obtain ⟨ys, q1, q2⟩ := sim.obj _ _ _ hn q
        exact mk q1 q2 rfl
    · cases e
  · cases e
theorem pok_lst : POk K mg (fun xs H Q => ∃ p ys, xs = [.ref p] ∧ (SqL K H p ys ∨ SqT K H p ys) ∧ ∀ l, H l = none → Q (.ref l) (upd H l (.lst ys))) lstD := fun T S H vs ds d Q sim rep e k => by
  have mk : ∀ {xs : List V} {es : List D}, xs.length ≤ sizeLine → RepL K T H xs es → d = .lst es → ∀ l, H l = none → Q (.ref l) (upd H l (.lst xs)) := fun {xs es} hz r ed p hp => by
    subst ed
    have st := sim.stepNew (o := .lst xs) hp
    exact k _ _ st (sim.new hp (hlen_lst sim.hl hz)) (.lst upd_same (sim.off hp) (r.step st))
  unfold lstD at e
  split at e
  · cases e
    obtain ⟨v, rfl, r⟩ := rep.one
    cases r with
    | lst h n r => exact ⟨_, _, rfl, .inl (SqL.of h), mk (sim.hl _ _ (.inl (.inl h))) r rfl⟩
  · cases e
    obtain ⟨v, rfl, r⟩ := rep.one
    cases r with
    | tup h n r => exact ⟨_, _, rfl, .inr (SqT.of h), mk (sim.hl _ _ (.inr (.inl h))) r rfl⟩
  · obtain ⟨v, rfl, r⟩ := rep.one
    split at e
    · rename_i xs q
      cases e
      cases r with
      | loc hn =>
        obtain ⟨ys, q1, q2⟩ := sim.obj _ _ _ hn q
        exact ⟨_, _, rfl, .inl (SqL.of q1), mk (sim.hl _ _ (.inl (.inl q1))) q2 rfl⟩
    · cases e
  · cases e
end
/-! ### isinstance -/
def tyN (d : D) : Option String := match d with
  | .non => some "NoneType"
  | .bl _ => some "bool"
  | .int _ => some "int"
  | .str _ => some "str"
  | .tup _ => some "tuple"
  | .lst _ => some "list"
  | _ => none
def isiD (ds : List D) (_ : Store) : Option D := match ds with
  | [d, .ty n] => ((tyN d).bind fun t => kitB t n).map .bl
  | _ => none
section
variable {X : Cx} {K : PySem.W.Frag} {mg : Str → Option Value} {Wx : WX}
theorem Rep.tyx {T : Tb} {H : Hp} {v : V} {d : D} {t : String} (h : Rep K T H v d) (e : tyN d = some t) : TyX K H v (.type t) := by
  cases h <;> cases e
  · exact .base .non
  · exact .base (.bl _)
  · exact .base (.int _)
  · exact .base (.str _)
  · rename_i h n r
    exact .base (.tup h)
  · rename_i h n r
    exact .base (.lst h)
theorem pok_isi : POk K mg (rIsi K) isiD := fun T S H vs ds d Q sim rep e k => by
  unfold isiD at e
  split at e
  · rename_i x n
    cases rep with
    | cons r1 q =>
      cases q with
      | cons r2 q =>
        cases q
        cases q1 : tyN x with
        | none => rw [q1] at e; cases e
        | some t =>
          rw [q1] at e
          have e : (kitB t n).map D.bl = some d := e
          cases q2 : kitB t n with
          | none => rw [q2] at e; cases e
          | some b =>
            rw [q2] at e
            cases e
            cases r2
            exact ⟨_, _, _, _, b, rfl, .ty n, r1.tyx q1, kit_ty q2, k H _ (Step.refl T H) sim (.bl _)⟩
  · cases e
theorem j_ty {x : Str} {n : String} {pos : Pos} (hg : Gl X x) (hm : X.mg x = none) (hv : bootBuiltins x = some (.type n)) (hn : x ≠ "__name__" := by decide) (hd : (x == ("__debug__" : Str)) = false := by decide) : PE X (.Name x pos) (tD X.K X.mg Wx (mC (.ty n))) :=
  j_c (pe_bltn (v := .ty n) hg hm hv rfl hn hd) fun _ _ => .ty n
end
/-! ### places -/
def ixD (a b : D) (S : Store) : Option D := match a, b with
  | .lst xs, .int i => atI xs i
  | .tup xs, .int i => atI xs i
  | .scr ns, .int i => (atI ns i).map .int
  | .str x, .int i => if x.length ≤ 100000 then (atI x.cps.toList i).map chD else none
  | .loc n, .int i => match S[n]? with
    | some (.lst xs) => atI xs i
    | _ => none
  | _, _ => none
section
variable {X : Cx} {K : PySem.W.Frag} {mg : Str → Option Value} {Wx : WX}
theorem atI_rep {T : Tb} {H : Hp} {vs : List V} {ds : List D} {i : Int} {d : D} (h : RepL K T H vs ds) (e : atI ds i = some d) : ∃ v, atI vs i = some v ∧ Rep K T H v d := by
  unfold atI at e ⊢
  rw [h.length]
  cases q : ixN ds.length i with
  | none => rw [q] at e; cases e
  | some j =>
    rw [q] at e
    exact h.get e
theorem atI_map {α β : Type} (f : α → β) (xs : List α) (i : Int) : atI (xs.map f) i = (atI xs i).map f := by
  unfold atI
  rw [List.length_map]
  cases ixN xs.length i with
  | none => rfl
  | some j => exact List.getElem?_map
theorem pok_ix : POk2 K mg (rIx K) ixD := fun T S H x y a b d Q sim rx ry e k => by
  cases ry <;> try (cases a <;> cases e)
  rename_i i
  cases rx <;> try cases e
  · rename_i x
    simp only [ixD] at e
    split at e
    · rename_i hz
      cases q : atI x.cps.toList i with
      | none => rw [q] at e; cases e
      | some c =>
        rw [q] at e
        cases e
        exact .inr (.inr ⟨x, i, c, rfl, rfl, sz5 hz, q, k H _ (Step.refl T H) sim (.str _)⟩)
    · cases e
  · rename_i a xs ds h n r
    obtain ⟨v, h1, h2⟩ := atI_rep r e
    exact .inr (.inl ⟨a, xs, i, v, rfl, rfl, SqT.of h, h1, k H _ (Step.refl T H) sim h2⟩)
  · rename_i a xs ds h n r
    obtain ⟨v, h1, h2⟩ := atI_rep r e
    exact .inl ⟨a, xs, i, v, rfl, rfl, SqL.of h, h1, k H _ (Step.refl T H) sim h2⟩
  · rename_i a ns h
    simp only [ixD] at e
    cases q : atI ns i with
    | none => rw [q] at e; cases e
    | some c =>
      rw [q] at e
      cases e
      exact .inl ⟨a, _, i, .int c, rfl, rfl, h.sq, by rw [atI_map, q]; rfl, k H _ (Step.refl T H) sim (.int _)⟩
  · rename_i a n hn
    simp only [ixD] at e
    split at e
    · rename_i xs q
      obtain ⟨ys, q1, q2⟩ := sim.obj _ _ _ hn q
      obtain ⟨v, h1, h2⟩ := atI_rep q2 e
      exact .inl ⟨a, ys, i, v, rfl, rfl, SqL.of q1, h1, k H _ (Step.refl T H) sim h2⟩
    · cases e
end
/-! ### slices -/
abbrev OM := Env → Store → R (Option Int)
def mNoP : OM := fun _ S => .ok none S
def mP (m : EM) : OM := fun r S => (m r S).bind fun d S1 => match d with
  | .int i => .ok (some i) S1
  | _ => .bad
def cutL {α : Type} (xs : List α) (lo hi : Option Int) : List α := (xs.drop (HT.sIx xs.length 0 lo)).take (HT.sIx xs.length xs.length hi - HT.sIx xs.length 0 lo)
def slD (d : D) (lo hi : Option Int) (S : Store) : Option D := match d with
  | .lst xs => some (.lst (cutL xs lo hi))
  | .tup xs => some (.tup (cutL xs lo hi))
  | .loc n => match S[n]? with
    | some (.lst xs) => some (.lst (cutL xs lo hi))
    | _ => none
  | _ => none
def mSl (m : EM) (ml mh : OM) : EM := fun r S => (m r S).bind fun d S1 => (ml r S1).bind fun lo S2 => (mh r S2).bind fun hi S3 => ofO (slD d lo hi S3) S3
def tDO (K : PySem.W.Frag) (mg : Str → Option Value) (Wx : WX) (m : OM) : TO := fun g H Q => ∃ T r S, RepSt K T H r g ∧ Sim K mg T S H ∧ Out K mg Wx (fun _ _ v d => v = d) T g H (m r S) Q
section
variable {X : Cx} {K : PySem.W.Frag} {mg : Str → Option Value} {Wx : WX} {e : Expr} {m : EM} {ml mh : OM} {pos p2 : Pos} {lo hi : Option Expr}
theorem po_imp {e : Option Expr} {t t' : TO} (h : PO X e t) (i : ∀ g H Q, t' g H Q → t g H Q) : PO X e t' := ⟨fun pins s g H Q I w => h.run pins s g H Q I (i g H Q w)⟩
theorem jo_none : PO X none (tDO X.K X.mg Wx mNoP) := po_imp po_none fun g H Q h => by
  obtain ⟨T, r, S, rs, sim, h⟩ := h
  exact h T H none (Step.refl T H) sim rfl
theorem jo_some (h : PE X e (tD X.K X.mg Wx m)) : PO X (some e) (tDO X.K X.mg Wx (mP m)) := po_imp (po_some h) fun g H Q h => by
  obtain ⟨T, r, S, rs, sim, h⟩ := h
  refine ⟨T, r, S, rs, sim, Out.bind h fun d S1 T1 H1 v st sim1 rel h1 => ?_⟩
  cases d with
  | int i =>
    rw [rel.int_of]
    exact ⟨i, rfl, h1 T1 H1 _ (Step.refl T1 H1) sim1 rfl⟩
  | _ => exact h1.elim
theorem cut_rep {T : Tb} {H : Hp} {vs : List V} {ds : List D} (lo hi : Option Int) (h : RepL K T H vs ds) : RepL K T H (cutV vs lo hi) (cutL ds lo hi) := by
  unfold cutV cutL
  rw [h.length]
  exact (h.drop _).take _
theorem cut_whole {α : Type} {xs : List α} {lo hi : Option Int} (h : HT.sIx xs.length 0 lo = 0 ∧ HT.sIx xs.length xs.length hi = xs.length) : cutL xs lo hi = xs := by
  unfold cutL
  rw [h.1, h.2, Nat.sub_zero, List.drop_zero, List.take_length]
def rSlB (K : PySem.W.Frag) : V → Option Int → Option Int → Hp → VK → Prop := fun x lo hi H Q => rSlL K x lo hi H Q ∨ rSlA K x lo hi H Q
theorem sl_B : SlR X (rSlB X.K) := sl_list.or sl_tupA
theorem sl_ok {T : Tb} {S : Store} {H : Hp} {v : V} {d d' : D} {lo hi : Option Int} {Q : VK} (sim : Sim K mg T S H) (h : Rep K T H v d) (e : slD d lo hi S = some d') (k : ∀ H' v, Step T H T H' → Sim K mg T S H' → Rep K T H' v d' → Q v H') : rSlB K v lo hi H Q := by
  have mk : ∀ {a : Addr} {xs : List V} {es : List D}, H a = some (.lst xs) → RepL K T H xs es → d' = .lst (cutL es lo hi) → rSlB K (.ref a) lo hi H Q := fun {a xs es} h r ed => by
    subst ed
    refine .inl ⟨a, xs, rfl, SqL.of h, fun p hp => ?_⟩
    have st := sim.stepNew (o := .lst (cutV xs lo hi)) hp
    exact k _ _ st (sim.new hp (hlen_lst sim.hl (Nat.le_trans (cutV_length _ _ _) (sim.hl _ _ (.inl (.inl h)))))) (.lst upd_same (sim.off hp) ((cut_rep lo hi r).step st))
  cases h <;> try cases e
  · rename_i a xs ds h n r
    refine .inr ⟨a, xs, rfl, SqT.of h, fun q => ?_, fun q p hp => ?_⟩
    · refine k H _ (Step.refl T H) sim ?_
      rw [r.length] at q
      rw [cut_whole q]
      exact .tup h n r
    · have st := sim.stepNew (o := .tup (cutV xs lo hi)) hp
      exact k _ _ st (sim.new hp (hlen_tup sim.hl (Nat.le_trans (cutV_length _ _ _) (sim.hl _ _ (.inr (.inl h)))))) (.tup upd_same (sim.off hp) ((cut_rep lo hi r).step st))
  · rename_i a xs ds h n r
    exact mk h r rfl
  · rename_i a n hn
    simp only [slD] at e
    split at e
    · rename_i xs q
      cases e
      obtain ⟨ys, q1, q2⟩ := sim.obj _ _ _ hn q
      exact mk q1 q2 rfl
    · cases e
theorem j_slice (he : PE X e (tD X.K X.mg Wx m)) (hl : PO X lo (tDO X.K X.mg Wx ml)) (hu : PO X hi (tDO X.K X.mg Wx mh)) : PE X (.Subscript e (.Slice lo hi none p2) pos) (tD X.K X.mg Wx (mSl m ml mh)) :=
  pe_imp (pe_slice sl_B he hl hu) fun g H Q h => by
    obtain ⟨T, r, S, rs, sim, h⟩ := h
    refine ⟨T, r, S, rs, sim, Out.bind h fun d S1 T1 H1 v st sim1 rel h1 => ?_⟩
    refine ⟨T1, r, S1, rs.step st, sim1, Out.bind h1 fun l S2 T2 H2 lv st2 sim2 rel2 h2 => ?_⟩
    subst rel2
    refine ⟨T2, r, S2, (rs.step st).step st2, sim2, Out.bind h2 fun u S3 T3 H3 uv st3 sim3 rel3 h3 => ?_⟩
    subst rel3
    exact Out.use h3 fun d' e k => sl_ok sim3 (rel.step (st2.trans st3)) e fun H' v' s' => k T3 H' v' s'
end
/-! ### things of the store change -/
def isLoc (o : D) (S : Store) : Bool := match o with
  | .loc n => match S[n]? with
    | some (.lst _) => true
    | _ => false
  | _ => false
def appD (o d : D) (S : Store) : R D := match o with
  | .loc n => match S[n]? with
    | some (.lst xs) => if xs.length < 100000 then .ok .non (S.set n (.lst (xs ++ [d]))) else .bad
    | _ => .bad
  | _ => .bad
def mAppend (mo m : EM) : EM := fun r S => (mo r S).bind fun o S1 => if isLoc o S1 = true then (m r S1).bind fun d S2 => appD o d S2 else .bad
def popD (o : D) (S : Store) : R D := match o with
  | .loc n => match S[n]? with
    | some (.lst xs) => match xs[xs.length - 1]? with
      | some d => .ok d (S.set n (.lst xs.dropLast))
      | none => .bad
    | _ => .bad
  | _ => .bad
def mPop (mo : EM) : EM := fun r S => (mo r S).bind fun o S1 => popD o S1
def putD (o i d : D) (r : Env) (S : Store) : Z := match o, i with
  | .loc n, .int k => match S[n]? with
    | some (.lst xs) => match ixN xs.length k with
      | some j => .ok .next r (S.set n (.lst (xs.set j d)))
      | none => .bad
    | _ => .bad
  | _, _ => .bad
/-- xs[i] = v -/
def sSetIx (mo mi m : EM) : SM := fun r S => bindS (m r S) r fun d S1 => bindS (mo r S1) r fun o S2 => bindS (mi r S2) r fun i S3 => putD o i d r S3
def ipD (f : Int → Int → Int) (x y : D) : Option D := match x, y with
  | .int a, .int b => some (.int (f a b))
  | _, _ => none
def getL (o i : D) (S : Store) : Option D := match o, i with
  | .loc n, .int k => match S[n]? with
    | some (.lst xs) => if 0 ≤ k then xs[k.toNat]? else none
    | _ => none
  | _, _ => none
/-- xs[i] += e, whole numbers -/
def sAugIx (f : Int → Int → Int) (mo mi m : EM) : SM := fun r S => bindS (mo r S) r fun o S1 => bindS (mi r S1) r fun i S2 => bindS (ofO (getL o i S2) S2) r fun x S3 => bindS (m r S3) r fun y S4 => bindS (ofO (ipD f x y) S4) r fun z S5 => putD o i z r S5
section
variable {X : Cx} {Wx : WX} {o e i : Expr} {mo mi m : EM} {pos apos tpos : Pos} {K : PySem.W.Frag} {mg : Str → Option Value}
theorem loc_of {T : Tb} {S : Store} {H : Hp} {v : V} {n : Nat} {o : O} (sim : Sim K mg T S H) (h : Rep K T H v (.loc n)) (e : S[n]? = some o) : ∃ a, v = .ref a ∧ T.loc[n]? = some a ∧ ORep K mg T H a o := by
  cases h with
  | loc hn => exact ⟨_, rfl, hn, sim.obj _ _ _ hn e⟩
theorem lst_set {T : Tb} {S : Store} {H : Hp} {a : Addr} {n : Nat} {xs : List V} {ds : List D} (sim : Sim K mg T S H) (hn : T.loc[n]? = some a) (hz : xs.length ≤ sizeLine) (r : RepL K T H xs ds) :
    Step T H T (upd H a (.lst xs)) ∧ Sim K mg T (S.set n (.lst ds)) (upd H a (.lst xs)) := by
  have st := sim.stepSet (u := .lst xs) (List.mem_of_getElem? hn)
  exact ⟨st, sim.set hn (hlen_lst sim.hl hz) ⟨xs, upd_same, r.step st⟩⟩
theorem isLoc_ty {T : Tb} {S : Store} {H : Hp} {v : V} {d : D} (sim : Sim K mg T S H) (h : Rep K T H v d) (e : isLoc d S = true) : tyV K "list" v H := by
  unfold isLoc at e
  split at e
  · rename_i n
    split at e
    · rename_i xs q
      obtain ⟨a, rfl, hn, ys, q1, q2⟩ := loc_of sim h q
      exact .inl ⟨rfl, ys, SqL.of q1⟩
    · cases e
  · cases e
theorem j_append (ho : PE X o (tD X.K X.mg Wx mo)) (ha : PE X e (tD X.K X.mg Wx m)) (hbase : attributeBase o "append" X.env (eval o X.env) = eval o X.env := by rfl)
    (hfew : ((backTo pos (starEach [e] X.env)).all (fun x => !x.1) && (backToKw pos (keywordEach [] X.env)).all (fun x => x.1.isSome) && decide (([e] : List Expr).length + ([] : List Keyword).length + (if ([] : List Keyword).isEmpty then 0 else 1) < 30)) = true := by rfl)
    (hline : (apos.endLine == pos.line) = true := by rfl) (hs : starEach [e] X.env = (false, eval e X.env) :: starEach [] X.env := by rfl) (hplain : (backTo pos (starEach [] X.env)).any (·.1) = false := by rfl) :
    PE X (.Call (.Attribute o "append" apos) [e] [] pos) (tD X.K X.mg Wx (mAppend mo m)) :=
  pe_imp (pe_bm PySem.F.plainAttrs_list PySem.F.slot_list_append PySem.F.type_list_append mt_append ho (pa_cons ha pa_nil hs) hbase hfew hline hs hplain) fun g H Q h => by
    obtain ⟨T, r, S, rs, sim, h⟩ := h
    refine ⟨T, r, S, rs, sim, Out.bind h fun d S1 T1 H1 v st sim1 rel h1 => ?_⟩
    split at h1
    · rename_i hl
      refine ⟨isLoc_ty sim1 rel hl, T1, r, S1, rs.step st, sim1, Out.bind h1 fun y S2 T2 H2 w st2 sim2 rel2 h2 => ?_⟩
      unfold appD at h2
      split at h2
      · rename_i n
        split at h2
        · rename_i xs q
          split at h2
          · rename_i hz
            obtain ⟨a, rfl, hn, ys, q1, q2⟩ := loc_of sim2 (rel.step st2) q
            have hl' : ys.length < sizeLine := by rw [q2.length]; exact Nat.lt_of_lt_of_le hz (by decide)
            obtain ⟨st3, sim3⟩ := lst_set (xs := ys ++ [w]) (ds := xs ++ [y]) sim2 hn (by rw [List.length_append, List.length_singleton]; omega) (RepL.append q2 (.cons rel2 .nil))
            exact ⟨a, ys, w, rfl, rfl, q1, hl', h2 T2 _ _ st3 sim3 .non⟩
          · exact h2.elim
        · exact h2.elim
      · exact h2.elim
    · exact h1.elim
theorem RepL.dropLast {T : Tb} {H : Hp} {vs : List V} {ds : List D} (h : RepL K T H vs ds) : RepL K T H vs.dropLast ds.dropLast := by
  rw [List.dropLast_eq_take, List.dropLast_eq_take, h.length]
  exact h.take _
theorem j_pop (ho : PE X o (tD X.K X.mg Wx mo)) (hbase : attributeBase o "pop" X.env (eval o X.env) = eval o X.env := by rfl) (hline : (apos.endLine == pos.line) = true := by rfl) :
    PE X (.Call (.Attribute o "pop" apos) [] [] pos) (tD X.K X.mg Wx (mPop mo)) :=
  pe_imp (pe_bm0 PySem.F.plainAttrs_list PySem.F.slot_list_pop PySem.F.type_list_pop mt_pop ho hbase hline) fun g H Q h => by
    obtain ⟨T, r, S, rs, sim, h⟩ := h
    refine ⟨T, r, S, rs, sim, Out.bind h fun d S1 T1 H1 v st sim1 rel h1 => ?_⟩
    unfold popD at h1
    split at h1
    · rename_i n
      split at h1
      · rename_i xs q
        split at h1
        · rename_i y ey
          obtain ⟨a, rfl, hn, ys, q1, q2⟩ := loc_of sim1 rel q
          obtain ⟨w, e1, e2⟩ := q2.get ey
          have hz : ys.dropLast.length ≤ sizeLine := by
            have := sim1.hl a ys (.inl (.inl q1))
            rw [List.length_dropLast]
            omega
          obtain ⟨st3, sim3⟩ := lst_set sim1 hn hz q2.dropLast
          exact ⟨.inl ⟨rfl, ys, SqL.of q1⟩, a, ys, w, rfl, rfl, q1, by rw [q2.length]; exact e1, h1 T1 _ _ st3 sim3 (e2.step st3)⟩
        · exact h1.elim
      · exact h1.elim
    · exact h1.elim
theorem putD_ok {T : Tb} {S : Store} {H : Hp} {r : Env} {E : Ends} {g : St} {ov iv v : V} {o i d : D} (sim : Sim K mg T S H) (rs : RepSt K T H r g) (h1 : Rep K T H ov o) (h2 : Rep K T H iv i) (h3 : Rep K T H v d) (h : ZOut K mg Wx T H (putD o i d r S) E) :
    rSetL ov iv v H fun H4 => E.nx g H4 := by
  unfold putD at h
  split at h
  · rename_i n k
    split at h
    · rename_i xs q
      split at h
      · rename_i j ej
        obtain ⟨a, rfl, hn, ys, q1, q2⟩ := loc_of sim h1 q
        obtain ⟨st3, sim3⟩ := lst_set sim hn (by rw [List.length_set]; exact sim.hl a ys (.inl (.inl q1))) (q2.set h3 j)
        exact ⟨a, ys, k, j, rfl, h2.int_of, q1, by rw [q2.length]; exact ej, h T _ g st3 sim3 (rs.step st3)⟩
      · exact h.elim
    · exact h.elim
  · exact h.elim
theorem js_setIx {hv : Expr} {mv : EM} (he : PE X hv (tD X.K X.mg Wx mv)) (ho : PE X o (tD X.K X.mg Wx mo)) (hi : PE X i (tD X.K X.mg Wx mi))
    (ha : ∀ v, assign (.Subscript o i tpos) X.env v = (do
      let ov ← holding [v] (eval o X.env)
      let iv ← holding [v, ov] (eval i X.env)
      standAt tpos
      holding [v, ov, iv] (setItem ov iv v)
      release [v, ov, iv] []) := by intro _; rfl)
    (hs : swapsWithSole [.Subscript o i tpos] hv pos.line X.env = pure false := by rfl) (hw : swappedStores [.Subscript o i tpos] hv X.env = pure none := by rfl)
    (h1 : (assignEach [.Subscript o i tpos] X.env).map (·.2) = [assign (.Subscript o i tpos) X.env] := by rfl) : PS X (.Assign [.Subscript o i tpos] hv pos) (tDS X.K X.mg Wx (sSetIx mo mi mv)) :=
  ps_imp (ps_asg he (pg_sub ho hi set_list ha) hs hw h1) fun E g H h => by
    obtain ⟨T, r, S, rs, sim, h⟩ := h
    refine ⟨T, r, S, rs, sim, ZOut.bind h rs fun d S1 T1 H1 v st sim1 rel rs1 h1 => ?_⟩
    refine ⟨T1, r, S1, rs1, sim1, ZOut.bind h1 rs1 fun ov S2 T2 H2 x st2 sim2 rel2 rs2 h2 => ?_⟩
    refine ⟨T2, r, S2, rs2, sim2, ZOut.bind h2 rs2 fun iv S3 T3 H3 y st3 sim3 rel3 rs3 h3 => ?_⟩
    exact putD_ok sim3 rs3 (rel2.step st3) rel3 (rel.step (st2.trans st3)) h3
def rGetL (K : PySem.W.Frag) : V → V → Hp → VK → Prop := fun x y H Q => ∃ p xs k v, x = .ref p ∧ y = .int k ∧ SqL K H p xs ∧ 0 ≤ k ∧ xs[k.toNat]? = some v ∧ Q v H
theorem get_lst : PGet X (rGetL X.K) := fun pins s g H o i ov iv Q I r1 r2 h => by
  obtain ⟨p, xs, k, v, rfl, rfl, hq, h0, hx, q⟩ := h
  cases r1
  obtain ⟨t, rfl⟩ := r2
  obtain ⟨its, rv, pl, hz⟩ := I.list hq
  obtain ⟨u, e1, e2⟩ := rv.get hx
  have hk := (List.getElem?_eq_some_iff.mp hx).1
  have hl := line63
  exact wpAny_getItem_list pl.isList h0 (by omega) (by simpa using e1) ⟨v, H, I, e2, q⟩
theorem js_augIx {op : Operator} {f : Int → Int → Int} (hp : PIp X op (ipI f)) (ho : PE X o (tD X.K X.mg Wx mo)) (hi : PE X i (tD X.K X.mg Wx mi)) (he : PE X e (tD X.K X.mg Wx m))
    (ha : ∀ ov iv new, augStore i ov iv new = (do holding [new, ov, iv] (setItem ov iv new); release [new, ov, iv] []; pure .next) := by intros; rfl) :
    PS X (.AugAssign (.Subscript o i tpos) op e pos) (tDS X.K X.mg Wx (sAugIx f mo mi m)) :=
  ps_imp (ps_augS ho hi get_lst he hp set_list ha) fun E g H h => by
    obtain ⟨T, r, S, rs, sim, h⟩ := h
    refine ⟨T, r, S, rs, sim, ZOut.bind h rs fun ov S1 T1 H1 x st sim1 rel rs1 h1 => ?_⟩
    refine ⟨T1, r, S1, rs1, sim1, ZOut.bind h1 rs1 fun iv S2 T2 H2 y st2 sim2 rel2 rs2 h2 => ?_⟩
    have h2' := ZOut.bind (rel := Rep X.K) h2 rs2 (Q := fun z H3 => tD X.K X.mg Wx m g H3 fun w H4 => ipI f z w H4 fun u H5 => rSetL x y u H5 fun H6 => E.nx g H6) fun xd S3 T3 H3 z st3 sim3 rel3 rs3 h3 => by
      refine ⟨T3, r, S3, rs3, sim3, ZOut.bind h3 rs3 fun yd S4 T4 H4 w st4 sim4 rel4 rs4 h4 => ?_⟩
      have h4' := ZOut.bind (rel := Rep X.K) h4 rs4 (Q := fun u H5 => rSetL x y u H5 fun H6 => E.nx g H6) fun zd S5 T5 H5 u st5 sim5 rel5 rs5 h5 =>
        putD_ok sim5 rs5 (rel.step (((st2.trans st3).trans st4).trans st5)) (rel2.step ((st3.trans st4).trans st5)) rel5 h5
      refine Out.use h4' fun d ed kd => ?_
      cases xd <;> cases yd <;> cases ed
      rw [(rel3.step st4).int_of, rel4.int_of]
      exact ⟨_, _, rfl, rfl, kd T4 H4 _ (Step.refl T4 H4) sim4 (.int _)⟩
    refine Out.use h2' fun d ed kd => ?_
    unfold getL at ed
    split at ed
    · rename_i n k
      split at ed
      · rename_i xs q
        split at ed
        · rename_i h0
          obtain ⟨a, rfl, hn, ys, q1, q2⟩ := loc_of sim2 (rel.step st2) q
          obtain ⟨w, e1, e2⟩ := q2.get ed
          exact ⟨a, ys, k, w, rfl, rel2.int_of, SqL.of q1, h0, e1, kd T2 H2 w (Step.refl T2 H2) sim2 e2⟩
        · cases ed
      · cases ed
    · cases ed
end
end Dv
namespace Dv
open PySem L2
/-! ### own classes -/
def fldD (c f : Str) (d : D) (S : Store) : Option D := match d with
  | .loc n => match S[n]? with
    | some (.ins c' fs) => if c' = c then fs.lookup f else none
    | _ => none
  | _ => none
def mFld (c f : Str) (m : EM) : EM := mUn (fldD c f) m
def putFD (f : Str) (v : D) : List (Str × D) → List (Str × D)
  | [] => [(f, v)]
  | (g, w) :: r => if g = f then (g, v) :: r else (g, w) :: putFD f v r
def setFD (c f : Str) (o v : D) (r : Env) (S : Store) : Z := match o with
  | .loc n => match S[n]? with
    | some (.ins c' fs) => if c' = c ∧ fs.length < 900 then .ok .next r (S.set n (.ins c' (putFD f v fs))) else .bad
    | _ => .bad
  | _ => .bad
def sFldD (c f : Str) (mo m : EM) : SM := fun r S => bindS (m r S) r fun v S1 => bindS (mo r S1) r fun o S2 => setFD c f o v r S2
/-- o.f += e, whole numbers -/
def sFldAugD (c f : Str) (h : Int → Int → Int) (mo m : EM) : SM := fun r S => bindS (mo r S) r fun o S1 => bindS (ofO (fldD c f o S1) S1) r fun x S2 => bindS (m r S2) r fun y S3 => bindS (ofO (ipD h x y) S3) r fun z S4 => setFD c f o z r S4
section
variable {K : PySem.W.Frag} {mg : Str → Option Value} {T : Tb} {H : Hp}
theorem lookup_rep {f : Str} {d : D} : ∀ {fvs : List (Str × V)} {fs : List (Str × D)}, fvs.map (·.1) = fs.map (·.1) → RepL K T H (fvs.map (·.2)) (fs.map (·.2)) → fs.lookup f = some d → ∃ v, fvs.lookup f = some v ∧ Rep K T H v d
  | [], [], _, _, e => by cases e
  | [], _ :: _, q, _, _ => by cases q
  | _ :: _, [], q, _, _ => by cases q
  | (g, w) :: fvs, (g', d') :: fs, q, r, e => by
    injection q with q1 q2
    have q1 : g = g' := q1
    subst q1
    cases r with
    | cons r1 r2 =>
      rw [List.lookup_cons] at e ⊢
      cases hb : (f == g) with
      | true =>
        rw [hb] at e
        cases e
        exact ⟨w, rfl, r1⟩
      | false =>
        rw [hb] at e
        exact lookup_rep q2 r2 e
theorem lookup_none {f : Str} : ∀ {fvs : List (Str × V)} {fs : List (Str × D)}, fvs.map (·.1) = fs.map (·.1) → fs.lookup f = none → fvs.lookup f = none
  | [], _, _, _ => rfl
  | _ :: _, [], q, _ => by cases q
  | (g, w) :: fvs, (g', d') :: fs, q, e => by
    injection q with q1 q2
    have q1 : g = g' := q1
    subst q1
    rw [List.lookup_cons] at e ⊢
    cases hb : (f == g) with
    | true => rw [hb] at e; cases e
    | false =>
      rw [hb] at e
      exact lookup_none q2 e
theorem putF_rep {f : Str} {v : V} {d : D} (hv : Rep K T H v d) : ∀ {fvs : List (Str × V)} {fs : List (Str × D)}, fvs.map (·.1) = fs.map (·.1) → RepL K T H (fvs.map (·.2)) (fs.map (·.2)) →
    (putF f v fvs).map (·.1) = (putFD f d fs).map (·.1) ∧ RepL K T H ((putF f v fvs).map (·.2)) ((putFD f d fs).map (·.2))
  | [], [], _, _ => ⟨rfl, .cons hv .nil⟩
  | [], _ :: _, q, _ => by cases q
  | _ :: _, [], q, _ => by cases q
  | (g, w) :: fvs, (g', d') :: fs, q, r => by
    injection q with q1 q2
    have q1 : g = g' := q1
    subst q1
    cases r with
    | cons r1 r2 =>
      obtain ⟨h1, h2⟩ := putF_rep hv q2 r2
      show ((if g = f then (g, v) :: fvs else (g, w) :: putF f v fvs).map (·.1)) = ((if g = f then (g, d) :: fs else (g, d') :: putFD f d fs).map (·.1)) ∧ RepL K T H ((if g = f then (g, v) :: fvs else (g, w) :: putF f v fvs).map (·.2)) ((if g = f then (g, d) :: fs else (g, d') :: putFD f d fs).map (·.2))
      by_cases hg : g = f
      · rw [if_pos hg, if_pos hg]
        exact ⟨by rw [List.map_cons, List.map_cons, q2], .cons hv r2⟩
      · rw [if_neg hg, if_neg hg]
        exact ⟨by rw [List.map_cons, List.map_cons, h1], .cons r1 h2⟩
end
/-- what is known of a class: it stands at C, plain; its attributes are none of the class's own -/
structure ClsOk (K : PySem.W.Frag) (mg : Str → Option Value) (c : Str) (C : Addr) : Prop where
  at_ : mg c = some (.ref C)
  cls : Cls K C
section
variable {X : Cx} {Wx : WX} {o e : Expr} {c f : Str} {C : Addr} {mo m : EM} {pos pos' tpos : Pos}
theorem ins_of {K : PySem.W.Frag} {mg : Str → Option Value} {T : Tb} {S : Store} {H : Hp} {v : V} {n : Nat} {fs : List (Str × D)} (k : ClsOk K mg c C) (sim : Sim K mg T S H) (h : Rep K T H v (.loc n)) (e : S[n]? = some (.ins c fs)) :
    ∃ a dx fvs, v = .ref a ∧ T.loc[n]? = some a ∧ H a = some (.ins C dx fvs) ∧ fvs.map (·.1) = fs.map (·.1) ∧ RepL K T H (fvs.map (·.2)) (fs.map (·.2)) := by
  obtain ⟨a, rfl, hn, C', dx, fvs, h1, h2, h3, h4⟩ := loc_of sim h e
  rw [k.at_] at h1
  cases h1
  exact ⟨a, dx, fvs, rfl, hn, h2, h3, h4⟩
theorem j_fld (k : ClsOk X.K X.mg c C) (hn : NoAttr X.K C f) (he : PE X o (tD X.K X.mg Wx mo)) (hb : attributeBase o f X.env (eval o X.env) = eval o X.env := by rfl) : PE X (.Attribute o f pos) (tD X.K X.mg Wx (mFld c f mo)) :=
  pe_imp (pe_fld he hb) fun g H Q h => by
    obtain ⟨T, r, S, rs, sim, h⟩ := h
    refine ⟨T, r, S, rs, sim, Out.bind h fun d S1 T1 H1 v st sim1 rel h1 => ?_⟩
    refine Out.use h1 fun d' ed kd => ?_
    unfold fldD at ed
    split at ed
    · rename_i n
      split at ed
      · rename_i c' fs q
        split at ed
        · rename_i hc
          subst hc
          obtain ⟨a, dx, fvs, rfl, hn', h2, h3, h4⟩ := ins_of k sim1 rel q
          obtain ⟨w, e1, e2⟩ := lookup_rep h3 h4 ed
          exact ⟨a, C, dx, fvs, w, rfl, h2, k.cls, hn, e1, kd T1 H1 w (Step.refl T1 H1) sim1 e2⟩
        · cases ed
      · cases ed
    · cases ed
theorem setFD_ok {K : PySem.W.Frag} {mg : Str → Option Value} {T : Tb} {S : Store} {H : Hp} {r : Env} {E : Ends} {g : St} {ov v : V} {o d : D} (k : ClsOk K mg c C) (sim : Sim K mg T S H) (rs : RepSt K T H r g) (h1 : Rep K T H ov o) (h3 : Rep K T H v d) (h : ZOut K mg Wx T H (setFD c f o d r S) E) :
    ∃ a dx fvs, ov = .ref a ∧ H a = some (.ins C dx fvs) ∧ fvs.length < 1000 ∧ E.nx g (upd H a (.ins C dx (putF f v fvs))) := by
  unfold setFD at h
  split at h
  · rename_i n
    split at h
    · rename_i c' fs q
      split at h
      · rename_i hc
        obtain ⟨hc, hlen⟩ := hc
        subst hc
        obtain ⟨a, dx, fvs, rfl, hn, h2, h4, h5⟩ := ins_of k sim h1 q
        have hl : fvs.length = fs.length := by
          have := congrArg List.length h4
          rw [List.length_map, List.length_map] at this
          exact this
        have st := sim.stepSet (u := .ins C dx (putF f v fvs)) (List.mem_of_getElem? hn)
        obtain ⟨p1, p2⟩ := putF_rep (h3.step st) h4 (h5.step st)
        have sim' := sim.set (u := .ins C dx (putF f v fvs)) (o := .ins c' (putFD f d fs)) hn (hlen_oth sim.hl fun xs => ⟨nofun, nofun, fun _ => nofun, fun _ => nofun⟩) ⟨C, dx, _, k.at_, upd_same, p1, p2⟩
        exact ⟨a, dx, fvs, rfl, h2, by omega, h T _ g st sim' (rs.step st)⟩
      · exact h.elim
    · exact h.elim
  · exact h.elim
theorem js_fld (k : ClsOk X.K X.mg c C) (hn : NoAttr X.K C f) (ho : PE X o (tD X.K X.mg Wx mo)) (he : PE X e (tD X.K X.mg Wx m)) (hs : swapsWith e (some (.Attribute o f pos')) pos.line X.env = pure false := by rfl) :
    PS X (.Assign [.Attribute o f pos'] e pos) (tDS X.K X.mg Wx (sFldD c f mo m)) :=
  ps_imp (ps_fld ho he hs) fun E g H h => by
    obtain ⟨T, r, S, rs, sim, h⟩ := h
    refine ⟨T, r, S, rs, sim, ZOut.bind h rs fun d S1 T1 H1 v st sim1 rel rs1 h1 => ?_⟩
    refine ⟨T1, r, S1, rs1, sim1, ZOut.bind h1 rs1 fun od S2 T2 H2 x st2 sim2 rel2 rs2 h2 => ?_⟩
    obtain ⟨a, dx, fvs, e1, e2, e3, e4⟩ := setFD_ok k sim2 rs2 rel2 (rel.step st2) h2
    exact ⟨a, C, dx, fvs, e1, e2, k.cls, hn, e3, e4⟩
theorem js_fldAug {op : Operator} {hf : Int → Int → Int} (k : ClsOk X.K X.mg c C) (hn : NoAttr X.K C f) (hop : InOp X op fun x y H Q => ∃ i j, x = .int i ∧ y = .int j ∧ Q (.int (hf i j)) H) (ho : PE X o (tD X.K X.mg Wx mo)) (he : PE X e (tD X.K X.mg Wx m)) :
    PS X (.AugAssign (.Attribute o f tpos) op e pos) (tDS X.K X.mg Wx (sFldAugD c f hf mo m)) :=
  ps_imp (ps_fldaug ho he hop) fun E g H h => by
    obtain ⟨T, r, S, rs, sim, h⟩ := h
    refine ⟨T, r, S, rs, sim, ZOut.bind h rs fun od S1 T1 H1 x st sim1 rel rs1 h1 => ?_⟩
    have h1' := ZOut.bind (rel := Rep X.K) h1 rs1 (Q := fun z H2 => tD X.K X.mg Wx m g H2 fun w H3 => ∃ i j, z = .int i ∧ w = .int j ∧ ∃ a dx fvs, x = .ref a ∧ H3 a = some (.ins C dx fvs) ∧ fvs.length < 1000 ∧ E.nx g (upd H3 a (.ins C dx (putF f (.int (hf i j)) fvs)))) fun xd S2 T2 H2 z st2 sim2 rel2 rs2 h2 => by
      refine ⟨T2, r, S2, rs2, sim2, ZOut.bind h2 rs2 fun yd S3 T3 H3 w st3 sim3 rel3 rs3 h3 => ?_⟩
      cases xd with
      | int i =>
        cases yd with
        | int j =>
          rw [rel2.int_of, rel3.int_of]
          exact ⟨i, j, rfl, rfl, setFD_ok k sim3 rs3 (rel.step (st2.trans st3)) (.int _) h3⟩
        | _ => exact h3.elim
      | _ => cases yd <;> exact h3.elim
    refine Out.use h1' fun d' ed kd => ?_
    unfold fldD at ed
    split at ed
    · rename_i n
      split at ed
      · rename_i c' fs q
        split at ed
        · rename_i hc
          subst hc
          obtain ⟨a, dx, fvs, rfl, hn', h2, h3, h4⟩ := ins_of k sim1 rel q
          obtain ⟨w, e1, e2⟩ := lookup_rep h3 h4 ed
          obtain ⟨T5, r5, S5, q1, q2, q3⟩ := kd T1 H1 w (Step.refl T1 H1) sim1 e2
          refine ⟨a, C, dx, fvs, w, rfl, h2, k.cls, hn, e1, T5, r5, S5, q1, q2, ?_⟩
          revert q3
          cases m r5 S5 with
          | bad => exact fun h => h
          | exc n S => exact fun h => h
          | ok y S =>
            intro h T6 H6 v6 s6 m6 p6
            obtain ⟨i, j, e3, e4, a', dx', fvs', e5, e6, e7, e8⟩ := h T6 H6 v6 s6 m6 p6
            cases e5
            exact ⟨i, j, e3, e4, dx', fvs', e6, e7, e8⟩
        · cases ed
      · cases ed
    · cases ed
end
/-! ### methods -/
def isIns (c mth : Str) (o : D) (S : Store) : Bool := match o with
  | .loc n => match S[n]? with
    | some (.ins c' fs) => decide (c' = c) && (fs.lookup mth).isNone
    | _ => false
  | _ => false
def mMeth (c mth : Str) (n : Nat) (F : List D → Store → R D) (mo : EM) (ms : AM) : EM := fun r S => (mo r S).bind fun o S1 => if isIns c mth o S1 = true then (ms r S1).bind fun ds S2 => if (o :: ds).length = n then F (o :: ds) S2 else .bad else .bad
section
variable {X : Cx} {Wx : WX} {o e : Expr} {es : List Expr} {c mth : Str} {C f : Addr} {mo : EM} {ms : AM} {pos apos p : Pos} {k n : Nat} {fd : FuncData} {ps : List Str} {Fn : List D → Store → R D} {x : Str}
theorem isIns_ok {K : PySem.W.Frag} {mg : Str → Option Value} {T : Tb} {S : Store} {H : Hp} {v : V} {d : D} (kc : ClsOk K mg c C) (sim : Sim K mg T S H) (h : Rep K T H v d) (e : isIns c mth d S = true) : ∃ a dx fvs, v = .ref a ∧ H a = some (.ins C dx fvs) ∧ fvs.lookup mth = none := by
  unfold isIns at e
  split at e
  · rename_i n
    split at e
    · rename_i c' fs q
      rw [Bool.and_eq_true] at e
      have hc := of_decide_eq_true e.1
      subst hc
      obtain ⟨a, dx, fvs, rfl, hn', h2, h3, h4⟩ := ins_of kc sim h q
      exact ⟨a, dx, fvs, rfl, h2, lookup_none h3 (Option.isNone_iff_eq_none.mp e.2)⟩
    · cases e
  · cases e
theorem out_sp {K : PySem.W.Frag} {mg : Str → Option Value} {T : Tb} {g : St} {H : Hp} {x : R D} {Q : VK} (h : Out K mg Wx (Rep K) T g H x Q) : Out K mg (fun c d _ H => WE Wx g c d H) (Rep K) T [] H x Q := by
  cases x with
  | bad => exact h
  | exc n S => exact h
  | ok d S => exact h
theorem j_meth {pl : Sem Bool} (kc : ClsOk X.K X.mg c C) (hm : Meth X.K C mth f) (F : FnOk X.prog X.w X.K X.mg X.base (L2.CX X.prog X.w) k f fd ps (spD X.K X.mg n Fn)) (hr : Room k X.A) (hb : Binds X.K fd ps []) (tk : Takes X Wx)
    (ho : PE X o (tD X.K X.mg Wx mo)) (ha : PA X (e :: es) (tDA X.K X.mg Wx ms))
    (hst : starEach (e :: es) X.env = (false, eval e X.env) :: starEach es X.env := by rfl) (hpl : (backTo pos (starEach es X.env)).any (·.1) = false := by rfl)
    (ht : eval (.Call (.Attribute o mth apos) (e :: es) [] pos) X.env = (do
      let ov ← eval o X.env
      standAt apos.atName
      let (f, first) ← holding [ov] (getMethod ov mth pl)
      callWith pos f first (backTo pos (starEach (e :: es) X.env)) (backToKw pos (keywordEach [] X.env))) := by rfl) :
    PE X (.Call (.Attribute o mth apos) (e :: es) [] pos) (tD X.K X.mg Wx (mMeth c mth n Fn mo ms)) := by
  refine ⟨fun pins s g H Q I h => PySem.W.methodCall_KW (pl := pl) ?_ ht⟩
  obtain ⟨T, r, S, rs, sim, h⟩ := h
  refine thn (ho.run pins s g H (fun v H1 => ∃ a dx fvs, v = .ref a ∧ H1 a = some (.ins C dx fvs) ∧ fvs.lookup mth = none ∧ tDA X.K X.mg Wx ms g H1 fun vs H2 => spD X.K X.mg n Fn (v :: vs) H2 Q (WE Wx g)) I ⟨T, r, S, rs, sim, Out.bind h fun d S1 T1 H1 v st sim1 rel h1 => ?_⟩) fun u s1 hu => ?_
  · split at h1
    · rename_i hi
      obtain ⟨a, dx, fvs, rfl, e2, e3⟩ := isIns_ok kc sim1 rel hi
      refine ⟨a, dx, fvs, rfl, e2, e3, T1, r, S1, rs.step st, sim1, Out.bind h1 fun ds S2 T2 H2 vs st2 sim2 rel2 h2 => ?_⟩
      split at h2
      · rename_i hn
        exact ⟨by rw [List.length_cons, rel2.length]; exact hn, T2, S2, d :: ds, .cons (rel.step st2) rel2, sim2, out_sp h2⟩
      · exact h2.elim
    · exact h1.elim
  · obtain ⟨v, H1, I1, rv, a, dx, fvs, ev, ea, el, q⟩ := hu
    subst ev
    obtain rfl : u = Value.ref a := rv
    refine getmeth_ok I1 ea kc.cls hm el ?_
    refine PySem.W.callWith_K (first := [.ref a]) (h₀ := X.base) I.ok.mod.kin hm.kp (thn (ha.run pos pins s1 g H1 _ I1 q) fun us s2 hq => ?_) hst hpl
    obtain ⟨vs, H2, I2, rr, q2⟩ := hq
    exact ⟨I2.kIn, run_fnSD (us := .ref a :: us) (vs := .ref a :: vs) (E := WE Wx) (dvs := []) F hr hb .nil (passAt tk g) I2 (.cons rfl rr) (by rw [List.append_nil]; exact q2)⟩
theorem j_meth0 {pl : Sem Bool} (kc : ClsOk X.K X.mg c C) (hm : Meth X.K C mth f) (F : FnOk X.prog X.w X.K X.mg X.base (L2.CX X.prog X.w) k f fd ps (spD X.K X.mg n Fn)) (hr : Room k X.A) (hb : Binds X.K fd ps []) (tk : Takes X Wx)
    (ho : PE X o (tD X.K X.mg Wx mo))
    (ht : eval (.Call (.Attribute o mth apos) [] [] pos) X.env = (do
      let ov ← eval o X.env
      standAt apos.atName
      let (f, first) ← holding [ov] (getMethod ov mth pl)
      callWith pos f first (backTo pos (starEach [] X.env)) (backToKw pos (keywordEach [] X.env))) := by rfl) :
    PE X (.Call (.Attribute o mth apos) [] [] pos) (tD X.K X.mg Wx (mMeth c mth n Fn mo mNil)) := by
  refine ⟨fun pins s g H Q I h => PySem.W.methodCall_KW (pl := pl) ?_ ht⟩
  obtain ⟨T, r, S, rs, sim, h⟩ := h
  refine thn (ho.run pins s g H (fun v H1 => ∃ a dx fvs, v = .ref a ∧ H1 a = some (.ins C dx fvs) ∧ fvs.lookup mth = none ∧ spD X.K X.mg n Fn [v] H1 Q (WE Wx g)) I ⟨T, r, S, rs, sim, Out.bind h fun d S1 T1 H1 v st sim1 rel h1 => ?_⟩) fun u s1 hu => ?_
  · split at h1
    · rename_i hi
      obtain ⟨a, dx, fvs, rfl, e2, e3⟩ := isIns_ok kc sim1 rel hi
      have h1 : Out X.K X.mg Wx (Rep X.K) T1 g H1 (if [d].length = n then Fn [d] S1 else .bad) Q := h1
      split at h1
      · rename_i hn
        exact ⟨a, dx, fvs, rfl, e2, e3, hn, T1, S1, [d], .cons rel .nil, sim1, out_sp h1⟩
      · exact h1.elim
    · exact h1.elim
  · obtain ⟨v, H1, I1, rv, a, dx, fvs, ev, ea, el, q⟩ := hu
    subst ev
    obtain rfl : u = Value.ref a := rv
    refine getmeth_ok I1 ea kc.cls hm el ?_
    exact PySem.W.callWith_K0 (first := [.ref a]) I1.kIn hm.kp (run_fnSD (us := [.ref a]) (vs := [.ref a]) (E := WE Wx) (dvs := []) F hr hb .nil (passAt tk g) I1 (.cons rfl .nil) q)
/-! ### making an instance -/
def mMake (c : Str) (n : Nat) (F : List D → Store → R D) (ms : AM) : EM := fun r S => (ms r S).bind fun ds S1 => if (ds.length + 1) = n then (nox (F (.loc S1.length :: ds) (S1 ++ [.ins c []]))).bind fun d S2 => match d with
  | .non => .ok (.loc S1.length) S2
  | _ => .bad else .bad
theorem make_ok {K : PySem.W.Frag} {mg : Str → Option Value} {T : Tb} {S : Store} {H : Hp} {g : St} {ds : List D} {vs : List V} {Q : VK} (kc : ClsOk K mg c C) (sim : Sim K mg T S H) (rel : RepL K T H vs ds) (hn : ds.length + 1 = n)
    (h : Out K mg Wx (Rep K) T g H ((nox (Fn (.loc S.length :: ds) (S ++ [.ins c []]))).bind fun d S2 => match d with
      | .non => .ok (.loc S.length) S2
      | _ => .bad) Q) : ∀ x dx, H x = none → H dx = none → dx ≠ x → spD K mg n Fn (.ref x :: vs) (upd (upd H dx (.own x)) x (.ins C dx [])) (fun v H2 => v = .non ∧ Q (.ref x) H2) E0 := by
  intro x dx hx hdx ne
  have nl : ∀ (a : Addr) (o : HO), (∀ xs, o ≠ .lst xs ∧ o ≠ .tup xs ∧ (∀ y, o ≠ .frz y (.lst xs)) ∧ ∀ y, o ≠ .frz y (.tup xs)) → ∀ {H : Hp}, HLen H → HLen (upd H a o) := fun a o ho H hh => hlen_oth hh ho
  have st1 := sim.stepNew (o := .own x) hdx
  have sim1 := sim.new (o := .own x) hdx (nl dx (.own x) (fun xs => ⟨nofun, nofun, fun _ => nofun, fun _ => nofun⟩) sim.hl)
  have hx1 : (upd H dx (.own x)) x = none := by rw [upd_ne ne.symm]; exact hx
  have st2 := sim1.stepAlloc (o := .ins C dx []) hx1
  have sim2 := sim1.alloc (u := .ins C dx []) (o := .ins c []) hx1 (nl x (.ins C dx []) (fun xs => ⟨nofun, nofun, fun _ => nofun, fun _ => nofun⟩) sim1.hl) ⟨C, dx, [], kc.at_, upd_same, rfl, .nil⟩
  refine ⟨by rw [List.length_cons, rel.length]; exact hn, T.add x, S ++ [.ins c []], .loc S.length :: ds, .cons (.loc sim.newGet) ((rel.step st1).step st2), sim2, ?_⟩
  revert h
  cases Fn (.loc S.length :: ds) (S ++ [.ins c []]) with
  | bad => exact fun h => h
  | exc m S2 => exact fun h => h.elim
  | ok d S2 =>
    intro h T' H' v s m rep
    cases d with
    | non => exact ⟨rep.non_of, h T' H' _ ((st1.trans st2).trans s) m (.loc (s.get sim.newGet))⟩
    | _ => exact h.elim
theorem j_make (kc : ClsOk X.K X.mg c C) (M : Mk X.K C f) (F : FnOk X.prog X.w X.K X.mg X.base (L2.CX X.prog X.w) k f fd ps (spD X.K X.mg n Fn)) (hr : Room (k + 1) X.A) (hg : Gl X c) (hb : Binds X.K fd ps [])
    (ha : PA X (e :: es) (tDA X.K X.mg Wx ms)) (hdb : (c == ("__debug__" : Str)) = false := by decide) (he : starEach (e :: es) X.env = (false, eval e X.env) :: starEach es X.env := by rfl) (hpl : (backTo pos (starEach es X.env)).any (·.1) = false := by rfl) :
    PE X (.Call (.Name c p) (e :: es) [] pos) (tD X.K X.mg Wx (mMake c n Fn ms)) :=
  pe_imp (pe_make (E := E0) M F hr hg kc.at_ hb .nil passL ha hdb he hpl) fun g H Q h => by
    obtain ⟨T, r, S, rs, sim, h⟩ := h
    refine ⟨T, r, S, rs, sim, Out.bind h fun ds S1 T1 H1 vs st sim1 rel h1 => ?_⟩
    split at h1
    · rename_i hn
      rw [List.append_nil]
      exact make_ok kc sim1 rel hn h1
    · exact h1.elim
end
end Dv
set_option maxHeartbeats 1000000
namespace Dv
open PySem L2
/-! ### a sort of plain lists -/
section
variable {α : Type}
def insL (lt : α → α → Bool) (x : α) : List α → List α
  | [] => [x]
  | y :: ys => if lt y x = true then y :: insL lt x ys else x :: y :: ys
def sortL (lt : α → α → Bool) : List α → List α
  | [] => []
  | x :: xs => insL lt x (sortL lt xs)
variable {lt : α → α → Bool}
theorem insL_perm (x : α) : ∀ l : List α, (insL lt x l).Perm (x :: l)
  | [] => List.Perm.refl _
  | y :: ys => by
    unfold insL
    split
    · exact ((insL_perm x ys).cons y).trans (List.Perm.swap x y ys)
    · exact List.Perm.refl _
theorem sortL_perm : ∀ l : List α, (sortL lt l).Perm l
  | [] => List.Perm.refl _
  | x :: xs => (insL_perm x _).trans ((sortL_perm xs).cons x)
theorem insL_srtd (O : SrtO.Swo lt) (x : α) : ∀ {l : List α}, SrtO.Srtd lt l → SrtO.Srtd lt (insL lt x l)
  | [], _ => List.pairwise_singleton _ _
  | y :: ys, h => by
    unfold insL
    split
    · rename_i hy
      refine List.pairwise_cons.mpr ⟨fun z hz => ?_, insL_srtd O x (List.pairwise_cons.mp h).2⟩
      rcases List.mem_cons.mp ((insL_perm x ys).mem_iff.mp hz) with e | e
      · rw [e]
        exact O.asym _ _ hy
      · exact (List.pairwise_cons.mp h).1 z e
    · rename_i hy
      refine List.pairwise_cons.mpr ⟨fun z hz => ?_, h⟩
      have hy : lt y x = false := by simpa using hy
      rcases List.mem_cons.mp hz with e | e
      · rw [e]
        exact hy
      · exact O.tr x y z hy ((List.pairwise_cons.mp h).1 z e)
theorem sortL_srtd (O : SrtO.Swo lt) : ∀ l : List α, SrtO.Srtd lt (sortL lt l)
  | [] => List.Pairwise.nil
  | x :: xs => insL_srtd O x (sortL_srtd O xs)
theorem insL_cls (O : SrtO.Swo lt) (x z : α) : ∀ l : List α, (insL lt x l).filter (SrtO.eqv lt z) = (x :: l).filter (SrtO.eqv lt z)
  | [] => rfl
  | y :: ys => by
    unfold insL
    split
    · rename_i hy
      have ih := insL_cls O x z ys
      by_cases hz : SrtO.eqv lt z y = true
      · have hx : SrtO.eqv lt z x = false := by
          by_cases q : SrtO.eqv lt z x = true
          · have h1 := SrtO.eqv_iff.mp hz
            have h2 := SrtO.eqv_iff.mp q
            have : lt y x = false := O.tr x z y h2.1 h1.2
            rw [hy] at this
            cases this
          · simpa using q
        rw [List.filter_cons_of_pos hz, ih, List.filter_cons_of_neg (by rw [hx]; exact Bool.false_ne_true), List.filter_cons_of_neg (by rw [hx]; exact Bool.false_ne_true), List.filter_cons_of_pos hz]
      · rw [List.filter_cons_of_neg hz, ih]
        by_cases hx : SrtO.eqv lt z x = true
        · rw [List.filter_cons_of_pos hx, List.filter_cons_of_pos hx, List.filter_cons_of_neg hz]
        · rw [List.filter_cons_of_neg hx, List.filter_cons_of_neg hx, List.filter_cons_of_neg hz]
    · rfl
theorem sortL_stb (O : SrtO.Swo lt) : ∀ l : List α, SrtO.Stb lt (sortL lt l) l
  | [] => SrtO.Stb.refl _
  | x :: xs => ⟨sortL_perm _, fun z => by
    show (insL lt x (sortL lt xs)).filter (SrtO.eqv lt z) = (x :: xs).filter (SrtO.eqv lt z)
    rw [insL_cls O]
    by_cases hx : SrtO.eqv lt z x = true
    · rw [List.filter_cons_of_pos hx, List.filter_cons_of_pos hx, (sortL_stb O xs).cls z]
    · rw [List.filter_cons_of_neg hx, List.filter_cons_of_neg hx, (sortL_stb O xs).cls z]⟩
theorem sortL_uniq (O : SrtO.Swo lt) {l m : List α} (h1 : SrtO.Srtd lt m) (h2 : SrtO.Stb lt m l) : m = sortL lt l :=
  SrtO.stb_uniq O h1 (sortL_srtd O l) (h2.trans ⟨(sortL_stb O l).perm.symm, fun z => ((sortL_stb O l).cls z).symm⟩)
theorem sortL_len (l : List α) : (sortL lt l).length = l.length := (sortL_perm l).length_eq
end
def ltI (a b : Int) : Bool := decide (a < b)
theorem ltI_swo : SrtO.Swo ltI := ⟨fun x y h => decide_eq_false (by have := of_decide_eq_true h; omega), fun x y z h1 h2 => decide_eq_false (by have := of_decide_eq_false h1; have := of_decide_eq_false h2; omega)⟩
abbrev ltR : List Int → List Int → Bool := HT.lexLt
theorem ltR_asym : ∀ x y : List Int, ltR x y = true → ltR y x = false
  | [], [], h => by cases h
  | [], _ :: _, _ => rfl
  | _ :: _, [], h => by cases h
  | a :: x, b :: y, h => by
    have h : (if a = b then HT.lexLt x y else decide (a < b)) = true := h
    show (if b = a then HT.lexLt y x else decide (b < a)) = false
    by_cases e : a = b
    · subst e
      rw [if_pos rfl] at h ⊢
      exact ltR_asym x y h
    · rw [if_neg e] at h
      rw [if_neg (Ne.symm e)]
      have := of_decide_eq_true h
      exact decide_eq_false (by omega)
theorem ltR_tr : ∀ x y z : List Int, ltR y x = false → ltR z y = false → ltR z x = false
  | [], [], z, _, h => h
  | [], b :: y, [], _, _ => rfl
  | [], b :: y, c :: z, _, _ => rfl
  | a :: x, [], z, h, _ => by cases h
  | a :: x, b :: y, [], _, h => by cases h
  | a :: x, b :: y, c :: z, g1, g2 => by
    have h1 : (if b = a then HT.lexLt y x else decide (b < a)) = false := g1
    have h2 : (if c = b then HT.lexLt z y else decide (c < b)) = false := g2
    clear g1 g2
    show (if c = a then HT.lexLt z x else decide (c < a)) = false
    by_cases e1 : b = a
    · subst e1
      rw [if_pos rfl] at h1
      by_cases e2 : c = b
      · subst e2
        rw [if_pos rfl] at h2 ⊢
        exact ltR_tr x y z h1 h2
      · rw [if_neg e2] at h2 ⊢
        exact h2
    · rw [if_neg e1] at h1
      have h3 := of_decide_eq_false h1
      by_cases e2 : c = b
      · subst e2
        rw [if_neg e1]
        exact h1
      · rw [if_neg e2] at h2
        have h4 := of_decide_eq_false h2
        rw [if_neg (by omega)]
        exact decide_eq_false (by omega)
theorem ltR_swo : SrtO.Swo ltR := ⟨ltR_asym, ltR_tr⟩
/-! ### tuples of whole numbers, sorted -/
section
variable {prog : Program} {w : World} {A : Around} {s : Shared} {Q : Bool → Shared → Prop}
theorem lexI {b fin : Bool} : ∀ {xs ys : List Value} {ns ms : List Int} (i : Nat), PyProof.Rows.IntsAre xs ns → PyProof.Rows.IntsAre ys ms → fin = decide (ns.length < ms.length) → Q (ltR ns ms) s → PySem.W.KatLex prog w A b fin Q (xs.zip ys) i s
  | _, _, _, _, i, .nil, .nil, hf, h => by
    rw [hf]
    exact h
  | _, _, _, _, i, .nil, .cons q u hy, hf, h => by
    rw [hf]
    exact h
  | _, _, _, _, i, .cons p t hx, .nil, hf, h => by
    rw [hf]
    exact h
  | _, _, _, _, i, @PyProof.Rows.IntsAre.cons p t xs ns hx, @PyProof.Rows.IntsAre.cons q u ys ms hy, hf, h => by
    show PySem.W.KatLex prog w A b fin Q ((Value.int p t, Value.int q u) :: xs.zip ys) i s
    refine PySem.W.kat_cons (wpAny_eqBool_int ?_)
    have h : Q (if p = q then HT.lexLt ns ms else decide (p < q)) s := h
    by_cases e : p = q
    · subst e
      rw [if_pos rfl] at h
      rw [beq_self_eq_true]
      refine PySem.W.kat_yes (lexI (i + 1) hx hy ?_ h)
      rw [hf]
      simp only [List.length_cons, Nat.add_lt_add_iff_right]
    · rw [if_neg e] at h
      rw [show (p == q) = false from beq_eq_false_iff_ne.mpr e]
      exact PySem.W.kat_no (TS.oneLt_ints _ h)
/-- rows that are not empty -/
def RowsIn (h : Heap) (vs : List Value) : Prop := ∀ v ∈ vs, ∃ ns, TS.TupInts h v ns ∧ ns ≠ []
theorem rows_firsts {h : Heap} : ∀ vs : List Value, RowsIn h vs → ∃ fs, PySem.W.KatTups h vs fs ∧ fs.length = vs.length ∧ ∀ f ∈ fs, ∃ n t, f = Value.int n t
  | [], _ => ⟨[], PySem.W.KatTups.nil, rfl, fun f hf => by cases hf⟩
  | v :: vs, x => by
    obtain ⟨fs, k, hl, hi⟩ := rows_firsts vs fun u hu => x u (List.mem_cons_of_mem _ hu)
    obtain ⟨ns, ⟨a, xs, ev, ⟨o, ho, hc, n, hdt⟩, ii⟩, hne⟩ := x v List.mem_cons_self
    subst ev
    cases q : xs.toList with
    | nil =>
      rw [q] at ii
      cases ii
      exact absurd rfl hne
    | cons y ys =>
      have hy : ∃ m t, y = Value.int m t := by
        rw [q] at ii
        cases ii
        exact ⟨_, _, rfl⟩
      obtain ⟨m, t, hy⟩ := hy
      refine ⟨y :: fs, PySem.W.KatTups.cons ho hc hdt ?_ k, by rw [List.length_cons, List.length_cons, hl], fun f hf => ?_⟩
      · have z := congrArg (fun l : List Value => l[0]?) q
        simpa using z
      · rcases List.mem_cons.mp hf with e | e
        · exact ⟨m, t, e.trans hy⟩
        · exact hi f e
theorem rows_sortable {h0 : Heap} {a : Addr} {vs : List Value} (x : RowsIn s.heap vs) (h2 : 2 ≤ vs.length) (ha : ∀ o, s.heap.get? a = some o → o.cls ≠ .type "tuple") (hf : ∀ v ∈ vs, ∀ ns, TS.TupInts s.heap v ns → TS.intsOf h0 v = ns) :
    SrtO.SortableO prog w A s a vs fun v u => ltR (TS.intsOf h0 v) (TS.intsOf h0 u) := by
  intro h' keep
  have kp : ∀ {v : Value} {ns : List Int}, TS.TupInts s.heap v ns → TS.TupInts h' v ns := fun q => q.keeps fun b o e c => keep b o (fun z => by subst z; exact ha o e c) e
  have x' : RowsIn h' vs := fun v hv => by
    obtain ⟨ns, h1, h2⟩ := x v hv
    exact ⟨ns, kp h1, h2⟩
  obtain ⟨fs, k1, k2, k3⟩ := rows_firsts vs x'
  refine ⟨PyProof.Rows.tuples' true, fun Q E hq => ?_, fun p q hp hq => ?_⟩
  · refine PySem.W.kat_kind (T := .type "int") k1 (by omega) (fun f hm => ?_) (by rfl) ?_
    · obtain ⟨m, t, e⟩ := k3 f hm
      subst e
      exact PySem.W.Looks.now
    · have e : (Value.type "int" != Value.type "tuple") = true := by first | decide +kernel | rfl | decide
      rw [e]
      exact hq
  · obtain ⟨ns, t1, _⟩ := x p.1 hp
    obtain ⟨ms, t2, _⟩ := x q.1 hq
    have e1 := hf _ hp _ t1
    have e2 := hf _ hq _ t2
    show wpAny (model prog w) A (PyProof.Rows.keyLt' (PyProof.Rows.tuples' true) p.1 q.1) (fun r s' => s' = { s with heap := h' } ∧ r = ltR (TS.intsOf h0 p.1) (TS.intsOf h0 q.1)) (fun _ _ => False) _
    rw [e1, e2]
    obtain ⟨a1, xs, f1, ⟨o1, ho1, hc1, n1, hd1⟩, i1⟩ := kp t1
    obtain ⟨a2, ys, f2, ⟨o2, ho2, hc2, n2, hd2⟩, i2⟩ := kp t2
    rw [f1, f2]
    refine PySem.W.kat_lt ho1 hd1 ho2 hd2 (lexI 0 i1 i2 ?_ ⟨rfl, rfl⟩)
    have l1 := i1.length
    have l2 := i2.length
    rw [Array.length_toList] at l1 l2
    rw [l1, l2]
end
def RowV (K : PySem.W.Frag) (H : Hp) (x : V) (ns : List Int) : Prop := ns ≠ [] ∧ ∃ t, x = .ref t ∧ SqT K H t (ns.map V.int)
def rSortR (K : PySem.W.Frag) : List V → Hp → VK → Prop := fun vs H Q => ∃ (a : Addr) (xs : List V) (rows : List (List Int)) (Pr : V → List Int → Prop), vs = [V.ref a] ∧ SqL K H a xs ∧ (∀ x ns, Pr x ns → RowV K H x ns) ∧ Paired Pr xs rows ∧
  ∀ ys p, Paired Pr ys (sortL ltR rows) → H p = none → Q (.ref p) (upd H p (.lst ys))
theorem paired_mem {α β : Type} {Pr : α → β → Prop} : ∀ {xs : List α} {ys : List β} {i : Nat} {x : α}, Paired Pr xs ys → xs[i]? = some x → ∃ y, ys[i]? = some y ∧ Pr x y
  | _, _, i, _, .nil, e => by simp at e
  | _, _, 0, _, .cons r _, e => by simp at e; subst e; exact ⟨_, rfl, r⟩
  | _, _, i + 1, x, .cons _ t, e => by
    obtain ⟨v, h1, h2⟩ := paired_mem (i := i) (x := x) t (by simpa using e)
    exact ⟨v, by simpa using h1, h2⟩
theorem paired_of_map {α β γ : Type} {Pr : β → γ → Prop} {f : α → β} {g : α → γ} : ∀ {l : List α}, (∀ u ∈ l, Pr (f u) (g u)) → Paired Pr (l.map f) (l.map g)
  | [], _ => .nil
  | u :: l, h => .cons (h u List.mem_cons_self) (paired_of_map fun v hv => h v (List.mem_cons_of_mem _ hv))
theorem cr_sortR {X : Cx} : CallR X (.builtin "sorted") (rSortR X.K) := by
  intro pins s g H vs us Q I r h
  obtain ⟨a, xs, rows, Pr, rfl, hs, hP, pr, q⟩ := h
  obtain ⟨its, rv, hl, hz⟩ := I.list hs
  rw [Vals.ref1 r]
  have rowOf : ∀ (i : Nat) (u : Value), its[i]? = some u → ∃ t ns, u = .ref t ∧ rows[i]? = some ns ∧ Pr (.ref t) ns ∧ TS.TupInts s.heap u ns ∧ ns ≠ [] := fun i u hu => by
    have hi : i < xs.length := by
      rw [rv.length]
      exact (List.getElem?_eq_some_iff.mp hu).1
    obtain ⟨ns, h1, h2⟩ := paired_mem pr (List.getElem?_eq_getElem hi)
    obtain ⟨u', h3, h4⟩ := rv.get (List.getElem?_eq_getElem hi)
    rw [hu] at h3
    cases h3
    obtain ⟨hne, t, et, hT⟩ := hP _ _ h2
    rw [et] at h4 h2
    cases h4
    exact ⟨t, ns, rfl, h1, h2, tupI_raw I hT, hne⟩
  have mem : ∀ u ∈ its, ∃ t ns, u = .ref t ∧ Pr (.ref t) ns ∧ TS.TupInts s.heap u ns ∧ ns ≠ [] := fun u hu => by
    obtain ⟨i, hi, e⟩ := List.mem_iff_getElem.mp hu
    obtain ⟨t, ns, h1, _, h2, h3, h4⟩ := rowOf i u (by rw [List.getElem?_eq_getElem hi, e])
    exact ⟨t, ns, h1, h2, h3, h4⟩
  have erow : its.map (TS.intsOf s.heap) = rows := by
    refine List.ext_getElem? fun i => ?_
    rw [List.getElem?_map]
    cases e : its[i]? with
    | none =>
      have h1 : its.length ≤ i := List.getElem?_eq_none_iff.mp e
      rw [List.getElem?_eq_none (by rw [← Paired.length pr, rv.length]; exact h1)]
      rfl
    | some u =>
      obtain ⟨t, ns, _, h1, _, h3, _⟩ := rowOf i u e
      rw [h1, ← h3.ints]
      rfl
  have rin : RowsIn s.heap its := fun u hu => by
    obtain ⟨t, ns, _, _, h3, h4⟩ := mem u hu
    exact ⟨ns, h3, h4⟩
  refine SrtO.sorted_ord (ltv := fun v u => ltR (TS.intsOf s.heap v) (TS.intsOf s.heap u)) ⟨fun x y => ltR_swo.asym _ _, fun x y z => ltR_swo.tr _ _ _⟩ hl.isList (by rw [← rv.length]; exact hz) (fun h2 h1 b hb kk => ?_) fun out h1 h2 => ?_
  · refine rows_sortable (s := { s with heap := h1 }) (h0 := s.heap) (fun v hv => ?_) h2 (fun o e => ?_) fun v hv ns t => ?_
    · obtain ⟨ns, t, hne⟩ := rin v hv
      exact ⟨ns, t.keeps fun b o e _ => (kk b o e).2, hne⟩
    · have e' : some o = some (PyProof.Rows.seqObj "list" its.toArray 0) := e.symm.trans hb
      cases e'
      intro c
      exact absurd (Value.type.inj c) (by decide)
    · obtain ⟨ms, t', _⟩ := rin v hv
      have t2 := t'.keeps (h' := h1) fun b o e _ => (kk b o e).2
      rw [t'.ints, ← t2.ints]
      exact t.ints
  · obtain ⟨n, hn⟩ := PyProof.Rows.sortedAll_at s.heap its out.toArray
    have mo : ∀ u ∈ out, ∃ t ns, u = .ref t ∧ Pr (.ref t) ns ∧ TS.TupInts s.heap u ns ∧ ns ≠ [] := fun u hu => mem u (h2.perm.mem_iff.mp hu)
    have eo : out.map (TS.intsOf s.heap) = sortL ltR rows := by
      rw [← erow]
      exact sortL_uniq ltR_swo (SrtO.srtd_map h1) (SrtO.Stb.map ltR_swo _ h2)
    have hp : Paired Pr (out.map backV) (sortL ltR rows) := by
      rw [← eo]
      exact paired_of_map fun u hu => by
        obtain ⟨t, ns, e, h3, h4, _⟩ := mo u hu
        rw [h4.ints, e]
        exact h3
    refine ⟨.ref _, upd H (s.heap.objs.size + 1) (.lst (out.map backV)), I.laid (t' := s.toks) (fun _ _ => PyProof.Rows.sortedAll_old) (Nat.le_succ _) ⟨?_, out, n, vals_back fun u hu => ?_, hn⟩, rfl, q _ _ hp (I.hok.fresh (Nat.le_succ _))⟩
    · rw [List.length_map, h2.len, ← rv.length]
      exact hz
    · obtain ⟨t, ns, e, _⟩ := mo u hu
      exact ⟨t, e⟩
/-! ### sorted, by values -/
def rowD (ns : List Int) : D := .tup (ns.map D.int)
def rowsOf : List D → Option (List (List Int))
  | [] => some []
  | .tup xs :: ds => (intsOf xs).bind fun ns => if ns = [] then none else (rowsOf ds).map (ns :: ·)
  | _ :: _ => none
theorem rowsOf_some : ∀ {ds : List D} {rows : List (List Int)}, rowsOf ds = some rows → ds = rows.map rowD ∧ ∀ ns ∈ rows, ns ≠ []
  | [], _, e => by cases e; exact ⟨rfl, fun _ h => by cases h⟩
  | d :: ds, rows, e => by
    cases d <;> try cases e
    rename_i xs
    simp only [rowsOf] at e
    cases q : intsOf xs with
    | none => rw [q] at e; cases e
    | some ns =>
      rw [q] at e
      have e : (if ns = [] then none else (rowsOf ds).map (ns :: ·)) = some rows := e
      split at e
      · cases e
      · rename_i hne
        cases q2 : rowsOf ds with
        | none => rw [q2] at e; cases e
        | some rs =>
          rw [q2] at e
          cases e
          obtain ⟨h1, h2⟩ := rowsOf_some q2
          refine ⟨by rw [h1, intsOf_some q]; rfl, fun m hm => (List.mem_cons.mp hm).elim (fun e => by rw [e]; exact hne) (h2 m)⟩
theorem rowsOf_map : ∀ {rows : List (List Int)}, (∀ ns ∈ rows, ns ≠ []) → rowsOf (rows.map rowD) = some rows
  | [], _ => rfl
  | ns :: rows, h => by
    show (intsOf (ns.map D.int)).bind (fun ns => if ns = [] then none else (rowsOf (rows.map rowD)).map (ns :: ·)) = _
    rw [intsOf_map, rowsOf_map fun m hm => h m (List.mem_cons_of_mem _ hm)]
    show (if ns = [] then none else some (ns :: rows)) = _
    rw [if_neg (h ns List.mem_cons_self)]
def sortD (ds : List D) (_ : Store) : Option D := match ds with
  | [.lst xs] => match intsOf xs with
    | some ns => some (.lst ((sortL ltI ns).map D.int))
    | none => (rowsOf xs).map fun rows => .lst ((sortL ltR rows).map rowD)
  | _ => none
section
variable {X : Cx} {K : PySem.W.Frag} {mg : Str → Option Value}
def rSortA (K : PySem.W.Frag) : List V → Hp → VK → Prop := fun vs H Q => rSortedI K vs H Q ∨ rSortR K vs H Q
theorem cr_sortA : CallR X (.builtin "sorted") (rSortA X.K) := cr_sortedI.or cr_sortR
theorem sortI_uniq {ns ms : List Int} (h1 : ms.Perm ns) (h2 : ms.Pairwise (· ≤ ·)) : ms = sortL ltI ns := by
  refine sortL_uniq ltI_swo (h2.imp fun {x y} h => decide_eq_false (by omega)) ⟨h1, fun z => ?_⟩
  have e : SrtO.eqv ltI z = fun y => decide (y = z) := funext fun y => by
    unfold SrtO.eqv ltI
    by_cases q : y = z
    · subst q
      simp
    · rw [decide_eq_false q]
      by_cases q2 : z < y
      · simp [q2]
      · have q3 : y < z := by omega
        simp [q3]
  rw [e]
  have h3 := h1.filter (fun y => decide (y = z))
  have h4 : ∀ l : List Int, l.filter (fun y => decide (y = z)) = List.replicate (l.filter (fun y => decide (y = z))).length z := fun l => List.eq_replicate_iff.mpr ⟨rfl, fun y hy => of_decide_eq_true (List.mem_filter.mp hy).2⟩
  rw [h4 ms, h4 ns, h3.length_eq]
theorem RepL.pr {T : Tb} {H : Hp} : ∀ {vs : List V} {rows : List (List Int)}, RepL K T H vs (rows.map rowD) → (∀ ns ∈ rows, ns ≠ []) → Paired (fun x ns => ns ≠ [] ∧ Rep K T H x (rowD ns)) vs rows
  | _, [], .nil, _ => .nil
  | _, ns :: rows, .cons h r, hn => .cons ⟨hn ns List.mem_cons_self, h⟩ (RepL.pr r fun m hm => hn m (List.mem_cons_of_mem _ hm))
theorem RepL.of_pr {T : Tb} {H : Hp} : ∀ {vs : List V} {rows : List (List Int)}, Paired (fun x ns => ns ≠ [] ∧ Rep K T H x (rowD ns)) vs rows → RepL K T H vs (rows.map rowD)
  | _, _, .nil => .nil
  | _, _, .cons h r => .cons h.2 (RepL.of_pr r)
theorem pok_sort : POk K mg (rSortA K) sortD := fun T S H vs ds d Q sim rep e k => by
  unfold sortD at e
  split at e
  · rename_i xs
    obtain ⟨v, rfl, r⟩ := rep.one
    cases r with
    | @lst a ys _ h n r =>
      split at e
      · rename_i ns q
        cases e
        have e3 := intsOf_some q
        subst e3
        rw [r.of_ints] at h
        refine .inl ⟨a, ns, rfl, SqL.of h, fun ms p h1 h2 hp => ?_⟩
        have e4 := sortI_uniq h1 h2
        subst e4
        have st := sim.stepNew (o := .lst ((sortL ltI ns).map V.int)) hp
        refine k _ _ st (sim.new hp (hlen_lst sim.hl ?_)) (.lst upd_same (sim.off hp) (RepL.ints _))
        have := sim.hl _ _ (.inl (.inl h))
        rw [List.length_map] at this ⊢
        rw [sortL_len]
        exact this
      · rename_i q
        cases q2 : rowsOf xs with
        | none => rw [q2] at e; cases e
        | some rows =>
          rw [q2] at e
          cases e
          obtain ⟨e3, hne⟩ := rowsOf_some q2
          subst e3
          refine .inr ⟨a, ys, rows, fun x ns => ns ≠ [] ∧ Rep K T H x (rowD ns), rfl, SqL.of h, fun x ns hx => ⟨hx.1, ?_⟩, r.pr hne, fun zs p hz hp => ?_⟩
          · obtain ⟨_, hx⟩ := hx
            cases hx with
            | tup h1 h2 h3 =>
              rw [h3.of_ints] at h1
              exact ⟨_, rfl, SqT.of h1⟩
          · have rz := RepL.of_pr hz
            have st := sim.stepNew (o := .lst zs) hp
            refine k _ _ st (sim.new hp (hlen_lst sim.hl ?_)) (.lst upd_same (sim.off hp) (rz.step st))
            have h1 := sim.hl _ _ (.inl (.inl h))
            have h2 := rz.length
            rw [List.length_map, sortL_len] at h2
            have h3 := r.length
            rw [List.length_map] at h3
            omega
  · cases e
end
theorem room65 {k : Nat} {A : Around} (r : Room k A) : A.units + 65 < cLine := by
  have := r.un
  omega
end Dv
namespace Dv
open PySem L2
theorem hlen_of {P : Program} {w : World} {H : Hp} {h : Heap} (x : HOk P w H h) : HLen H := fun a xs q => by
  rcases q with q | q
  · obtain ⟨z, _⟩ := q.ok x
    exact z
  · obtain ⟨z, _⟩ := q.ok x
    exact z
def spLaw (K : PySem.W.Frag) : Sp := fun vs H Q _ => ∃ (a : Addr) (ns : List Int), vs = [.ref a] ∧ SqL K H a (ns.map V.int) ∧ ns.length ≤ 63 ∧ ∀ H', Q (.bl true) H'
theorem law_fn {P : Program} {w : World} {K : PySem.W.Frag} {mg : Str → Option Value} {base : Heap} {CX : CXT} {k : Nat} {f : Addr} {fd : FuncData} {F : Nat → List D → Store → R D} (h : ∀ fu, FnOk P w K mg base CX k f fd ["script"] (spD K mg 1 (F fu)))
    (ht : ∀ ns : List Int, ns.length ≤ 63 → ∃ fu S, F fu [.scr ns] [] = .ok (.bl true) S) : FnOk P w K mg base CX k f fd ["script"] (spLaw K) := by
  refine ⟨fun vs H Q E q => ?_, fun A outer s H args us vs Q E hr he hb hv hs => ?_⟩
  · obtain ⟨a, ns, rfl, _⟩ := q
    rfl
  · obtain ⟨a, ns, rfl, hq, hl, q⟩ := hs
    obtain ⟨fu, S', e⟩ := ht ns hl
    refine (h fu).run A outer s H args us _ Q E hr he hb hv ⟨rfl, ⟨[], []⟩, [], [.scr ns], .cons (.scr ?_) .nil, ⟨rfl, List.nodup_nil, fun i a o h1 => ?_, fun a h1 => ?_, hlen_of he.hok⟩, ?_⟩
    · rcases hq with hq | hq
      · exact .inl ⟨hq, (by intro z; cases z), (by intro z; cases z)⟩
      · exact .inr (.inr hq)
    · cases h1
    · cases h1
    · rw [e]
      intro T' H' v _ _ r
      rw [r.bl_of]
      exact q H'
theorem sp_start {K : PySem.W.Frag} {H : Hp} {a : Addr} {ns : List Int} (hl : ns.length ≤ 63) (hS : SqL K H a (ns.map V.int)) : spLaw K [.ref a] H (fun v _ => v = .bl true) fun _ _ _ => False := ⟨a, ns, rfl, hS, hl, fun _ => rfl⟩
theorem no_exc {P : Program} {w : World} {l : List PySem.Env} {H : Hp} {s : Shared} {e : Value} {s' : Shared} (h : L2.CX P w l H s (fun _ _ _ => False) e s') : False := by
  obtain ⟨_, _, _, _, _, _, _, _, _, _, _, _, z⟩ := h
  exact z
end Dv
/-! what the parts come to, for the simplifier -/
namespace Dv
open PySem L2
section
variable {r : Env} {S : Store} {ma mb mc m mo mi : EM} {ms : AM} {ta tb : BM} {sa sb : SM}
@[simp] theorem rb_ok {α β : Type} (a : α) (S : Store) (f : α → Store → R β) : (R.ok a S).bind f = f a S := rfl
@[simp] theorem rb_exc {α β : Type} (n : Str) (S : Store) (f : α → Store → R β) : (R.exc n S : R α).bind f = .exc n S := rfl
@[simp] theorem rb_bad {α β : Type} (f : α → Store → R β) : (R.bad : R α).bind f = .bad := rfl
@[simp] theorem ofO_some {α : Type} (a : α) : ofO (some a) S = .ok a S := rfl
@[simp] theorem ofO_none {α : Type} : ofO (none : Option α) S = .bad := rfl
@[simp] theorem mVar_ap (i : Nat) : mVar i r S = (match r[i]? with | some (some d) => .ok d S | _ => .bad) := rfl
@[simp] theorem mC_ap (d : D) : mC d r S = .ok d S := rfl
@[simp] theorem mNil_ap : mNil r S = .ok [] S := rfl
@[simp] theorem mCons_ap : mCons m ms r S = (m r S).bind fun d S1 => (ms r S1).bind fun ds S2 => .ok (d :: ds) S2 := rfl
@[simp] theorem mTup_ap : mTup ms r S = (ms r S).bind fun ds S1 => if ds.length ≤ 100000 then .ok (.tup ds) S1 else .bad := rfl
@[simp] theorem mLst_ap : mLst ms r S = (ms r S).bind fun ds S1 => if ds.length ≤ 100000 then .ok (.lst ds) S1 else .bad := rfl
@[simp] theorem mNewL_ap : mNewL ms r S = (ms r S).bind fun ds S1 => if ds.length ≤ 100000 then .ok (.loc S1.length) (S1 ++ [.lst ds]) else .bad := rfl
@[simp] theorem mBin_ap (f : D → D → Store → Option D) : mBin f ma mb r S = (ma r S).bind fun a S1 => (mb r S1).bind fun b S2 => ofO (f a b S2) S2 := rfl
@[simp] theorem mUn_ap (f : D → Store → Option D) : mUn f ma r S = (ma r S).bind fun a S1 => ofO (f a S1) S1 := rfl
@[simp] theorem mCall_ap (f : List D → Store → Option D) : mCall f ms r S = (ms r S).bind fun ds S1 => ofO (f ds S1) S1 := rfl
@[simp] theorem mT_ap : mT m r S = (m r S).bind fun d S1 => ofO (asB d) S1 := rfl
@[simp] theorem asB_bl (b : Bool) : asB (.bl b) = some b := rfl
@[simp] theorem mTru_ap : mTru m r S = (m r S).bind fun d S1 => ofO (truD d S1) S1 := rfl
@[simp] theorem mNotT_ap : mNotT ta r S = (ta r S).bind fun b S1 => .ok (!b) S1 := rfl
@[simp] theorem mAndT_ap : mAndT ta tb r S = (ta r S).bind fun b S1 => if b = true then tb r S1 else .ok false S1 := rfl
@[simp] theorem mOrT_ap : mOrT ta tb r S = (ta r S).bind fun b S1 => if b = true then .ok true S1 else tb r S1 := rfl
@[simp] theorem mAnd_ap : mAnd ma mb r S = (ma r S).bind fun d S1 => match d with
  | .bl true => mb r S1
  | .bl false => .ok (.bl false) S1
  | _ => .bad := rfl
@[simp] theorem mOr_ap : mOr ma mb r S = (ma r S).bind fun d S1 => match d with
  | .bl true => .ok (.bl true) S1
  | .bl false => mb r S1
  | _ => .bad := rfl
@[simp] theorem mNot_ap : mNot ma r S = (ma r S).bind fun d S1 => match d with
  | .bl b => .ok (.bl (!b)) S1
  | _ => .bad := rfl
@[simp] theorem mIf_ap : mIf ta ma mb r S = (ta r S).bind fun b S1 => if b = true then ma r S1 else mb r S1 := rfl
@[simp] theorem mChain_ap (f f' : D → D → Store → Option D) : mChain f f' ma mb mc r S = (ma r S).bind fun a S1 => (mb r S1).bind fun b S2 => (ofO (f a b S2) S2).bind fun d S3 => match d with
  | .bl true => (mc r S3).bind fun c S4 => ofO (f' b c S4) S4
  | .bl false => .ok (.bl false) S3
  | _ => .bad := rfl
@[simp] theorem bs_ok {α : Type} (a : α) (f : α → Store → Z) : bindS (.ok a S) r f = f a S := rfl
@[simp] theorem bs_exc {α : Type} (n : Str) (f : α → Store → Z) : bindS (.exc n S : R α) r f = .exc n r S := rfl
@[simp] theorem bs_bad {α : Type} (f : α → Store → Z) : bindS (.bad : R α) r f = .bad := rfl
@[simp] theorem sNil_ap : sNil r S = .ok .next r S := rfl
@[simp] theorem sSeq_ap : sSeq sa sb r S = (match sa r S with | .ok .next r1 S1 => sb r1 S1 | z => z) := rfl
@[simp] theorem sSet_ap (i : Nat) : sSet i m r S = bindS (m r S) r fun d S1 => .ok .next (r.set i (some d)) S1 := rfl
@[simp] theorem sDrop_ap : sDrop m r S = bindS (m r S) r fun _ S1 => .ok .next r S1 := rfl
@[simp] theorem sRet_ap : sRet m r S = bindS (m r S) r fun d S1 => .ok (.ret d) r S1 := rfl
@[simp] theorem sRetN_ap : sRetN r S = .ok (.ret .non) r S := rfl
@[simp] theorem sIf_ap : sIf ta sa sb r S = bindS (ta r S) r fun k S1 => if k = true then sa r S1 else sb r S1 := rfl
@[simp] theorem sBrk_ap : sBrk r S = .ok .brk r S := rfl
@[simp] theorem sCont_ap : sCont r S = .ok .cont r S := rfl
@[simp] theorem sNever_ap : sNever r S = .bad := rfl
@[simp] theorem sForget_ap (i : Nat) : sForget i sa r S = sa (r.set i none) S := rfl
@[simp] theorem sAug_ap (i : Nat) (f : Int → Int → Int) : sAug i f m r S = (match r[i]? with
  | some (some (.int a)) => bindS (m r S) r fun d S1 => match d with
    | .int b => .ok .next (r.set i (some (.int (f a b)))) S1
    | _ => .bad
  | _ => .bad) := rfl
@[simp] theorem sPar_ap (i j : Nat) : sPar i j ms r S = bindS (ms r S) r fun ds S1 => match ds with
  | [a, b] => .ok .next ((r.set i (some a)).set j (some b)) S1
  | _ => .bad := rfl
@[simp] theorem tgN_ap (i : Nat) (d : D) : tgN i d r = some (r.set i (some d)) := rfl
@[simp] theorem tgsNil_ap : tgsNil [] r = some r := rfl
@[simp] theorem tgsCons_ap (a : D → Env → Option Env) (b : List D → Env → Option Env) (d : D) (ds : List D) : tgsCons a b (d :: ds) r = (a d r).bind fun r1 => b ds r1 := rfl
@[simp] theorem tgT_ap (n : Nat) (b : List D → Env → Option Env) (ds : List D) : tgT n b (.tup ds) r = if ds.length = n then b ds r else none := rfl
@[simp] theorem sAsg_ap (gm : D → Env → Option Env) : sAsg m gm r S = bindS (m r S) r fun d S1 => match gm d r with
  | some r1 => .ok .next r1 S1
  | none => .bad := rfl
@[simp] theorem sFor_ap (im : IM) (gm : D → Env → Option Env) : sFor im gm sb r S = bindS (im r S) r fun ds S1 => sLoop gm sb ds r S1 := rfl
@[simp] theorem mIter_ap : mIter m r S = (m r S).bind fun d S1 => ofO (seqD d) S1 := rfl
@[simp] theorem mRng1_ap : mRng1 ms r S = (ms r S).bind fun ds S1 => ofO (rng1 ds) S1 := rfl
@[simp] theorem mRng2_ap : mRng2 ms r S = (ms r S).bind fun ds S1 => ofO (rng2 ds) S1 := rfl
@[simp] theorem mZip_ap : mZip ms r S = (ms r S).bind fun ds S1 => ofO (zipD ds) S1 := rfl
@[simp] theorem mLc_ap (im : IM) (vs : List Nat) (gm : D → Env → Option Env) (te : EM) : mLc im vs gm ta te r S = (im r S).bind fun ds S1 => (lcL gm ta te (wipeE r vs) ds S1).bind fun ys S2 => .ok (.lst ys) S2 := rfl
@[simp] theorem mYes_ap : mYes r S = .ok true S := rfl
@[simp] theorem nox_ok {α : Type} (a : α) : nox (.ok a S) = .ok a S := rfl
@[simp] theorem mApp_ap (n : Nat) (F : List D → Store → R D) : mApp n F ms r S = (ms r S).bind fun ds S1 => if ds.length = n then F ds S1 else .bad := rfl
@[simp] theorem mNoP_ap : mNoP r S = .ok none S := rfl
@[simp] theorem mP_ap : mP m r S = (m r S).bind fun d S1 => match d with
  | .int i => .ok (some i) S1
  | _ => .bad := rfl
@[simp] theorem mSl_ap (ml mh : OM) : mSl m ml mh r S = (m r S).bind fun d S1 => (ml r S1).bind fun lo S2 => (mh r S2).bind fun hi S3 => ofO (slD d lo hi S3) S3 := rfl
@[simp] theorem mAppend_ap : mAppend mo m r S = (mo r S).bind fun o S1 => if isLoc o S1 = true then (m r S1).bind fun d S2 => appD o d S2 else .bad := rfl
@[simp] theorem isLoc_ap (n : Nat) : isLoc (.loc n) S = (match S[n]? with | some (.lst _) => true | _ => false) := rfl
@[simp] theorem appD_ap (n : Nat) (d : D) : appD (.loc n) d S = (match S[n]? with
    | some (.lst xs) => if xs.length < 100000 then .ok .non (S.set n (.lst (xs ++ [d]))) else .bad
    | _ => .bad) := rfl
@[simp] theorem mPop_ap : mPop mo r S = (mo r S).bind fun o S1 => popD o S1 := rfl
@[simp] theorem popD_ap (n : Nat) : popD (.loc n) S = (match S[n]? with
    | some (.lst xs) => match xs[xs.length - 1]? with
      | some d => .ok d (S.set n (.lst xs.dropLast))
      | none => .bad
    | _ => .bad) := rfl
@[simp] theorem sSetIx_ap : sSetIx mo mi m r S = bindS (m r S) r fun d S1 => bindS (mo r S1) r fun o S2 => bindS (mi r S2) r fun i S3 => putD o i d r S3 := rfl
@[simp] theorem putD_ap (n : Nat) (k : Int) (d : D) : putD (.loc n) (.int k) d r S = (match S[n]? with
    | some (.lst xs) => match ixN xs.length k with
      | some j => .ok .next r (S.set n (.lst (xs.set j d)))
      | none => .bad
    | _ => .bad) := rfl
@[simp] theorem sAugIx_ap (f : Int → Int → Int) : sAugIx f mo mi m r S = bindS (mo r S) r fun o S1 => bindS (mi r S1) r fun i S2 => bindS (ofO (getL o i S2) S2) r fun x S3 => bindS (m r S3) r fun y S4 => bindS (ofO (ipD f x y) S4) r fun z S5 => putD o i z r S5 := rfl
@[simp] theorem getL_ap (n : Nat) (k : Int) : getL (.loc n) (.int k) S = (match S[n]? with
    | some (.lst xs) => if 0 ≤ k then xs[k.toNat]? else none
    | _ => none) := rfl
@[simp] theorem ipD_ap (f : Int → Int → Int) (a b : Int) : ipD f (.int a) (.int b) = some (.int (f a b)) := rfl
@[simp] theorem mFld_ap (c f : Str) : mFld c f m r S = (m r S).bind fun a S1 => ofO (fldD c f a S1) S1 := rfl
@[simp] theorem fldD_ap (c f : Str) (n : Nat) : fldD c f (.loc n) S = (match S[n]? with
    | some (.ins c' fs) => if c' = c then fs.lookup f else none
    | _ => none) := rfl
@[simp] theorem sFldD_ap (c f : Str) : sFldD c f mo m r S = bindS (m r S) r fun v S1 => bindS (mo r S1) r fun o S2 => setFD c f o v r S2 := rfl
@[simp] theorem setFD_ap (c f : Str) (n : Nat) (v : D) : setFD c f (.loc n) v r S = (match S[n]? with
    | some (.ins c' fs) => if c' = c ∧ fs.length < 900 then .ok .next r (S.set n (.ins c' (putFD f v fs))) else .bad
    | _ => .bad) := rfl
@[simp] theorem sFldAugD_ap (c f : Str) (h : Int → Int → Int) : sFldAugD c f h mo m r S = bindS (mo r S) r fun o S1 => bindS (ofO (fldD c f o S1) S1) r fun x S2 => bindS (m r S2) r fun y S3 => bindS (ofO (ipD h x y) S3) r fun z S4 => setFD c f o z r S4 := rfl
@[simp] theorem isIns_ap (c mth : Str) (n : Nat) : isIns c mth (.loc n) S = (match S[n]? with
    | some (.ins c' fs) => decide (c' = c) && (fs.lookup mth).isNone
    | _ => false) := rfl
@[simp] theorem mMeth_ap (c mth : Str) (n : Nat) (F : List D → Store → R D) : mMeth c mth n F mo ms r S = (mo r S).bind fun o S1 => if isIns c mth o S1 = true then (ms r S1).bind fun ds S2 => if (o :: ds).length = n then F (o :: ds) S2 else .bad else .bad := rfl
@[simp] theorem mMake_ap (c : Str) (n : Nat) (F : List D → Store → R D) : mMake c n F ms r S = (ms r S).bind fun ds S1 => if (ds.length + 1) = n then (nox (F (.loc S1.length :: ds) (S1 ++ [.ins c []]))).bind fun d S2 => match d with
  | .non => .ok (.loc S1.length) S2
  | _ => .bad else .bad := rfl
@[simp] theorem sLoop_nil (gm : D → Env → Option Env) : sLoop gm sb [] r S = .ok .next r S := rfl
/-! by values -/
@[simp] theorem subD_int (i j : Int) : subD (.int i) (.int j) S = some (.int (i - j)) := rfl
@[simp] theorem addD_int (i j : Int) : addD (.int i) (.int j) S = some (.int (i + j)) := rfl
@[simp] theorem addD_lst (xs ys : List D) : addD (.lst xs) (.lst ys) S = if xs.length + ys.length ≤ 100000 then some (.lst (xs ++ ys)) else none := rfl
@[simp] theorem addD_tup (xs ys : List D) : addD (.tup xs) (.tup ys) S = if xs.length + ys.length ≤ 100000 then some (.tup (xs ++ ys)) else none := rfl
@[simp] theorem fdivD_int (i j : Int) : fdivD (.int i) (.int j) S = if 0 < j ∧ j < 1073741824 then some (.int (i / j)) else none := rfl
@[simp] theorem modD_int (i j : Int) : modD (.int i) (.int j) S = if 0 < j then some (.int (i % j)) else none := rfl
@[simp] theorem negD_int (i : Int) : negD (.int i) S = some (.int (-i)) := rfl
@[simp] theorem mulD_int (i j : Int) : mulD (.int i) (.int j) S = if (-(2 ^ 64) < i ∧ i < 2 ^ 64) ∨ (-(2 ^ 64) < j ∧ j < 2 ^ 64) then some (.int (i * j)) else none := rfl
@[simp] theorem mulD_lst (xs : List D) (k : Int) : mulD (.lst xs) (.int k) S = if -100000 ≤ k ∧ k ≤ 100000 ∧ xs.length * k.toNat ≤ 100000 then some (.lst (List.replicate k.toNat xs).flatten) else none := rfl
@[simp] theorem ltD_int (i j : Int) : ltD (.int i) (.int j) S = some (.bl (decide (i < j))) := rfl
@[simp] theorem leD_int (i j : Int) : leD (.int i) (.int j) S = some (.bl (decide (i ≤ j))) := rfl
@[simp] theorem gtD_int (i j : Int) : gtD (.int i) (.int j) S = some (.bl (decide (j < i))) := rfl
@[simp] theorem geD_int (i j : Int) : geD (.int i) (.int j) S = some (.bl (decide (j ≤ i))) := rfl
@[simp] theorem eqD_int (i j : Int) : eqD (.int i) (.int j) S = some (.bl (decide (i = j))) := rfl
@[simp] theorem neD_int (i j : Int) : neD (.int i) (.int j) S = some (.bl (!decide (i = j))) := rfl
@[simp] theorem lenD_lst (xs : List D) : lenD [.lst xs] S = some (.int xs.length) := rfl
@[simp] theorem lenD_tup (xs : List D) : lenD [.tup xs] S = some (.int xs.length) := rfl
@[simp] theorem lenD_scr (xs : List Int) : lenD [.scr xs] S = some (.int xs.length) := rfl
@[simp] theorem lenD_loc (n : Nat) : lenD [.loc n] S = (match S[n]? with
    | some (.lst xs) => some (.int xs.length)
    | _ => none) := rfl
@[simp] theorem absD_int (i : Int) : absD [.int i] S = some (.int (if i < 0 then -i else i)) := rfl
@[simp] theorem intD_bl (b : Bool) : intD [.bl b] S = some (.int (if b = true then 1 else 0)) := rfl
@[simp] theorem tupD_lst (xs : List D) : tupD [.lst xs] S = some (.tup xs) := rfl
@[simp] theorem tupD_loc (n : Nat) : tupD [.loc n] S = (match S[n]? with
    | some (.lst xs) => some (.tup xs)
    | _ => none) := rfl
@[simp] theorem maxD_ints (ns : List Int) : maxD [.lst (ns.map D.int)] S = (maxI ns).map D.int := by
  show ((intsOf (ns.map D.int)).bind maxI).map D.int = _
  rw [intsOf_map]
  rfl
@[simp] theorem sumD_ints (ns : List Int) : sumD [.lst (ns.map D.int)] S = some (.int ns.sum) := by
  show (intsOf (ns.map D.int)).map _ = _
  rw [intsOf_map]
  rfl
@[simp] theorem allD_bls (bs : List Bool) : allD [.lst (bs.map D.bl)] S = some (.bl (bs.all id)) := by
  show (blsOf (bs.map D.bl)).map _ = _
  rw [blsOf_map]
  rfl
@[simp] theorem truD_bl (b : Bool) : truD (.bl b) S = some b := rfl
@[simp] theorem truD_int (i : Int) : truD (.int i) S = some (i != 0) := rfl
@[simp] theorem truD_tup (xs : List D) : truD (.tup xs) S = some (!xs.isEmpty) := rfl
@[simp] theorem truD_lst (xs : List D) : truD (.lst xs) S = some (!xs.isEmpty) := rfl
@[simp] theorem truD_scr (xs : List Int) : truD (.scr xs) S = some (!xs.isEmpty) := rfl
@[simp] theorem truD_loc (n : Nat) : truD (.loc n) S = (match S[n]? with
    | some (.lst xs) => some (!xs.isEmpty)
    | _ => none) := rfl
@[simp] theorem ixD_lst (xs : List D) (i : Int) : ixD (.lst xs) (.int i) S = atI xs i := rfl
@[simp] theorem ixD_tup (xs : List D) (i : Int) : ixD (.tup xs) (.int i) S = atI xs i := rfl
@[simp] theorem ixD_scr (xs : List Int) (i : Int) : ixD (.scr xs) (.int i) S = (atI xs i).map .int := rfl
@[simp] theorem ixD_loc (n : Nat) (i : Int) : ixD (.loc n) (.int i) S = (match S[n]? with
    | some (.lst xs) => atI xs i
    | _ => none) := rfl
@[simp] theorem seqD_lst (xs : List D) : seqD (.lst xs) = some xs := rfl
@[simp] theorem seqD_tup (xs : List D) : seqD (.tup xs) = some xs := rfl
@[simp] theorem seqD_scr (xs : List Int) : seqD (.scr xs) = some (xs.map D.int) := rfl
@[simp] theorem rng1_int (j : Int) : rng1 [.int j] = if -100000 ≤ j ∧ j ≤ 100000 then some (rng 0 j.toNat) else none := rfl
@[simp] theorem rng2_int (i j : Int) : rng2 [.int i, .int j] = if (-100000 ≤ i ∧ i ≤ 100000) ∧ (-100000 ≤ j ∧ j ≤ 100000) then some (rng i (j - i).toNat) else none := rfl
@[simp] theorem slD_lst (xs : List D) (lo hi : Option Int) : slD (.lst xs) lo hi S = some (.lst (cutL xs lo hi)) := rfl
@[simp] theorem slD_tup (xs : List D) (lo hi : Option Int) : slD (.tup xs) lo hi S = some (.tup (cutL xs lo hi)) := rfl
@[simp] theorem wipeE_nil : wipeE r [] = r := rfl
@[simp] theorem wipeE_cons (v : Nat) (vs : List Nat) : wipeE r (v :: vs) = (wipeE r vs).set v none := rfl
@[simp] theorem isND_non : isND .non .non S = some (.bl true) := rfl
end
theorem atI_zero {α : Type} (x : α) (xs : List α) : atI (x :: xs) 0 = some x := atI_nat (j := 0) rfl
theorem atI_neg1 {α : Type} (xs : List α) (x : α) : atI (xs ++ [x]) (-1) = some x := atI_last xs x
theorem ixN_nat {n j : Nat} (h : j < n) : ixN n (j : Int) = some j := by
  unfold ixN
  rw [if_pos (by omega), if_pos (by omega)]
  simp
theorem ixN_zero {n : Nat} (h : 0 < n) : ixN n 0 = some 0 := ixN_nat (j := 0) h
end Dv
/-! what a draw comes to -/
namespace Dv
open PySem L2
def mDraw2 : SM :=
    (sSeq (sDrop (mAppend (mVar 1) (mC (.int 0))))
    (sSeq (sSet 3 (mCall lenD (mCons (mVar 1) mNil)))
    (sSeq (sSet 4 (mIf (mTru (mVar 0)) (mBin ixD (mVar 0) (mBin modD (mVar 3) (mCall lenD (mCons (mVar 0) mNil)))) (mC (.int 0))))
    (sSeq (sSet 5 (mBin modD (mBin ixD (mVar 1) (mC (.int 0))) (mC (.int 65536))))
    (sSeq (sSetIx (mVar 1) (mC (.int 0)) (mBin fdivD (mBin ixD (mVar 1) (mC (.int 0))) (mC (.int 65536))))
    (sSeq (sSet 6 (mBin modD (mBin addD (mBin addD (mVar 4) (mBin mulD (mC (.int 40503)) (mVar 5))) (mBin mulD (mC (.int 104729)) (mVar 3))) (mC (.int 4294967291))))
    (sSeq (sSet 6 (mBin modD (mBin mulD (mBin modD (mBin mulD (mVar 6) (mVar 6)) (mC (.int 4294967279))) (mC (.int 48271))) (mC (.int 4294967291))))
    (sSeq (sSet 7 (mBin modD (mBin mulD (mBin modD (mBin mulD (mVar 6) (mVar 6)) (mC (.int 4294967279))) (mC (.int 69621))) (mC (.int 4294967291))))
    (sRet (mBin modD (mBin addD (mBin mulD (mBin fdivD (mVar 6) (mC (.int 64))) (mC (.int 67108864))) (mBin fdivD (mVar 7) (mC (.int 64)))) (mVar 2)))))))))))
def mDraw : SM :=
    (sSeq (sIf (mNotT (mTru (mVar 1))) (sDrop (mAppend (mVar 1) (mCall maxD (mCons (mBin addD (mLc (mIter (mVar 0)) [4] (tgN 4) mYes (mCall absD (mCons (mVar 4) mNil))) (mLst (mCons (mC (.int 0)) mNil))) mNil)))) sNil)
    mDraw2)
noncomputable def FDraw : List D → Store → R D := runT 8 mDraw
def absI (i : Int) : Int := if i < 0 then -i else i
theorem lc_abs (r0 : Env) (h4 : 4 < r0.length) (S : Store) : ∀ ns : List Int, lcL (tgN 4) mYes (mCall absD (mCons (mVar 4) mNil)) r0 (ns.map D.int) S = .ok ((ns.map absI).map D.int) S
  | [] => rfl
  | n :: ns => by
    have e : (r0.set 4 (some (D.int n)))[4]? = some (some (D.int n)) := List.getElem?_set_self h4
    rw [List.map_cons, lcL]
    simp [lc_abs r0 h4 S ns, absI, h4]
theorem maxI_cons : ∀ (x : Int) (xs : List Int), ∃ m, maxI (x :: xs) = some m
  | x, [] => ⟨x, rfl⟩
  | x, y :: ys => by
    obtain ⟨m, e⟩ := maxI_cons y ys
    show ∃ m, (maxI (y :: ys)).map (fun m => if m < x then x else m) = some m
    rw [e]
    exact ⟨_, rfl⟩
theorem maxI_app : ∀ (xs : List Int) (x : Int), ∃ m, maxI (xs ++ [x]) = some m
  | [], x => ⟨x, rfl⟩
  | y :: ys, x => maxI_cons y (ys ++ [x])
theorem atI_mod {α : Type} (x : α) (xs : List α) (k : Int) : ∃ y, atI (x :: xs) (k % ((xs.length : Int) + 1)) = some y := by
  have h1 : 0 ≤ k % ((xs.length : Int) + 1) := Int.emod_nonneg _ (by omega)
  have h2 : k % ((xs.length : Int) + 1) < xs.length + 1 := Int.emod_lt_of_pos _ (by omega)
  obtain ⟨j, ej⟩ : ∃ j : Nat, k % ((xs.length : Int) + 1) = j := ⟨_, (Int.toNat_of_nonneg h1).symm⟩
  rw [ej] at h2 ⊢
  have h3 : j < (x :: xs).length := by rw [List.length_cons]; omega
  exact ⟨(x :: xs)[j], atI_nat (List.getElem?_eq_getElem h3)⟩
theorem small_mod (a m : Int) (h0 : 0 < m) (h : m ≤ 9223372036854775808) : -(2 ^ 64) < a % m ∧ a % m < 2 ^ 64 := by
  have h1 := Int.emod_nonneg a (show m ≠ 0 by omega)
  have h2 := Int.emod_lt_of_pos a h0
  constructor <;> omega
theorem gs {S : Store} {t : Nat} {o : O} (h : S[t]? = some o) (o' : O) : (List.set S t o')[t]? = some o' := List.getElem?_set_self (List.getElem?_eq_some_iff.mp h).1
/-- what a draw tells, and what is left of the town -/
theorem draw_tail (ns ts : List Int) (t0 many : Int) (S : Store) (t : Nat) (hS : S[t]? = some (.lst ((t0 :: ts).map D.int))) (hl : ts.length < 99990) (hm : 0 < many) (y4 : Option D) : ∃ (r : Int) (ts' : List Int) (rho : Env), 0 ≤ r ∧ r < many ∧ ts'.length = ts.length + 2 ∧
    mDraw2 [some (.scr ns), some (.loc t), some (.int many), none, y4, none, none, none] S =
      .ok (.ret (.int r)) rho (S.set t (.lst (ts'.map D.int))) := by
  have ht : t < S.length := (List.getElem?_eq_some_iff.mp hS).1
  obtain ⟨c, hc⟩ : ∃ c, ∀ S' : Store, (mIf (mTru (mVar 0)) (mBin ixD (mVar 0) (mBin modD (mVar 3) (mCall lenD (mCons (mVar 0) mNil)))) (mC (.int 0))) [some (.scr ns), some (.loc t), some (.int many), some (.int ((ts.length : Int) + 1 + 1)), y4, none, none, none] S' = .ok (.int c) S' := by
    cases ns with
    | nil => exact ⟨0, fun _ => rfl⟩
    | cons n ns =>
      obtain ⟨x, ex⟩ := atI_mod n ns ((ts.length : Int) + 1 + 1)
      refine ⟨x, fun S' => ?_⟩
      have hp : (0 : Int) < (ns.length : Int) + 1 := by omega
      simp [hp, ex]
  have hlt : ts.length + 1 < 100000 := by omega
  have e1 : atI (D.int t0 :: (List.map D.int ts ++ [D.int 0])) 0 = some (D.int t0) := atI_zero _ _
  have e2 : ixN (ts.length + 1 + 1) 0 = some 0 := ixN_zero (by omega)
  have sm : ∀ a : Int, (-18446744073709551616 < a % 4294967291 ∧ a % 4294967291 < 18446744073709551616) := fun a => by omega
  have h : ∃ (a : Int) (rho : Env), mDraw2 [some (.scr ns), some (.loc t), some (.int many), none, y4, none, none, none] S = .ok (.ret (.int (a % many))) rho (S.set t (.lst (((t0 / 65536) :: (ts ++ [0])).map D.int))) := by
    unfold mDraw2
    simp [hS, gs hS, hlt, hc, e1, e2, sm, hm, -mIf_ap]
    exact ⟨_, rfl⟩
  obtain ⟨a, rho, e⟩ := h
  exact ⟨a % many, _, rho, Int.emod_nonneg _ (by omega), Int.emod_lt_of_pos _ hm, by simp, e⟩
theorem start_draw (ns : List Int) (t : Nat) (many : Int) : frame 8 [.scr ns, .loc t, .int many] = [some (.scr ns), some (.loc t), some (.int many), none, none, none, none, none] := rfl
section
variable {S S1 : Store} {rho : Env} {d d' : D}
open Classical in
theorem finT_ret (tr : Tr S S1) (e : fzD S.length S1 d = some d') : finT S (.ok (.ret d) rho S1) = .ok d' (S1.take S.length) := by
  simp only [finT, if_pos tr, e]
open Classical in
theorem finT_next (tr : Tr S S1) : finT S (.ok .next rho S1) = .ok .non (S1.take S.length) := by
  simp only [finT, if_pos tr]
theorem take_app (E : Store) : (S ++ E).take S.length = S := by simp
theorem take_set (n : Nat) (o : O) (E : Store) : (List.set S n o ++ E).take S.length = List.set S n o := by simp
theorem fz_clo (h : clo S.length d = true) : fzD S.length S1 d = some d := by
  cases d with
  | loc m =>
    have : m < S.length := of_decide_eq_true h
    show (if m < S.length then _ else _) = _
    rw [if_pos this]
  | _ => exact (if_pos h : (if clo S.length _ = true then some _ else none) = some _)
/-- a body that leaves the store -/
theorem fin_ret0 (h : clo S.length d = true) : finT S (.ok (.ret d) rho S) = .ok d S := by
  have t := Tr.app S []
  rw [List.append_nil] at t
  rw [finT_ret t (fz_clo h), List.take_length]
theorem fin_next0 : finT S (.ok .next rho S) = .ok .non S := by
  have t := Tr.app S []
  rw [List.append_nil] at t
  rw [finT_next t, List.take_length]
theorem fin_ret_app (E : Store) (h : fzD S.length (S ++ E) d = some d') : finT S (.ok (.ret d) rho (S ++ E)) = .ok d' S := by
  rw [finT_ret (Tr.app S E) h, take_app]
theorem fin_next_app (E : Store) : finT S (.ok .next rho (S ++ E)) = .ok .non S := by
  rw [finT_next (Tr.app S E), take_app]
theorem fin_ret_set (n : Nat) (o : O) (ho : cloO S.length o = true) (h : clo S.length d = true) : finT S (.ok (.ret d) rho (List.set S n o)) = .ok d (List.set S n o) := by
  have t := Tr.set S [] n o ho
  rw [List.append_nil] at t
  rw [finT_ret t (fz_clo h), List.take_of_length_le (by rw [List.length_set]; exact Nat.le_refl _)]
theorem fin_next_set (n : Nat) (o : O) (ho : cloO S.length o = true) : finT S (.ok .next rho (List.set S n o)) = .ok .non (List.set S n o) := by
  have t := Tr.set S [] n o ho
  rw [List.append_nil] at t
  rw [finT_next t, List.take_of_length_le (by rw [List.length_set]; exact Nat.le_refl _)]
theorem fin_ret_set_app (n : Nat) (o : O) (E : Store) (ho : cloO S.length o = true) (h : fzD S.length (List.set S n o ++ E) d = some d') : finT S (.ok (.ret d) rho (List.set S n o ++ E)) = .ok d' (List.set S n o) := by
  rw [finT_ret (Tr.set S E n o ho) h, take_set]
theorem fin_next_set_app (n : Nat) (o : O) (E : Store) (ho : cloO S.length o = true) : finT S (.ok .next rho (List.set S n o ++ E)) = .ok .non (List.set S n o) := by
  rw [finT_next (Tr.set S E n o ho), take_set]
end
theorem draw_ok (ns ts : List Int) (many : Int) (S : Store) (t : Nat) (hS : S[t]? = some (.lst (ts.map D.int))) (h63 : ns.length ≤ 63) (hl : ts.length < 99990) (hm : 0 < many) : ∃ (r : Int) (ts' : List Int), 0 ≤ r ∧ r < many ∧ ts'.length ≤ ts.length + 2 ∧
    FDraw [.scr ns, .loc t, .int many] S = .ok (.int r) (S.set t (.lst (ts'.map D.int))) := by
  have ht : t < S.length := (List.getElem?_eq_some_iff.mp hS).1
  obtain ⟨r, ts', rho, h0, h1, h2, e⟩ : ∃ (r : Int) (ts' : List Int) (rho : Env), 0 ≤ r ∧ r < many ∧ ts'.length ≤ ts.length + 2 ∧ mDraw (frame 8 [.scr ns, .loc t, .int many]) S = .ok (.ret (.int r)) rho (S.set t (.lst (ts'.map D.int))) := by
    rw [start_draw]
    unfold mDraw
    cases ts with
    | nil =>
      obtain ⟨m, em⟩ := maxI_app (ns.map absI) 0
      have hS' : (S.set t (.lst ([m].map D.int)))[t]? = some (.lst ([m].map D.int)) := gs hS _
      obtain ⟨r, ts', rho, h0, h1, h2, e⟩ := draw_tail ns [] m many (S.set t (.lst ([m].map D.int))) t hS' (by simp) hm none
      refine ⟨r, ts', rho, h0, h1, by simp at h2; simp [h2], ?_⟩
      rw [List.set_set] at e
      have hx : ns.length + 1 ≤ 100000 := by omega
      have em' : maxD [D.lst (List.map D.int (List.map absI ns) ++ [D.int 0])] S = some (.int m) := by
        rw [show List.map D.int (List.map absI ns) ++ [D.int 0] = (ns.map absI ++ [0]).map D.int by simp, maxD_ints, em]
        rfl
      rw [← e]
      simp only [List.map_nil] at hS
      have hlc := lc_abs [some (D.scr ns), some (D.loc t), some (D.int many), none, none, none, none, none] (by simp) S ns
      simp [hS, hlc, hx, em', -List.map_map]
    | cons t0 ts =>
      obtain ⟨r, ts', rho, h0, h1, h2, e⟩ := draw_tail ns ts t0 many S t hS (by simp at hl; omega) hm none
      refine ⟨r, ts', rho, h0, h1, by simp [h2], ?_⟩
      rw [← e]
      simp only [List.map_cons] at hS
      simp [hS]
  refine ⟨r, ts', h0, h1, h2, ?_⟩
  show finT S (mDraw (frame 8 _) S) = _
  rw [e]
  exact fin_ret_set t _ (cloL_ints _ _) rfl
end Dv
/-! equality of plain data is equality -/
namespace Dv
open PySem L2
noncomputable instance : DecidableEq D := fun a b => Classical.propDecidable (a = b)
/-- data without bools, not deeper than so -/
def pl : Nat → D → Bool
  | _, .non => true
  | _, .int _ => true
  | _, .str x => PyData.strOk x
  | k + 1, .tup xs => xs.all (pl k)
  | k + 1, .lst xs => xs.all (pl k)
  | _, _ => false
theorem pl_dat : ∀ (k : Nat) (d : D), pl k d = true → dat d = true ∧ (pyD d).canLay0 = true ∧ (pyD d).depth ≤ k
  | _, .non, _ => ⟨rfl, rfl, Nat.zero_le _⟩
  | _, .int _, _ => ⟨rfl, rfl, Nat.zero_le _⟩
  | _, .str x, h => ⟨rfl, by cases ‹Nat› <;> exact h, Nat.zero_le _⟩
  | 0, .tup _, h => by cases h
  | 0, .lst _, h => by cases h
  | 0, .bl _, h => by cases h
  | _ + 1, .bl _, h => by cases h
  | 0, .scr _, h => by cases h
  | _ + 1, .scr _, h => by cases h
  | 0, .dct _, h => by cases h
  | _ + 1, .dct _, h => by cases h
  | 0, .loc _, h => by cases h
  | _ + 1, .loc _, h => by cases h
  | 0, .ty _, h => by cases h
  | _ + 1, .ty _, h => by cases h
  | k + 1, .tup xs, h => by
    have h : xs.all (pl k) = true := h
    have r : ∀ ys : List D, ys.all (pl k) = true → dats ys = true ∧ PyData.canLayAll0 (pyDs ys) = true ∧ PyData.depthAll (pyDs ys) ≤ k := fun ys => by
      induction ys with
      | nil => exact fun _ => ⟨rfl, rfl, Nat.zero_le _⟩
      | cons y ys ih =>
        intro h
        rw [List.all_cons, Bool.and_eq_true] at h
        obtain ⟨a, b, c⟩ := pl_dat k y h.1
        obtain ⟨a', b', c'⟩ := ih h.2
        refine ⟨by show (dat y && dats ys) = true; rw [a, a']; rfl, by show (PyData.canLay0 (pyD y) && PyData.canLayAll0 (pyDs ys)) = true; rw [b, b']; rfl, ?_⟩
        show max (PyData.depth (pyD y)) (PyData.depthAll (pyDs ys)) ≤ k
        omega
    obtain ⟨a, b, c⟩ := r xs h
    exact ⟨a, b, by show PyData.depthAll (pyDs xs) + 1 ≤ _; omega⟩
  | k + 1, .lst xs, h => by
    have h : xs.all (pl k) = true := h
    have r : ∀ ys : List D, ys.all (pl k) = true → dats ys = true ∧ PyData.canLayAll0 (pyDs ys) = true ∧ PyData.depthAll (pyDs ys) ≤ k := fun ys => by
      induction ys with
      | nil => exact fun _ => ⟨rfl, rfl, Nat.zero_le _⟩
      | cons y ys ih =>
        intro h
        rw [List.all_cons, Bool.and_eq_true] at h
        obtain ⟨a, b, c⟩ := pl_dat k y h.1
        obtain ⟨a', b', c'⟩ := ih h.2
        refine ⟨by show (dat y && dats ys) = true; rw [a, a']; rfl, by show (PyData.canLay0 (pyD y) && PyData.canLayAll0 (pyDs ys)) = true; rw [b, b']; rfl, ?_⟩
        show max (PyData.depth (pyD y)) (PyData.depthAll (pyDs ys)) ≤ k
        omega
    obtain ⟨a, b, c⟩ := r xs h
    exact ⟨a, b, by show PyData.depthAll (pyDs xs) + 1 ≤ _; omega⟩
theorem pl_ok {k : Nat} {d : D} (h : pl k d = true) (hk : k ≤ 64) : okD d = true := by
  obtain ⟨a, b, c⟩ := pl_dat k d h
  unfold okD SeqAt.shaped
  rw [a, b, decide_eq_true (show (pyD d).depth ≤ 64 by omega)]
  rfl
theorem pl_all_eqv (k : Nat) (ih : ∀ a b : D, pl k a = true → pl k b = true → (PyData.eqv (pyD a) (pyD b) = true ↔ a = b)) : ∀ xs ys : List D, xs.all (pl k) = true → ys.all (pl k) = true → (PyData.eqvAll (pyDs xs) (pyDs ys) = true ↔ xs = ys)
  | [], [], _, _ => ⟨fun _ => rfl, fun _ => rfl⟩
  | [], y :: ys, _, _ => ⟨(by intro h; cases h), (by intro h; cases h)⟩
  | x :: xs, [], _, _ => ⟨(by intro h; cases h), (by intro h; cases h)⟩
  | x :: xs, y :: ys, h1, h2 => by
    rw [List.all_cons, Bool.and_eq_true] at h1 h2
    show (PyData.eqv (pyD x) (pyD y) && PyData.eqvAll (pyDs xs) (pyDs ys)) = true ↔ _
    rw [Bool.and_eq_true, ih x y h1.1 h2.1, pl_all_eqv k ih xs ys h1.2 h2.2, List.cons.injEq]
theorem pl_eqv : ∀ (k : Nat) (a b : D), pl k a = true → pl k b = true → (PyData.eqv (pyD a) (pyD b) = true ↔ a = b) := fun k => by
  induction k with
  | zero =>
    intro a b ha hb
    cases a <;> cases b <;> first | (simp [pl] at ha; done) | (simp [pl] at hb; done) | simp [pyD, PyData.eqv]
  | succ k ih =>
    intro a b ha hb
    cases a <;> cases b <;> first | (simp [pl] at ha; done) | (simp [pl] at hb; done) | simp [pyD, PyData.eqv]
    · exact pl_all_eqv k ih _ _ ha hb
    · exact pl_all_eqv k ih _ _ ha hb
theorem pl_eqvD {k : Nat} {a b : D} (ha : pl k a = true) (hb : pl k b = true) : eqvD a b = decide (a = b) := by
  by_cases h : a = b
  · rw [decide_eq_true h]
    exact (pl_eqv k a b ha hb).mpr h
  · rw [decide_eq_false h]
    cases q : eqvD a b with
    | false => rfl
    | true => exact absurd ((pl_eqv k a b ha hb).mp q) h
theorem eqO_pl {k : Nat} {a b : D} (ha : pl k a = true) (hb : pl k b = true) (hk : k ≤ 64) : eqO a b = some (decide (a = b)) := by
  have h : (if okD a = true ∧ okD b = true then some (eqvD a b) else none) = some (decide (a = b)) := by
    rw [if_pos ⟨pl_ok ha hk, pl_ok hb hk⟩, pl_eqvD ha hb]
  unfold eqO
  split
  · congr 1
    simp
  · congr 1
    simp
  · congr 1
    simp
  · exact h
theorem eqD_pl {k : Nat} {a b : D} {S : Store} (ha : pl k (now a S) = true) (hb : pl k (now b S) = true) (hk : k ≤ 64) : eqD a b S = some (.bl (decide (now a S = now b S))) := by
  unfold eqD
  rw [eqO_pl ha hb hk]
  rfl
theorem neD_pl {k : Nat} {a b : D} {S : Store} (ha : pl k (now a S) = true) (hb : pl k (now b S) = true) (hk : k ≤ 64) : neD a b S = some (.bl (!decide (now a S = now b S))) := by
  unfold neD
  rw [eqO_pl ha hb hk]
  rfl
theorem any_pl {k : Nat} {a : D} (ha : pl k a = true) : ∀ xs : List D, xs.all (pl k) = true → (xs.any fun z => eqvD z a) = decide (a ∈ xs)
  | [], _ => by simp
  | x :: xs, h => by
    rw [List.all_cons, Bool.and_eq_true] at h
    rw [List.any_cons, any_pl ha xs h.2, pl_eqvD h.1 ha]
    by_cases e : a = x
    · subst e; simp
    · have : ¬ x = a := fun z => e z.symm
      simp [e, this]
theorem inO_pl {k : Nat} {a : D} {xs : List D} (ha : pl k a = true) (hb : xs.all (pl k) = true) (hk : k + 1 ≤ 64) : inO a (.lst xs) = some (decide (a ∈ xs)) := by
  show (if okD a = true ∧ okD (.lst xs) = true then some (xs.any fun z => eqvD z a) else none) = _
  rw [if_pos ⟨pl_ok ha (by omega), pl_ok (k := k + 1) hb hk⟩, any_pl ha xs hb]
theorem pl_rowD (k : Nat) (ns : List Int) : pl (k + 1) (rowD ns) = true := by
  show (ns.map D.int).all (pl k) = true
  rw [List.all_map, List.all_eq_true]
  intro n _
  cases k <;> rfl
theorem pl_rows (k : Nat) (rows : List (List Int)) : (rows.map rowD).all (pl (k + 1)) = true := by
  rw [List.all_map, List.all_eq_true]
  intro n _
  exact pl_rowD k n
theorem map_int_inj {a b : List Int} (h : a.map D.int = b.map D.int) : a = b := by
  induction a generalizing b with
  | nil => cases b with
    | nil => rfl
    | cons => cases h
  | cons x xs ih => cases b with
    | nil => cases h
    | cons y ys =>
      rw [List.map_cons, List.map_cons, List.cons.injEq, D.int.injEq] at h
      rw [h.1, ih h.2]
theorem rowD_inj {a b : List Int} (h : rowD a = rowD b) : a = b := by
  unfold rowD at h
  injection h with h
  exact map_int_inj h
theorem rowD_iff {a b : List Int} : rowD a = rowD b ↔ a = b := ⟨rowD_inj, fun h => by rw [h]⟩
theorem eqD_row {S : Store} (a b : List Int) : eqD (rowD a) (rowD b) S = some (.bl (decide (a = b))) := by
  have := eqD_pl (k := 1) (a := rowD a) (b := rowD b) (S := S) (by exact pl_rowD 0 a) (by exact pl_rowD 0 b) (by decide)
  rw [this]
  congr 2
  exact decide_eq_decide.mpr rowD_iff
theorem neD_row {S : Store} (a b : List Int) : neD (rowD a) (rowD b) S = some (.bl (!decide (a = b))) := by
  have := neD_pl (k := 1) (a := rowD a) (b := rowD b) (S := S) (by exact pl_rowD 0 a) (by exact pl_rowD 0 b) (by decide)
  rw [this]
  congr 3
  exact decide_eq_decide.mpr rowD_iff
theorem mem_rowD {a : List Int} {rows : List (List Int)} : rowD a ∈ rows.map rowD ↔ a ∈ rows := by
  constructor
  · intro h
    obtain ⟨b, hb, e⟩ := List.mem_map.mp h
    rw [← rowD_inj e]
    exact hb
  · exact fun h => List.mem_map.mpr ⟨a, h, rfl⟩
end Dv
/-! loops by invariants; drawn rows -/
namespace Dv
open PySem L2
theorem sLoop_cons (gm : D → Env → Option Env) (b : SM) (d : D) (ds : List D) (r : Env) (S : Store) : sLoop gm b (d :: ds) r S = (match gm d r with
    | none => .bad
    | some r1 => match b r1 S with
      | .ok .next r2 S2 => sLoop gm b ds r2 S2
      | .ok .cont r2 S2 => sLoop gm b ds r2 S2
      | .ok .brk r2 S2 => .ok .next r2 S2
      | .ok (.ret d) r2 S2 => .ok (.ret d) r2 S2
      | .exc x r2 S2 => .exc x r2 S2
      | .bad => .bad) := rfl
/-- a loop that goes through -/
theorem loop_inv {gm : D → Env → Option Env} {b : SM} (I : Nat → Env → Store → Prop) : ∀ (ds : List D) (k : Nat) (r : Env) (S : Store),
    (∀ i d r S, ds[i]? = some d → I (k + i) r S → ∃ r1 r2 S2, gm d r = some r1 ∧ (b r1 S = .ok .next r2 S2 ∨ b r1 S = .ok .cont r2 S2) ∧ I (k + i + 1) r2 S2) →
    I k r S → ∃ r' S', sLoop gm b ds r S = .ok .next r' S' ∧ I (k + ds.length) r' S'
  | [], k, r, S, _, h => ⟨r, S, rfl, h⟩
  | d :: ds, k, r, S, st, h => by
    obtain ⟨r1, r2, S2, e1, e2, h2⟩ := st 0 d r S rfl h
    obtain ⟨r', S', e3, h3⟩ := loop_inv I ds (k + 1) r2 S2 (fun i d' r S q h => by
      have := st (i + 1) d' r S q
      rw [show k + (i + 1) = k + 1 + i by omega] at this
      exact this h) h2
    refine ⟨r', S', ?_, by rw [List.length_cons, show k + (ds.length + 1) = k + 1 + ds.length by omega]; exact h3⟩
    rw [sLoop_cons, e1]
    rcases e2 with e2 | e2 <;> simp only [e2] <;> exact e3
theorem lcL_cons (gm : D → Env → Option Env) (tt : BM) (te : EM) (r0 : Env) (d : D) (ds : List D) (S : Store) : lcL gm tt te r0 (d :: ds) S = (match gm d r0 with
    | none => .bad
    | some r1 => (nox (tt r1 S)).bind fun b S1 => if b = true then (nox (te r1 S1)).bind fun y S2 => (lcL gm tt te r0 ds S2).bind fun ys S3 => .ok (y :: ys) S3 else lcL gm tt te r0 ds S1) := rfl
/-- a comprehension that does things -/
theorem lc_inv {gm : D → Env → Option Env} {te : EM} {r0 : Env} (I : Nat → List D → Store → Prop) : ∀ (ds : List D) (k : Nat) (zs : List D) (S : Store),
    (∀ i d zs S, ds[i]? = some d → I (k + i) zs S → ∃ r1 y S2, gm d r0 = some r1 ∧ te r1 S = .ok y S2 ∧ I (k + i + 1) (zs ++ [y]) S2) →
    I k zs S → ∃ ys S', lcL gm mYes te r0 ds S = .ok ys S' ∧ I (k + ds.length) (zs ++ ys) S'
  | [], k, zs, S, _, h => ⟨[], S, rfl, by rw [List.append_nil]; exact h⟩
  | d :: ds, k, zs, S, st, h => by
    obtain ⟨r1, y, S2, e1, e2, h2⟩ := st 0 d zs S rfl h
    obtain ⟨ys, S', e3, h3⟩ := lc_inv I ds (k + 1) (zs ++ [y]) S2 (fun i d' zs S q h => by
      have := st (i + 1) d' zs S q
      rw [show k + (i + 1) = k + 1 + i by omega] at this
      exact this h) h2
    refine ⟨y :: ys, S', ?_, by rw [List.length_cons, show k + (ds.length + 1) = k + 1 + ds.length by omega]; rwa [List.append_assoc] at h3⟩
    rw [lcL_cons, e1]
    simp [e2, e3]
/-- a comprehension that only tells -/
theorem lc_pure {gm : D → Env → Option Env} {tt : BM} {te : EM} {r0 : Env} {S : Store} (p : D → Bool) (f : D → D) : ∀ ds : List D,
    (∀ d ∈ ds, ∃ r1, gm d r0 = some r1 ∧ tt r1 S = .ok (p d) S ∧ (p d = true → te r1 S = .ok (f d) S)) → lcL gm tt te r0 ds S = .ok ((ds.filter p).map f) S
  | [], _ => rfl
  | d :: ds, h => by
    obtain ⟨r1, e1, e2, e3⟩ := h d List.mem_cons_self
    have ih := lc_pure p f ds fun d h' => h d (List.mem_cons_of_mem _ h')
    rw [lcL_cons, e1]
    cases q : p d with
    | false => simp [e2, q, ih]
    | true => simp [e2, q, e3 q, ih]
theorem lc_map {gm : D → Env → Option Env} {te : EM} {r0 : Env} {S : Store} (f : D → D) (ds : List D)
    (h : ∀ d ∈ ds, ∃ r1, gm d r0 = some r1 ∧ te r1 S = .ok (f d) S) : lcL gm mYes te r0 ds S = .ok (ds.map f) S := by
  have := lc_pure (gm := gm) (tt := mYes) (te := te) (r0 := r0) (S := S) (fun _ => true) f ds fun d hd => by
    obtain ⟨r1, a, b⟩ := h d hd
    exact ⟨r1, a, rfl, fun _ => b⟩
  rw [this, List.filter_eq_self.mpr fun _ _ => rfl]
theorem rng_get {lo : Int} {n i : Nat} {d : D} (h : (rng lo n)[i]? = some d) : i < n ∧ d = .int (lo + i) := by
  unfold rng at h
  rw [List.getElem?_map] at h
  by_cases hi : i < n
  · rw [List.getElem?_range hi] at h
    cases h
    exact ⟨hi, rfl⟩
  · rw [List.getElem?_eq_none (by rw [List.length_range]; omega)] at h
    cases h
theorem rng0_get {n i : Nat} {d : D} (h : (rng 0 n)[i]? = some d) : i < n ∧ d = .int i := by
  obtain ⟨a, b⟩ := rng_get h
  exact ⟨a, by rw [b, Int.zero_add]⟩
/-! ### the town -/
/-- the list at t holds numbers, so many at most -/
def Twn (t n : Nat) (S : Store) : Prop := ∃ ts : List Int, ts.length ≤ n ∧ S[t]? = some (.lst (ts.map D.int))
/-- the two differ by the town alone -/
def Dif (t : Nat) (S S' : Store) : Prop := ∃ ts : List Int, S' = List.set S t (.lst (ts.map D.int))
theorem Twn.mono {t n m : Nat} {S : Store} (h : Twn t n S) (hm : n ≤ m) : Twn t m S := by
  obtain ⟨ts, a, b⟩ := h
  exact ⟨ts, by omega, b⟩
theorem Dif.trans {t : Nat} {S S' S'' : Store} (h : Dif t S S') (h' : Dif t S' S'') : Dif t S S'' := by
  obtain ⟨a, rfl⟩ := h
  obtain ⟨b, rfl⟩ := h'
  exact ⟨b, by rw [List.set_set]⟩
theorem Twn.dif {t n : Nat} {S : Store} (h : Twn t n S) : Dif t S S := by
  obtain ⟨ts, _, b⟩ := h
  refine ⟨ts, ?_⟩
  obtain ⟨h1, h2⟩ := List.getElem?_eq_some_iff.mp b
  rw [← h2, List.set_getElem_self]
theorem Dif.len {t : Nat} {S S' : Store} (h : Dif t S S') : S'.length = S.length := by
  obtain ⟨a, rfl⟩ := h
  exact List.length_set
theorem Dif.other {t i : Nat} {S S' : Store} (h : Dif t S S') (hi : i ≠ t) : S'[i]? = S[i]? := by
  obtain ⟨a, rfl⟩ := h
  exact List.getElem?_set_ne (fun e => hi e.symm)
theorem Dif.fin {t : Nat} {S S' : Store} {rho : Env} {d : D} (h : Dif t S S') (hd : clo S.length d = true) : finT S (.ok (.ret d) rho S') = .ok d S' := by
  obtain ⟨a, rfl⟩ := h
  exact fin_ret_set t _ (cloL_ints _ _) hd
theorem Dif.fin0 {t : Nat} {S S' : Store} {rho : Env} (h : Dif t S S') : finT S (.ok .next rho S') = .ok .non S' := by
  obtain ⟨a, rfl⟩ := h
  exact fin_next_set t _ (cloL_ints _ _)
theorem draw_tw {ns : List Int} {many : Int} {S : Store} {t n : Nat} (h63 : ns.length ≤ 63) (h : Twn t n S) (hn : n < 99990) (hm : 0 < many) : ∃ (r : Nat) (S' : Store), (r : Int) < many ∧ Twn t (n + 2) S' ∧ Dif t S S' ∧ FDraw [.scr ns, .loc t, .int many] S = .ok (.int r) S' := by
  obtain ⟨ts, h1, h2⟩ := h
  obtain ⟨r, ts', a, b, c, e⟩ := draw_ok ns ts many S t h2 h63 (by omega) hm
  refine ⟨r.toNat, _, ?_, ⟨ts', ?_, ?_⟩, ⟨ts', rfl⟩, ?_⟩
  · omega
  · omega
  · exact gs h2 _
  · rw [Int.toNat_of_nonneg a]
    exact e
/-! ### sorting -/
theorem ltR_tri : ∀ a b : List Int, ltR a b = false → ltR b a = false → a = b
  | [], [], _, _ => rfl
  | [], _ :: _, h, _ => by cases h
  | _ :: _, [], _, h => by cases h
  | x :: xs, y :: ys, h1, h2 => by
    rw [ltR, HT.lexLt_cons] at h1 h2
    by_cases e : x = y
    · subst e
      simp only [if_true] at h1 h2
      rw [ltR_tri xs ys h1 h2]
    · rw [if_neg e] at h1
      rw [if_neg (fun z => e z.symm)] at h2
      have := of_decide_eq_false h1
      have := of_decide_eq_false h2
      omega
theorem sortL_strict {α : Type} {lt : α → α → Bool} (O : SrtO.Swo lt) (tri : ∀ a b, lt a b = false → lt b a = false → a = b) {l : List α} (nd : l.Nodup) : (sortL lt l).Pairwise fun a b => lt a b = true := by
  have h1 : (sortL lt l).Pairwise fun a b => lt b a = false := sortL_srtd O l
  have h2 : (sortL lt l).Nodup := (sortL_perm l).nodup_iff.mpr nd
  refine (h1.and h2).imp fun {a b} h => ?_
  cases q : lt a b with
  | true => rfl
  | false => exact absurd (tri a b q h.1) h.2
theorem intsOf_row (r : List Int) (rs : List (List Int)) : intsOf ((r :: rs).map rowD) = none := rfl
theorem sortD_rows {S : Store} (rows : List (List Int)) (h : ∀ r ∈ rows, r ≠ []) : sortD [.lst (rows.map rowD)] S = some (.lst ((sortL ltR rows).map rowD)) := by
  cases rows with
  | nil => rfl
  | cons r rs =>
    show (match intsOf ((r :: rs).map rowD) with
      | some ns => some (D.lst ((sortL ltI ns).map D.int))
      | none => (rowsOf ((r :: rs).map rowD)).map fun rows => D.lst ((sortL ltR rows).map rowD)) = _
    rw [intsOf_row, rowsOf_map h]
    rfl
theorem sortD_ints {S : Store} (ns : List Int) : sortD [.lst (ns.map D.int)] S = some (.lst ((sortL ltI ns).map D.int)) := by
  show (match intsOf (ns.map D.int) with
    | some ns => some (D.lst ((sortL ltI ns).map D.int))
    | none => (rowsOf (ns.map D.int)).map fun rows => D.lst ((sortL ltR rows).map rowD)) = _
  rw [intsOf_map]
theorem cloL_rows (n : Nat) (rows : List (List Int)) : cloL n (rows.map rowD) = true := (cloL_iff n _).mpr fun d hd => by
  obtain ⟨r, _, rfl⟩ := List.mem_map.mp hd
  exact cloL_ints n r
/-! ### drawn rows -/
noncomputable def mRowsB : SM := (sSeq (sSet 7 (mCall tupD (mCons (mLc (mRng1 (mCons (mVar 2) mNil)) [8] (tgN 8) mYes (mApp 3 FDraw (mCons (mVar 0) (mCons (mVar 1) (mCons (mVar 4) mNil))))) mNil)))
    (sSet 5 (mBin addD (mVar 5) (mBin mulD (mLst (mCons (mVar 7) mNil)) (mCall intD (mCons (mBin ninD (mVar 7) (mVar 5)) mNil))))))
noncomputable def mRows : SM :=
    (sSeq (sSet 5 (mLst mNil))
    (sSeq (sFor (mRng1 (mCons (mApp 3 FDraw (mCons (mVar 0) (mCons (mVar 1) (mCons (mBin addD (mVar 3) (mC (.int 1))) mNil)))) mNil)) (tgN 6) mRowsB)
    (sRet (mCall tupD (mCons (mCall sortD (mCons (mVar 5) mNil)) mNil)))))
noncomputable def FRows : List D → Store → R D := runT 9 mRows
/-- a row of such width, of numbers below -/
def Row (width : Nat) (far : Int) (r : List Int) : Prop := r.length = width ∧ ∀ x ∈ r, 0 ≤ x ∧ x < far
theorem rowsB_ok {ns : List Int} {t n width : Nat} {most far : Int} {S : Store} {rows : List (List Int)} (h63 : ns.length ≤ 63) (hw : width ≤ 1000) (hf : 0 < far) (ht : Twn t n S) (hn : n + 2 * width < 99000) (hr : rows.length < 90000) (y6 y7 y8 : Option D) :
    ∃ (row : List Int) (S' : Store) (y7' y8' : Option D), Row width far row ∧ Twn t (n + 2 * width) S' ∧ Dif t S S' ∧
    mRowsB [some (.scr ns), some (.loc t), some (.int width), some (.int most), some (.int far), some (.lst (rows.map rowD)), y6, y7, y8] S =
      .ok .next [some (.scr ns), some (.loc t), some (.int width), some (.int most), some (.int far), some (.lst ((if row ∈ rows then rows else rows ++ [row]).map rowD)), y6, y7', y8'] S' := by
  obtain ⟨ys, S', e, row, h0, h1, h2, h3, h4⟩ := lc_inv (gm := tgN 8) (te := mApp 3 FDraw (mCons (mVar 0) (mCons (mVar 1) (mCons (mVar 4) mNil))))
    (r0 := [some (.scr ns), some (.loc t), some (.int width), some (.int most), some (.int far), some (.lst (rows.map rowD)), y6, y7, none])
    (fun i zs S' => ∃ row : List Int, i ≤ width ∧ zs = row.map D.int ∧ Row i far row ∧ Twn t (n + 2 * i) S' ∧ Dif t S S') (rng 0 width) 0 [] S (fun i d zs S1 hd hi => by
      obtain ⟨hi2, rfl⟩ := rng_get hd
      obtain ⟨row, h0, h1, h2, h3, h4⟩ := hi
      obtain ⟨x, S2, a, b, c, e⟩ := draw_tw h63 h3 (by omega) hf
      refine ⟨_, .int x, S2, rfl, ?_, row ++ [(x : Int)], by omega, ?_, ⟨?_, ?_⟩, b.mono (by omega), h4.trans c⟩
      · simp
        exact e
      · rw [h1]; simp
      · simp [h2.1]
      · intro z hz
        rw [List.mem_append] at hz
        rcases hz with hz | hz
        · exact h2.2 z hz
        · rw [List.mem_singleton] at hz
          subst hz
          omega) ⟨[], Nat.zero_le _, rfl, ⟨rfl, by intro x hx; cases hx⟩, ht.mono (by omega), ht.dif⟩
  rw [rng_len, Nat.zero_add] at h0 h2 h3
  have hin : inO (rowD row) (.lst (rows.map rowD)) = some (decide (row ∈ rows)) := by
    rw [inO_pl (k := 1) (pl_rowD 0 row) (pl_rows 0 rows) (by decide)]
    congr 1
    exact decide_eq_decide.mpr mem_rowD
  have hnin : ninD (rowD row) (.lst (rows.map rowD)) S' = some (.bl (!decide (row ∈ rows))) := by
    show (inO (rowD row) (.lst (rows.map rowD))).map (fun k => D.bl (!k)) = _
    rw [hin]
    rfl
  have hys : ys = row.map D.int := by simpa using h1
  subst hys
  refine ⟨row, S', some (rowD row), y8, h2, h3, h4, ?_⟩
  have hw' : -100000 ≤ (width : Int) ∧ (width : Int) ≤ 100000 := by omega
  have hr' : rows.length ≤ 100000 := by omega
  have hr2 : rows.length + 1 ≤ 100000 := by omega
  unfold mRowsB
  have e' : D.tup (row.map D.int) = rowD row := rfl
  by_cases hm : row ∈ rows
  · simp [hw', e, e', hnin, hm, hr']
  · simp [hw', e, e', hnin, hm, hr', hr2]
theorem rows_ok {ns : List Int} {t n width most : Nat} {far : Int} {S : Store} (h63 : ns.length ≤ 63) (hw0 : 0 < width) (hw : width ≤ 1000) (hf : 0 < far) (ht : Twn t n S) (hn : n + 2 + 2 * width * most < 99000) (hr : most < 90000) :
    ∃ (rows : List (List Int)) (S' : Store), rows.length ≤ most ∧ (∀ r ∈ rows, Row width far r) ∧ (rows.Pairwise fun a b => ltR a b = true) ∧ Twn t (n + 2 + 2 * width * most) S' ∧ Dif t S S' ∧
    FRows [.scr ns, .loc t, .int width, .int most, .int far] S = .ok (.tup (rows.map rowD)) S' := by
  obtain ⟨m, S1, hm, t1, d1, e1⟩ := draw_tw (many := (most : Int) + 1) h63 ht (by omega) (by omega)
  have hmm : m ≤ most := by omega
  obtain ⟨r', S', e, rows, y6, y7, y8, rfl, h0, h1, h2, h3, h4⟩ := loop_inv (gm := tgN 6) (b := mRowsB)
    (fun i r S' => ∃ (rows : List (List Int)) (y6 y7 y8 : Option D), r = [some (.scr ns), some (.loc t), some (.int width), some (.int most), some (.int far), some (.lst (rows.map rowD)), y6, y7, y8] ∧
      rows.length ≤ i ∧ rows.Nodup ∧ (∀ r ∈ rows, Row width far r) ∧ Twn t (n + 2 + 2 * width * i) S' ∧ Dif t S S') (rng 0 m) 0 [some (.scr ns), some (.loc t), some (.int width), some (.int most), some (.int far), some (.lst (([] : List (List Int)).map rowD)), none, none, none] S1 (fun i d r S2 hd hi => by
      obtain ⟨hi2, rfl⟩ := rng_get hd
      obtain ⟨rows, y6, y7, y8, rfl, h0, h1, h2, h3, h4⟩ := hi
      have hle : 2 * width * (0 + i + 1) ≤ 2 * width * most := Nat.mul_le_mul_left _ (by omega)
      have hsu : 2 * width * (0 + i + 1) = 2 * width * (0 + i) + 2 * width := Nat.mul_succ _ _
      obtain ⟨row, S3, y7', y8', a, b, c, e⟩ := rowsB_ok (most := (most : Int)) h63 hw hf h3 (by omega) (show rows.length < 90000 by omega) (some (.int (0 + (i : Int)))) y7 y8
      refine ⟨_, _, S3, rfl, .inl e, (if row ∈ rows then rows else rows ++ [row]), _, _, _, rfl, ?_, ?_, ?_, b.mono (by omega), h4.trans c⟩
      · split
        · omega
        · rw [List.length_append, List.length_singleton]; omega
      · split
        · exact h1
        · rename_i q
          rw [List.nodup_append]
          refine ⟨h1, by simp, fun x hx y hy => ?_⟩
          rw [List.mem_singleton] at hy
          subst hy
          intro e
          subst e
          exact q hx
      · intro z hz
        split at hz
        · exact h2 z hz
        · rw [List.mem_append] at hz
          rcases hz with hz | hz
          · exact h2 z hz
          · rw [List.mem_singleton] at hz
            subst hz
            exact a) ⟨[], none, none, none, rfl, Nat.zero_le _, List.nodup_nil, (by intro x hx; cases hx), t1.mono (by omega), d1⟩
  rw [rng_len, Nat.zero_add] at h0 h3
  have hle : 2 * width * m ≤ 2 * width * most := Nat.mul_le_mul_left _ hmm
  have hne : ∀ r ∈ rows, r ≠ [] := fun r hr e => by
    have := (h2 r hr).1
    rw [e, List.length_nil] at this
    omega
  refine ⟨sortL ltR rows, S', by rw [sortL_len]; omega, fun r hr => h2 r ((sortL_perm rows).mem_iff.mp hr), sortL_strict ltR_swo ltR_tri h1, h3.mono (by omega), h4, ?_⟩
  show finT S (mRows (frame 9 _) S) = _
  have hmr : -100000 ≤ (m : Int) ∧ (m : Int) ≤ 100000 := by omega
  have ef : frame 9 [.scr ns, .loc t, .int width, .int most, .int far] = [some (.scr ns), some (.loc t), some (.int width), some (.int most), some (.int far), none, none, none, none] := rfl
  have eb : ∃ rho, mRows (frame 9 [.scr ns, .loc t, .int width, .int most, .int far]) S = .ok (.ret (.tup ((sortL ltR rows).map rowD))) rho S' := by
    rw [ef]
    unfold mRows
    simp only [List.map_nil] at e
    simp [e1, hmr, e, sortD_rows rows hne]
  obtain ⟨rho, eb⟩ := eb
  rw [eb]
  refine h4.fin ?_
  show cloL _ _ = true
  exact cloL_rows _ _
end Dv
/-! first_at -/
namespace Dv
open PySem L2
def mFirstC : BM := (mT (mBin ltD (mVar 3) (mVar 4)))
def mFirstB : SM := (sSeq (sSet 5 (mBin fdivD (mBin addD (mVar 3) (mVar 4)) (mC (.int 2))))
    (sIf (mT (mBin ltD (mBin ixD (mVar 0) (mVar 5)) (mVar 2))) (sSet 3 (mBin addD (mVar 5) (mC (.int 1)))) (sSet 4 (mVar 5))))
def mFirst (fu : Nat) : SM :=
    (sSeq (sPar 3 4 (mCons (mVar 1) (mCons (mCall lenD (mCons (mVar 0) mNil)) mNil)))
    (sSeq (sWhile mFirstC mFirstB fu)
    (sRet (mVar 3))))
noncomputable def FFirst (fu : Nat) : List D → Store → R D := runT 6 (mFirst fu)
theorem first_loop {seq : D} {row : List Int} {S : Store} {b : Nat} {v : Int} (hix : ∀ i x, row[i]? = some x → ixD seq (.int (i : Nat)) S = some (.int x)) : ∀ (fu lo hi : Nat) (y5 : Option D), lo ≤ hi → hi ≤ row.length → b ≤ lo → hi - lo < fu → (∀ x, b < lo → row[lo - 1]? = some x → x < v) → (∀ x, row[hi]? = some x → v ≤ x) →
    ∃ (p : Nat) (y4 y5' : Option D), b ≤ p ∧ p ≤ row.length ∧ (∀ x, b < p → row[p - 1]? = some x → x < v) ∧ (∀ x, row[p]? = some x → v ≤ x) ∧
    sWhile mFirstC mFirstB fu [some seq, some (.int b), some (.int v), some (.int lo), some (.int hi), y5] S = .ok .next [some seq, some (.int b), some (.int v), some (.int p), y4, y5'] S
  | 0, lo, hi, y5, _, _, _, h, _, _ => by omega
  | fu + 1, lo, hi, y5, h1, h2, h3, h4, h5, h6 => by
    by_cases hlt : lo < hi
    · have e0 : ((lo : Int) + (hi : Int)) / 2 = ((lo + hi) / 2 : Nat) := by omega
      have hm : (lo + hi) / 2 < row.length := by omega
      have ex := hix ((lo + hi) / 2) _ (List.getElem?_eq_getElem hm)
      have ex' : ixD seq (D.int (((lo : Int) + (hi : Int)) / 2)) S = some (.int row[(lo + hi) / 2]) := by
        rw [e0]
        exact ex
      by_cases hx : row[(lo + hi) / 2] < v
      · obtain ⟨p, y4, y5', a1, a2, a3, a4, a5⟩ := first_loop (b := b) (v := v) hix fu ((lo + hi) / 2 + 1) hi (some (.int (((lo + hi) / 2 : Nat) : Int))) (by omega) h2 (by omega) (by omega) (fun x _ q => by
          rw [Nat.add_sub_cancel, List.getElem?_eq_getElem hm] at q
          cases q
          exact hx) h6
        refine ⟨p, y4, y5', a1, a2, a3, a4, ?_⟩
        rw [← a5]
        conv => lhs; unfold sWhile
        have e1 : (((lo + hi) / 2 : Nat) : Int) + 1 = (((lo + hi) / 2 + 1 : Nat) : Int) := by omega
        simp [mFirstC, mFirstB, hlt, ex', hx]
      · obtain ⟨p, y4, y5', a1, a2, a3, a4, a5⟩ := first_loop (b := b) (v := v) hix fu lo ((lo + hi) / 2) (some (.int (((lo + hi) / 2 : Nat) : Int))) (by omega) (by omega) h3 (by omega) h5 (fun x q => by
          rw [List.getElem?_eq_getElem hm] at q
          cases q
          omega)
        refine ⟨p, y4, y5', a1, a2, a3, a4, ?_⟩
        rw [← a5]
        conv => lhs; unfold sWhile
        simp [mFirstC, mFirstB, hlt, ex', hx]
    · have : hi = lo := by omega
      subst this
      refine ⟨hi, some (.int hi), y5, h3, h2, h5, h6, ?_⟩
      unfold sWhile
      simp [mFirstC]
theorem first_ok {seq : D} {row : List Int} {S : Store} {b fu : Nat} {v : Int} (hlen : lenD [seq] S = some (.int row.length)) (hix : ∀ i x, row[i]? = some x → ixD seq (.int (i : Nat)) S = some (.int x)) (hb : b ≤ row.length) (hfu : row.length < fu) :
    ∃ p : Nat, b ≤ p ∧ p ≤ row.length ∧ (∀ x, b < p → row[p - 1]? = some x → x < v) ∧ (∀ x, row[p]? = some x → v ≤ x) ∧ FFirst fu [seq, .int b, .int v] S = .ok (.int p) S := by
  obtain ⟨p, y4, y5', a1, a2, a3, a4, a5⟩ := first_loop (b := b) (v := v) hix fu b row.length none hb (Nat.le_refl _) (Nat.le_refl _) (by omega) (fun x h => by omega) (fun x h => by
    rw [List.getElem?_eq_none (Nat.le_refl _)] at h
    cases h)
  refine ⟨p, a1, a2, a3, a4, ?_⟩
  show finT S (mFirst fu (frame 6 _) S) = _
  have ef : frame 6 [seq, .int b, .int v] = [some seq, some (.int b), some (.int v), none, none, none] := rfl
  have eb : ∃ rho, mFirst fu (frame 6 [seq, .int b, .int v]) S = .ok (.ret (.int p)) rho S := by
    rw [ef]
    unfold mFirst
    simp [hlen, a5]
  obtain ⟨rho, eb⟩ := eb
  rw [eb]
  exact fin_ret0 rfl
end Dv
set_option maxHeartbeats 4000000
/-! set(xs) of a list, by whatever its loop does; sorted(set(xs)) -/
namespace Dv
open PySem PySem.Spec PyProof.Rows L2
abbrev nset (w : World) : Obj := { cls := .type "set", dict := none, data := .set #[] 0 (.fresh 0 0 (!w.params.followText "set-order")) }
abbrev liter (l : Addr) : Obj := { cls := .type "list_iterator", data := .fields #[.ref l, .int 0 0] }
section
variable {P : Program} {w : World} {A : Around} {E : Value → Shared → Prop} {s : Shared}
/-- what the loop has to leave: the set at its address, all else as it was -/
theorem set_of_list {l : Addr} {xs : Array Value} {Q : Value → Shared → Prop} (G : Heap → Prop) (hl : s.heap.IsList l xs)
    (lp : ∀ R : Result → Shared → Prop, (∀ h' tk, G h' → (∀ b o, s.heap.get? b = some o → h'.get? b = some o) → R (.ok (.ret .none)) { s with heap := h', toks := tk }) →
      ((s.heap.push (nset w)).push (liter l)).IsList l xs → codeAny (model P w) A.in1.in1 (.builtin "set.update.loop" ⟨[.ref s.heap.objs.size, .ref (s.heap.objs.size + 1)], []⟩) R { s with heap := (s.heap.push (nset w)).push (liter l) })
    (fin : ∀ h' tk, G h' → (∀ b o, s.heap.get? b = some o → h'.get? b = some o) → Q (.ref s.heap.objs.size) { s with heap := h', toks := tk }) : wpAny (model P w) A (call (.type "set") [.ref l]) Q E s := by
  obtain ⟨cc, tt, hmro⟩ := F.called_set.mro
  have k1 := F.called_set.made
  have k2 := F.called_set.sub
  refine wpAny_call (codeAny_of_tree ?_)
  show wpAny _ _ (callAny (.type "set") _) _ _ _
  refine wpAny_pure ⟨Code.quiet_builtin _ (by decide +kernel), codeAny_builtin F.entry_type_call ?_⟩
  rw [Around.under_plain (weight_type_call_type "set" [.ref l] []) rfl]
  have k3 := F.called_set.notType
  have k4 := F.called_set.canCreate
  have k5 := F.typeCall_set_1 (.ref l)
  repeat (any_goals (first | assumption | wp_step))
  have e0 : (s.heap.push (nset w)).get? s.heap.objs.size = some (nset w) := Heap.get?_push_size _ rfl
  refine codeAny_mono (code_set_led1 (.ref l) (E := E) (Q₁ := fun v u => v = .ref s.heap.objs.size ∧ u = { s with heap := s.heap.push (nset w) }) ⟨rfl, rfl⟩) fun r u hr => ?_
  cases r with
  | error e => exact hr
  | ok fl =>
    cases fl with
    | ret obj =>
      obtain ⟨rfl, rfl⟩ := hr
      have ty : Shared.TypeIs { s with heap := s.heap.push (nset w) } (.ref s.heap.objs.size) "set" := ⟨_, e0, rfl⟩
      have k6 := F.called_set.init.lookup
      have k7 := F.called_set.init.bind (.ref s.heap.objs.size)
      repeat (any_goals (first | assumption | wp_step))
      refine codeAny_mono (codeAny_call_builtin (R := wants (fun r u => r = .none ∧ ∃ h' tk, u = { s with heap := h', toks := tk } ∧ G h' ∧ ∀ b o, s.heap.get? b = some o → h'.get? b = some o) E) F.called_set.init.plain F.entry_set_init (check_set_init_1 ty ?_)) fun r2 u2 hr2 => ?_
      · obtain ⟨ol, hol, hcl, nl, hdl⟩ := hl
        obtain ⟨ocls, odict, odata, oslots⟩ := ol
        simp only at hcl hdl
        subst hcl; subst hdl
        have there : (s.heap.push (nset w)).get? l = some { cls := .type "list", dict := odict, data := .seq xs nl, slots := oslots } := Heap.get?_push_of_some _ hol
        have k8 := F.sub_list_set
        have k9 := F.sub_list_frozenset
        have k10 : (Value.type "list" == Value.type "dict") = false := by decide
        have isl : (s.heap.push (nset w)).IsList l xs := ⟨_, there, rfl, nl, rfl⟩
        unfold Builtin.«set.__init__» noKeywords Builtin.Frozenset.updateFrom
        generalize hPI : pyIter = PI
        wp_walk
        subst hPI
        refine wpAny_pyIter_list isl ?_
        refine wpAny_bind (wpAny_runValue ?_)
        have sz : (s.heap.push (nset w)).objs.size = s.heap.objs.size + 1 := Heap.size_push ..
        rw [sz]
        refine lp _ (fun h' tk g k => ?_) (isl.push _)
        show wpAny _ _ _ _ _ _
        refine wpAny_pure ?_
        show wpAny _ _ (ret Value.none) _ _ _
        exact wpAny_pure ⟨rfl, h', tk, rfl, g, k⟩
      · cases r2 with
        | error e => exact hr2
        | ok f2 =>
          cases f2 with
          | ret r =>
            obtain ⟨rfl, h', tk, rfl, g, k⟩ := hr2
            repeat (any_goals (first | assumption | wp_step))
            exact fin h' tk g k
          | _ => exact hr2.elim
    | _ => exact hr.elim
/-- of ints -/
theorem set_of_ints {l : Addr} {xs : Array Value} (ns : List Int) {Q : Value → Shared → Prop} (hh : A.handled = none) (hl : s.heap.IsList l xs) (hi : IntsAre xs.toList ns) (hb : ns.length + 1 < scanBound)
    (fin : ∀ h' tk c, SetR w h' s.heap.objs.size (fun j => decide (j ∈ ns)) c → c ≤ ns.length → (∀ b o, s.heap.get? b = some o → h'.get? b = some o) → Q (.ref s.heap.objs.size) { s with heap := h', toks := tk }) : wpAny (model P w) A (call (.type "set") [.ref l]) Q E s := by
  have hsz : xs.size = ns.length := by
    have q := IntsAre.length hi
    rw [Array.length_toList] at q
    exact q
  have hlS : l < s.heap.objs.size := by
    obtain ⟨o, ho, _⟩ := hl
    exact Heap.lt_size ho
  refine set_of_list (fun h' => ∃ c, SetR w h' s.heap.objs.size (fun j => decide (j ∈ ns)) c ∧ c ≤ ns.length) hl (fun R hR isl => ?_) fun h' tk ⟨c, h1, h2⟩ k => fin h' tk c h1 h2 k
  have sz : (s.heap.push (nset w)).objs.size = s.heap.objs.size + 1 := Heap.size_push ..
  have hne : l ≠ s.heap.objs.size + 1 := Nat.ne_of_lt (Nat.lt_succ_of_lt hlS)
  have hnf : s.heap.objs.size ∉ [s.heap.objs.size + 1, l] := by
    simp only [List.mem_cons, List.not_mem_nil, or_false, not_or]
    exact ⟨Nat.ne_of_lt (Nat.lt_succ_self _), Nat.ne_of_gt hlS⟩
  have vals : ∀ (i : Nat) (v : Value), xs[i]? = some v → ∃ k t, ns[i]? = some k ∧ v = .int k t := fun i v hv => by
    have h1 : i < ns.length := by rw [← hsz]; exact (Array.getElem?_eq_some_iff.mp hv).1
    obtain ⟨t, e⟩ := PyProof.Rows.IntsAre.int_at hi i v (by rw [Array.getElem?_toList]; exact hv)
    refine ⟨ns[i], t, List.getElem?_eq_getElem h1, ?_⟩
    rw [e, List.getD_eq_getElem?_getD, List.getElem?_eq_getElem h1] <;> rfl
  have h3 : A.in1.in1.in1.handled = none := by simp [hh]
  have git : ((s.heap.push (nset w)).push (liter l)).get? (s.heap.objs.size + 1) = some (liter l) := by
    rw [← sz]
    exact Heap.get?_push_size _ rfl
  refine set_update_ints ((Walks.list h3 (s.heap.objs.size + 1) l hne xs).toS) s.heap.objs.size hnf ns hsz hb vals (xs.size - 0) 0 _ (by omega) (Nat.zero_le _) ⟨⟨_, git, rfl, rfl⟩, isl⟩ ⟨0, Nat.le_refl 0, setR_new_at (Heap.get?_push_of_some _ (Heap.get?_push_size _ rfl))⟩ fun s' c hm hc hS => ?_
  obtain ⟨h', g2, d', tk', os'⟩ := s'
  have eg : g2 = s.gens := hm.gens
  have ed : d' = s.drawn := hm.drawn
  have eo : os' = s.os := hm.os
  subst eg; subst ed; subst eo
  refine hR h' tk' ⟨c, hS, by omega⟩ fun b o e => ?_
  have hb0 : b < s.heap.objs.size := Heap.lt_size e
  exact hm.heap b o (by simp only [List.mem_cons, List.not_mem_nil, or_false, not_or]; exact ⟨Nat.ne_of_lt hb0, Nat.ne_of_lt (Nat.lt_succ_of_lt hb0)⟩) (Heap.get?_push_of_some _ (Heap.get?_push_of_some _ e))
end
end Dv
namespace Dv
open PySem PySem.Spec PyProof.Rows L2
section
variable {X : Cx}
def rSetI (K : PySem.W.Frag) (w : World) : List V → Hp → VK → Prop := fun vs H Q => ∃ (l : Addr) (ns : List Int), vs = [.ref l] ∧ SqL K H l (ns.map V.int) ∧ ns.length ≤ 1000 ∧ ∀ (a : Addr) (c : Nat), H a = none → c ≤ ns.length → Q (.ref a) (upd H a (SetO w a (fun j => decide (j ∈ ns)) c))
theorem cr_setI (hc : X.calm = true) : CallR X (.type "set") (rSetI X.K X.w) := by
  intro pins s σ H vs us Q I r h
  obtain ⟨l, ns, rfl, hl, hz, q⟩ := h
  rw [Vals.ref1 r]
  obtain ⟨its, rv, pl, _⟩ := I.list hl
  have hn : H s.heap.objs.size = none := I.hok.fresh (Nat.le_refl _)
  refine set_of_ints (P := X.prog) (w := X.w) ns (I.ok.hd hc) pl.isList (by simpa using ints_of_vals rv) (by unfold scanBound; omega) fun h' tk c R hcn k => ?_
  exact ⟨.ref s.heap.objs.size, upd H s.heap.objs.size (SetO X.w s.heap.objs.size (fun j => decide (j ∈ ns)) c), I.laid (t' := tk) k (Nat.le_refl _) (setO_new R), rfl, q _ c hn hcn⟩
/-- one call in the other -/
theorem j_callBT {Wx : WX} {ms : AM} {es : List Expr} {x y : Str} {p p' pos pos' : Pos} {e : Expr} {id id' : String} {r r' : List V → Hp → VK → Prop} {f : List D → Store → Option D} (hc' : CallR X (.builtin id') r') (hc : CallR X (.type id) r)
    (hf : POk X.K X.mg (fun vs H Q => r vs H fun v H1 => r' [v] H1 Q) f) (hg' : Gl X y) (hm' : X.mg y = none) (hv' : bootBuiltins y = some (.builtin id')) (hg : Gl X x) (hm : X.mg x = none) (hv : bootBuiltins x = some (.type id)) (ha : PA X (e :: es) (tDA X.K X.mg Wx ms))
    (hn' : y ≠ "__name__" := by decide) (hdb' : (y == ("__debug__" : Str)) = false := by decide) (hn : x ≠ "__name__" := by decide) (hdb : (x == ("__debug__" : Str)) = false := by decide)
    (he : starEach (e :: es) X.env = (false, eval e X.env) :: starEach es X.env := by rfl) (hpl : (backTo pos (starEach es X.env)).any (·.1) = false := by rfl) :
    PE X (.Call (.Name y p') [.Call (.Name x p) (e :: es) [] pos] [] pos') (tD X.K X.mg Wx (mCall f ms)) :=
  pe_imp (pe_callB hc' hg' hm' hv' (pa_cons (pe_callTy hc hg hm hv ha hn hdb he hpl) pa_nil) hn' hdb') fun g H Q h => tCB_of hf g H Q h
end
theorem strict_ext {α : Type} {lt : α → α → Bool} (O : SrtO.Swo lt) : ∀ {a b : List α}, (a.Pairwise fun x y => lt x y = true) → (b.Pairwise fun x y => lt x y = true) → (∀ x, x ∈ a ↔ x ∈ b) → a = b
  | [], [], _, _, _ => rfl
  | [], y :: ys, _, _, h => absurd ((h y).mpr List.mem_cons_self) (by intro h; cases h)
  | x :: xs, [], _, _, h => absurd ((h x).mp List.mem_cons_self) (by intro h; cases h)
  | x :: xs, y :: ys, h1, h2, h => by
    rw [List.pairwise_cons] at h1 h2
    have e : x = y := by
      have hx := (h x).mp List.mem_cons_self
      have hy := (h y).mpr List.mem_cons_self
      rcases List.mem_cons.mp hx with e | e
      · exact e
      · rcases List.mem_cons.mp hy with e2 | e2
        · exact e2.symm
        · have q1 := h2.1 x e
          have q2 := h1.1 y e2
          rw [O.asym _ _ q1] at q2
          cases q2
    subst e
    have nx : x ∉ xs := fun m => by
      have q := h1.1 x m
      rw [O.refl x] at q
      cases q
    have ny : x ∉ ys := fun m => by
      have q := h2.1 x m
      rw [O.refl x] at q
      cases q
    refine congrArg (x :: ·) (strict_ext O h1.2 h2.2 fun z => ?_)
    constructor
    · intro m
      rcases List.mem_cons.mp ((h z).mp (List.mem_cons_of_mem _ m)) with e | e
      · subst e
        exact absurd m nx
      · exact e
    · intro m
      rcases List.mem_cons.mp ((h z).mpr (List.mem_cons_of_mem _ m)) with e | e
      · subst e
        exact absurd m ny
      · exact e
theorem ltI_tri (a b : Int) (h1 : ltI a b = false) (h2 : ltI b a = false) : a = b := by
  have := of_decide_eq_false h1
  have := of_decide_eq_false h2
  omega
/-- each once -/
def dedL {α : Type} [DecidableEq α] : List α → List α
  | [] => []
  | x :: xs => if x ∈ dedL xs then dedL xs else x :: dedL xs
theorem mem_dedL {α : Type} [DecidableEq α] (z : α) : ∀ xs : List α, z ∈ dedL xs ↔ z ∈ xs
  | [] => Iff.rfl
  | x :: xs => by
    have ih := mem_dedL z xs
    unfold dedL
    split
    · rename_i h
      rw [ih, List.mem_cons]
      refine ⟨.inr, fun q => ?_⟩
      rcases q with rfl | q
      · exact (mem_dedL z xs).mp h
      · exact q
    · rw [List.mem_cons, List.mem_cons, ih]
theorem nodup_dedL {α : Type} [DecidableEq α] : ∀ xs : List α, (dedL xs).Nodup
  | [] => List.nodup_nil
  | x :: xs => by
    unfold dedL
    split
    · exact nodup_dedL xs
    · rename_i h
      exact List.nodup_cons.mpr ⟨h, nodup_dedL xs⟩
/-- sorted(set(xs)) -/
def ssI (ns : List Int) : List Int := sortL ltI (dedL ns)
theorem mem_ssI {z : Int} {ns : List Int} : z ∈ ssI ns ↔ z ∈ ns := by
  unfold ssI
  rw [(sortL_perm _).mem_iff, mem_dedL]
theorem ssI_strict (ns : List Int) : (ssI ns).Pairwise (· < ·) := (sortL_strict ltI_swo ltI_tri (nodup_dedL ns)).imp fun {x y} h => of_decide_eq_true h
theorem ssI_ext {a ns : List Int} (h : a.Pairwise (· < ·)) (m : ∀ z, z ∈ a ↔ z ∈ ns) : a = ssI ns :=
  strict_ext ltI_swo (h.imp fun {x y} h => decide_eq_true h) (sortL_strict ltI_swo ltI_tri (nodup_dedL ns)) fun z => by
    rw [m z]
    exact mem_ssI.symm
def sortSetD (ds : List D) (S : Store) : Option D := match ds with
  | [.lst xs] => match intsOf xs with
    | some ns => if ns.length < 64 then some (.lst ((ssI ns).map D.int)) else none
    | none => none
  | _ => none
theorem sortSetD_ints {S : Store} {ns : List Int} (h : ns.length < 64) : sortSetD [.lst (ns.map D.int)] S = some (.lst ((ssI ns).map D.int)) := by
  show (match intsOf (ns.map D.int) with
    | some ns => if ns.length < 64 then some (D.lst ((ssI ns).map D.int)) else none
    | none => none) = _
  rw [intsOf_map]
  exact if_pos h
theorem pok_sortSet {K : PySem.W.Frag} {mg : Str → Option Value} {w : World} : POk K mg (fun vs H Q => rSetI K w vs H fun v H1 => rSortedSet w [v] H1 Q) sortSetD := fun T S H vs ds d Q sim rep e k => by
  unfold sortSetD at e
  split at e
  · rename_i xs
    split at e
    · rename_i ns hi
      split at e
      · rename_i h64
        cases e
        have hx := intsOf_some hi
        subst hx
        cases rep with
        | cons r1 rt =>
          cases rt
          cases r1 with
          | @lst a vs' _ hH off rl =>
            have hv := rl.of_ints
            subst hv
            refine ⟨a, ns, rfl, .inl (.inl hH), by omega, fun p c hp hc => ⟨p, _, c, rfl, upd_same .., by omega, fun ms q hs hm hl hq => ?_⟩⟩
            have em : ms = ssI ns := ssI_ext hs fun z => by rw [hm z, decide_eq_true_eq]
            subst em
            have st1 := sim.stepNew (o := SetO w p (fun j => decide (j ∈ ns)) c) hp
            have sim1 := sim.new (o := SetO w p (fun j => decide (j ∈ ns)) c) hp (hlen_oth sim.hl fun xs => ⟨(by intro z; cases z), (by intro z; cases z), (by intro x z; cases z), (by intro x z; cases z)⟩)
            have hlen : (List.map V.int (ssI ns)).length ≤ sizeLine := by rw [List.length_map, hl, sizeLine_eq]; omega
            exact k _ (.ref q) (st1.trans (sim1.stepNew hq)) (sim1.new hq (hlen_lst sim1.hl hlen)) (.lst (upd_same ..) (sim1.off hq) (RepL.ints _))
      · cases e
    · cases e
  · cases e
end Dv
/-! lists that are made anew and may change -/
namespace Dv
open PySem L2
section
variable (K : PySem.W.Frag) (mg : Str → Option Value)
def POk2N (r : R2) (f : D → D → Store → Option (List D)) : Prop := ∀ T S H x y a b ds (Q : VK), Sim K mg T S H → Rep K T H x a → Rep K T H y b → f a b S = some ds →
  (∀ vs p, RepL K T H vs ds → vs.length ≤ sizeLine → H p = none → Q (.ref p) (upd H p (.lst vs))) → r x y H Q
def POkN (r : List V → Hp → VK → Prop) (f : List D → Store → Option (List D)) : Prop := ∀ T S H xs es ds (Q : VK), Sim K mg T S H → RepL K T H xs es → f es S = some ds →
  (∀ vs p, RepL K T H vs ds → vs.length ≤ sizeLine → H p = none → Q (.ref p) (upd H p (.lst vs))) → r xs H Q
end
def newO (o : Option (List D)) (S : Store) : R D := match o with
  | some ds => .ok (.loc S.length) (S ++ [.lst ds])
  | none => .bad
def mBinN (f : D → D → Store → Option (List D)) (ma mb : EM) : EM := fun r S => (ma r S).bind fun a S1 => (mb r S1).bind fun b S2 => newO (f a b S2) S2
def mCallN (f : List D → Store → Option (List D)) (ms : AM) : EM := fun r S => (ms r S).bind fun ds S1 => newO (f ds S1) S1
@[simp] theorem newO_some (ds : List D) (S : Store) : newO (some ds) S = .ok (.loc S.length) (S ++ [.lst ds]) := rfl
@[simp] theorem mBinN_ap {f : D → D → Store → Option (List D)} {ma mb : EM} {r : Env} {S : Store} : mBinN f ma mb r S = (ma r S).bind fun a S1 => (mb r S1).bind fun b S2 => newO (f a b S2) S2 := rfl
@[simp] theorem mCallN_ap {f : List D → Store → Option (List D)} {ms : AM} {r : Env} {S : Store} : mCallN f ms r S = (ms r S).bind fun ds S1 => newO (f ds S1) S1 := rfl
section
variable {X : Cx} {Wx : WX} {a b : Expr} {es : List Expr} {pos : Pos} {ma mb : EM} {ms : AM}
theorem newO_use {K : PySem.W.Frag} {mg : Str → Option Value} {T : Tb} {S : Store} {H : Hp} {g : St} {o : Option (List D)} {Q : VK} (sim : Sim K mg T S H) (h : Out K mg Wx (Rep K) T g H (newO o S) Q) : ∃ ds, o = some ds ∧ ∀ vs p, RepL K T H vs ds → vs.length ≤ sizeLine → H p = none → Q (.ref p) (upd H p (.lst vs)) := by
  cases o with
  | none => exact h.elim
  | some ds =>
    refine ⟨ds, rfl, fun vs p rl hz hp => ?_⟩
    have st : Step T H (T.add p) (upd H p (.lst vs)) := sim.stepAlloc hp
    exact h (T.add p) _ _ st (sim.alloc hp (hlen_lst sim.hl hz) ⟨vs, upd_same, rl.step st⟩) (.loc sim.newGet)
theorem j_binN {op : Operator} {r : R2} {f : D → D → Store → Option (List D)} (ho : OpR X (binaryOp op) r) (hf : POk2N X.K X.mg r f) (ha : PE X a (tD X.K X.mg Wx ma)) (hb : PE X b (tD X.K X.mg Wx mb)) : PE X (.BinOp a op b pos) (tD X.K X.mg Wx (mBinN f ma mb)) := by
  refine pe_imp (pe_op ho ha hb) fun g H Q h => ?_
  obtain ⟨T, r, S, rs, sim, h⟩ := h
  refine ⟨T, r, S, rs, sim, Out.bind h fun x S1 T1 H1 v st sim1 rel h1 => ?_⟩
  refine ⟨T1, r, S1, rs.step st, sim1, Out.bind h1 fun y S2 T2 H2 w st2 sim2 rel2 h2 => ?_⟩
  obtain ⟨ds, e, k⟩ := newO_use sim2 h2
  exact hf T2 S2 H2 v w x y ds Q sim2 (rel.step st2) rel2 e k
theorem j_callTN {x : Str} {p : Pos} {e : Expr} {id : String} {r : List V → Hp → VK → Prop} {f : List D → Store → Option (List D)} (hc : CallR X (.type id) r) (hf : POkN X.K X.mg r f) (hg : Gl X x) (hm : X.mg x = none) (hv : bootBuiltins x = some (.type id)) (ha : PA X (e :: es) (tDA X.K X.mg Wx ms))
    (hn : x ≠ "__name__" := by decide) (hdb : (x == ("__debug__" : Str)) = false := by decide) (he : starEach (e :: es) X.env = (false, eval e X.env) :: starEach es X.env := by rfl) (hpl : (backTo pos (starEach es X.env)).any (·.1) = false := by rfl) :
    PE X (.Call (.Name x p) (e :: es) [] pos) (tD X.K X.mg Wx (mCallN f ms)) := pe_imp (pe_callTy hc hg hm hv ha hn hdb he hpl) fun g H Q h => by
  obtain ⟨T, r, S, rs, sim, h⟩ := h
  refine ⟨T, r, S, rs, sim, Out.bind h fun x S1 T1 H1 v st sim1 rel h1 => ?_⟩
  obtain ⟨ds, e, k⟩ := newO_use sim1 h1
  exact hf T1 S1 H1 v x ds Q sim1 rel e k
end
/-- what a list holds -/
def lstAt (d : D) (S : Store) : Option (List D) := match d with
  | .lst xs => some xs
  | .loc n => match S[n]? with
    | some (.lst xs) => some xs
    | _ => none
  | _ => none
@[simp] theorem lstAt_lst (xs : List D) (S : Store) : lstAt (.lst xs) S = some xs := rfl
@[simp] theorem lstAt_loc (n : Nat) (S : Store) : lstAt (.loc n) S = (match S[n]? with
    | some (.lst xs) => some xs
    | _ => none) := rfl
section
variable {K : PySem.W.Frag} {mg : Str → Option Value} {T : Tb} {S : Store} {H : Hp}
theorem lstAt_rep {v : V} {d : D} {ds : List D} (sim : Sim K mg T S H) (r : Rep K T H v d) (e : lstAt d S = some ds) : ∃ a xs, v = .ref a ∧ H a = some (.lst xs) ∧ RepL K T H xs ds ∧ xs.length ≤ sizeLine := by
  cases r with
  | lst h n r =>
    cases e
    exact ⟨_, _, rfl, h, r, sim.hl _ _ (.inl (.inl h))⟩
  | @loc a n h =>
    simp only [lstAt] at e
    split at e
    · rename_i ys hs
      cases e
      obtain ⟨xs, h1, h2⟩ := sim.obj n a _ h hs
      exact ⟨a, xs, rfl, h1, h2, sim.hl _ _ (.inl (.inl h1))⟩
    · cases e
  | _ => cases e
end
def catN (a b : D) (S : Store) : Option (List D) := match lstAt a S, lstAt b S with
  | some xs, some ys => if xs.length + ys.length ≤ 100000 then some (xs ++ ys) else none
  | _, _ => none
def repN (a b : D) (S : Store) : Option (List D) := match lstAt a S, b with
  | some xs, .int k => if -100000 ≤ k ∧ k ≤ 100000 ∧ xs.length * k.toNat ≤ 100000 then some (List.replicate k.toNat xs).flatten else none
  | _, _ => none
section
variable {K : PySem.W.Frag} {mg : Str → Option Value}
theorem pok_catN : POk2N K mg (rAddA K) catN := fun T S H x y a b ds Q sim rx ry e k => by
  unfold catN at e
  split at e
  · rename_i xs ys h1 h2
    split at e
    · rename_i hz
      cases e
      obtain ⟨p, us, rfl, hp, r1, _⟩ := lstAt_rep sim rx h1
      obtain ⟨q, vs, rfl, hq, r2, _⟩ := lstAt_rep sim ry h2
      have hz' : us.length + vs.length ≤ sizeLine := by rw [r1.length, r2.length]; exact sz5 hz
      exact .inr (.inr (.inr ⟨p, q, us, vs, rfl, rfl, hp, hq, hz', fun o ho => k _ o (RepL.append r1 r2) (by rw [List.length_append]; exact hz') ho⟩))
    · cases e
  · cases e
theorem pok_repN : POk2N K mg rMulA repN := fun T S H x y a b ds Q sim rx ry e k => by
  unfold repN at e
  split at e
  · rename_i xs j h1
    split at e
    · rename_i hz
      cases e
      obtain ⟨p, us, rfl, hp, r1, _⟩ := lstAt_rep sim rx h1
      cases ry
      have hz' : us.length * j.toNat ≤ sizeLine := by rw [r1.length]; exact sz5 hz.2.2
      exact .inr ⟨p, j, us, rfl, rfl, hp, by omega, by omega, hz', fun o ho => k _ o (r1.rep j.toNat) (by rw [flat_len]; exact hz') ho⟩
    · cases e
  · cases e
/-- a + b of lists, either of which may be one that changes -/
def addL (a b : D) (S : Store) : Option D := (catN a b S).map .lst
theorem pok_addL : POk2 K mg (rAddA K) addL := fun T S H x y a b d Q sim rx ry e k => by
  unfold addL at e
  cases q : catN a b S with
  | none => rw [q] at e; cases e
  | some ds =>
    rw [q] at e
    cases e
    refine pok_catN T S H x y a b ds Q sim rx ry q fun vs p rl hz hp => ?_
    have st := sim.stepNew (o := .lst vs) hp
    exact k _ _ st (sim.new hp (hlen_lst sim.hl hz)) (.lst upd_same (sim.off hp) (rl.step st))
/-- list(xs) -/
def lstN (ds : List D) (S : Store) : Option (List D) := match ds with
  | [.tup xs] => some xs
  | [d] => lstAt d S
  | _ => none
theorem pok_lstN : POkN K mg (fun xs H Q => ∃ p ys, xs = [.ref p] ∧ (SqL K H p ys ∨ SqT K H p ys) ∧ ∀ l, H l = none → Q (.ref l) (upd H l (.lst ys))) lstN := fun T S H vs es ds Q sim rep e k => by
  unfold lstN at e
  split at e
  · cases e
    obtain ⟨v, rfl, r⟩ := rep.one
    cases r with
    | tup h n r => exact ⟨_, _, rfl, .inr (SqT.of h), fun l hl => k _ l r (sim.hl _ _ (.inr (.inl h))) hl⟩
  · obtain ⟨v, rfl, r⟩ := rep.one
    obtain ⟨p, us, rfl, hp, r1, hz⟩ := lstAt_rep sim r e
    exact ⟨p, us, rfl, .inl (SqL.of hp), fun l hl => k _ l r1 hz hl⟩
  · cases e
theorem fn_bad {P : Program} {w : World} {base : Heap} {CX : CXT} {k : Nat} {f : Addr} {fd : FuncData} {ps : List Str} : FnOk P w K mg base CX k f fd ps (spD K mg ps.length fun _ _ => .bad) := by
  refine ⟨fun vs H Q E q => q.1, fun A outer s H args us vs Q E hr he hb hv hs => ?_⟩
  obtain ⟨hl, T, S, ds, rep, sim, out⟩ := hs
  exact out.elim
end
end Dv
/-! _law_same is equality -/
namespace Dv
open PySem L2
def mSame (self : List D → Store → R D) : SM :=
    (sSeq (sIf (mT (mBin isND (mVar 1) (mC .non))) (sRet (mBin isND (mVar 0) (mC .non))) sNil)
    (sSeq (sIf (mTru (mCall isiD (mCons (mVar 1) (mCons (mC (.ty "bool")) mNil)))) (sRet (mAnd (mCall isiD (mCons (mVar 0) (mCons (mC (.ty "bool")) mNil))) (mBin eqD (mVar 0) (mVar 1)))) sNil)
    (sSeq (sIf (mTru (mCall isiD (mCons (mVar 1) (mCons (mC (.ty "tuple")) mNil)))) (sSeq (sIf (mOrT (mNotT (mTru (mCall isiD (mCons (mVar 0) (mCons (mC (.ty "tuple")) mNil))))) (mT (mBin neD (mCall lenD (mCons (mVar 0) mNil)) (mCall lenD (mCons (mVar 1) mNil))))) (sRet (mC (.bl false))) sNil)
    (sRet (mCall allD (mCons (mLc (mZip (mCons (mVar 0) (mCons (mVar 1) mNil))) [2, 3] (tgT 2 (tgsCons (tgN 2) (tgsCons (tgN 3) tgsNil))) mYes (mApp 2 self (mCons (mVar 2) (mCons (mVar 3) mNil)))) mNil)))) sNil)
    (sSeq (sIf (mTru (mCall isiD (mCons (mVar 1) (mCons (mC (.ty "str")) mNil)))) (sRet (mAnd (mCall isiD (mCons (mVar 0) (mCons (mC (.ty "str")) mNil))) (mBin eqD (mVar 0) (mVar 1)))) sNil)
    (sRet (mAnd (mCall isiD (mCons (mVar 0) (mCons (mC (.ty "int")) mNil))) (mAnd (mNot (mCall isiD (mCons (mVar 0) (mCons (mC (.ty "bool")) mNil)))) (mBin eqD (mVar 0) (mVar 1)))))))))
noncomputable def FSame : Nat → List D → Store → R D
  | 0 => fun _ _ => .bad
  | n + 1 => runT 4 (mSame (FSame n))
/-- data of tuples, not deeper than so -/
def pt : Nat → D → Bool
  | _, .non => true
  | _, .bl _ => true
  | _, .int _ => true
  | _, .str _ => true
  | k + 1, .tup xs => xs.all (pt k)
  | _, _ => false
theorem same_zip {S : Store} (f : List D → Store → R D) (k : Nat) (ih : ∀ a b, pt k a = true → pt k b = true → f [a, b] S = .ok (.bl (decide (a = b))) S) (r0 : Env) (h0 : r0.length = 4) : ∀ xs ys : List D, xs.all (pt k) = true → ys.all (pt k) = true →
    lcL (tgT 2 (tgsCons (tgN 2) (tgsCons (tgN 3) tgsNil))) mYes (mApp 2 f (mCons (mVar 2) (mCons (mVar 3) mNil))) r0 (List.zipWith (fun a b => D.tup [a, b]) xs ys) S = .ok ((List.zipWith (fun a b => decide (a = b)) xs ys).map D.bl) S
  | [], _, _, _ => by simp [lcL]
  | x :: xs, [], _, _ => by simp [lcL]
  | x :: xs, y :: ys, h1, h2 => by
    rw [List.all_cons, Bool.and_eq_true] at h1 h2
    rw [List.zipWith_cons_cons, lcL_cons]
    have e := same_zip f k ih r0 h0 xs ys h1.2 h2.2
    have e2 := ih x y h1.1 h2.1
    simp [h0, e, e2]
theorem zip_all : ∀ xs ys : List D, xs.length = ys.length → ((List.zipWith (fun a b => decide (a = b)) xs ys).all id) = decide (xs = ys)
  | [], [], _ => by simp
  | x :: xs, y :: ys, h => by
    rw [List.zipWith_cons_cons, List.all_cons, zip_all xs ys (by simpa using h)]
    by_cases e : x = y
    · subst e; simp
    · simp [e]
theorem same_ok {S : Store} : ∀ (n k : Nat), k < n → ∀ a b, pt k a = true → pt k b = true → FSame n [a, b] S = .ok (.bl (decide (a = b))) S
  | 0, k, h, _, _, _, _ => absurd h (Nat.not_lt_zero _)
  | n + 1, k, h, a, b, ha, hb => by
    have eb : ∃ rho, mSame (FSame n) (frame 4 [a, b]) S = .ok (.ret (.bl (decide (a = b)))) rho S := by
      rw [show frame 4 [a, b] = [some a, some b, none, none] from rfl]
      unfold mSame
      have i1 : ∀ d, pt k d = true → ∀ S, isiD [d, .ty "bool"] S = some (.bl (match d with | .bl _ => true | _ => false)) := fun d hd S => by
        cases d <;> first | rfl | (cases k <;> cases hd)
      have i2 : ∀ d, pt k d = true → ∀ S, isiD [d, .ty "tuple"] S = some (.bl (match d with | .tup _ => true | _ => false)) := fun d hd S => by
        cases d <;> first | rfl | (cases k <;> cases hd)
      have i3 : ∀ d, pt k d = true → ∀ S, isiD [d, .ty "str"] S = some (.bl (match d with | .str _ => true | _ => false)) := fun d hd S => by
        cases d <;> first | rfl | (cases k <;> cases hd)
      have i4 : ∀ d, pt k d = true → ∀ S, isiD [d, .ty "int"] S = some (.bl (match d with | .int _ => true | .bl _ => true | _ => false)) := fun d hd S => by
        cases d <;> first | rfl | (cases k <;> cases hd)
      have j1 : ∀ d, pt k d = true → ∀ S, isND d .non S = some (.bl (match d with | .non => true | _ => false)) := fun d hd S => by
        cases d <;> rfl
      have q1 : ∀ x y : Bool, ∀ S, eqD (.bl x) (.bl y) S = some (.bl (decide (x = y))) := fun _ _ _ => rfl
      have q2 : ∀ x y : Str, ∀ S, eqD (.str x) (.str y) S = some (.bl (decide (x = y))) := fun _ _ _ => rfl
      cases b with
      | tup ys =>
        cases a with
        | tup xs =>
          cases k with
          | zero => cases ha
          | succ k =>
            have z := same_zip (S := S) (FSame n) k (fun a b h1 h2 => same_ok n k (by omega) a b h1 h2) [some (.tup xs), some (.tup ys), none, none] rfl xs ys ha hb
            by_cases hl : xs.length = ys.length
            · have hz := zip_all xs ys hl
              have e1 : ((xs.length : Int) = (ys.length : Int)) := by rw [hl]
              have e2 : zipD [.tup xs, .tup ys] = some (List.zipWith (fun a b => D.tup [a, b]) xs ys) := rfl
              have e3 := allD_bls (S := S) (List.zipWith (fun a b => decide (a = b)) xs ys)
              simp [i1 _ ha, i1 _ hb, i2 _ ha, i2 _ hb, j1 _ hb, e1, e2, z, e3, hz, -List.map_zipWith]
            · have e1 : ¬ ((xs.length : Int) = (ys.length : Int)) := by omega
              have e2 : ¬ xs = ys := fun e => hl (by rw [e])
              simp [i1 _ ha, i1 _ hb, i2 _ ha, i2 _ hb, j1 _ hb, e1, e2]
        | _ => simp [i1 _ ha, i1 _ hb, i2 _ ha, i2 _ hb, j1 _ hb]
      | _ => cases a <;> simp [i1 _ ha, i1 _ hb, i2 _ ha, i2 _ hb, i3 _ ha, i3 _ hb, i4 _ ha, j1 _ hb, j1 _ ha, q1, q2] <;> (first | done | (cases k <;> cases hb) | (cases k <;> cases ha))
    obtain ⟨rho, eb⟩ := eb
    show finT S (mSame (FSame n) (frame 4 _) S) = _
    rw [eb]
    exact fin_ret0 rfl
theorem pt_rowD (k : Nat) (ns : List Int) : pt (k + 1) (rowD ns) = true := by
  show (ns.map D.int).all (pt k) = true
  rw [List.all_map, List.all_eq_true]
  intro n _
  cases k <;> rfl
theorem pt_rows (k : Nat) (rows : List (List Int)) : pt (k + 2) (.tup (rows.map rowD)) = true := by
  show (rows.map rowD).all (pt (k + 1)) = true
  rw [List.all_map, List.all_eq_true]
  intro n _
  exact pt_rowD k n
end Dv
namespace Dv
open PySem L2
noncomputable def mPick : SM := (sRet (mBin ixD (mVar 2) (mApp 3 FDraw (mCons (mVar 0) (mCons (mVar 1) (mCons (mCall lenD (mCons (mVar 2) mNil)) mNil))))))
noncomputable def FPick : List D → Store → R D := runT 3 mPick
theorem pick_tw {ns : List Int} {S : Store} {t n : Nat} {seq : D} {xs : List D} (h63 : ns.length ≤ 63) (h : Twn t n S) (hn : n < 99990) (hs : seq = .lst xs ∨ seq = .tup xs) (hne : xs ≠ []) (hc : ∀ m, cloL m xs = true) : ∃ (i : Nat) (d : D) (S' : Store), xs[i]? = some d ∧ Twn t (n + 2) S' ∧ Dif t S S' ∧ FPick [.scr ns, .loc t, seq] S = .ok d S' := by
  have hl : 0 < xs.length := List.length_pos_iff.mpr hne
  obtain ⟨r, S', a, b, c, e⟩ := draw_tw (many := (xs.length : Int)) h63 h hn (by omega)
  have hr : r < xs.length := by omega
  refine ⟨r, xs[r], S', List.getElem?_eq_getElem hr, b, c, ?_⟩
  have eb : ∃ rho, mPick (frame 3 [.scr ns, .loc t, seq]) S = .ok (.ret xs[r]) rho S' := by
    rw [show frame 3 [.scr ns, .loc t, seq] = [some (.scr ns), some (.loc t), some seq] from rfl]
    unfold mPick
    have ea : atI xs (r : Int) = some xs[r] := atI_nat (List.getElem?_eq_getElem hr)
    rcases hs with rfl | rfl
    · simp [e, ea]
    · simp [e, ea]
  obtain ⟨rho, eb⟩ := eb
  show finT S (mPick (frame 3 _) S) = _
  rw [eb]
  exact c.fin ((cloL_iff _ _).mp (hc _) _ (List.getElem_mem hr))
/-- a loop that may return -/
theorem loop_ret {gm : D → Env → Option Env} {b : SM} (I : Nat → Env → Store → Prop) (Rt : D → Env → Store → Prop) : ∀ (ds : List D) (k : Nat) (r : Env) (S : Store),
    (∀ i d r S, ds[i]? = some d → I (k + i) r S → ∃ r1, gm d r = some r1 ∧ ((∃ r2 S2, b r1 S = .ok .next r2 S2 ∧ I (k + i + 1) r2 S2) ∨ ∃ x r2 S2, b r1 S = .ok (.ret x) r2 S2 ∧ Rt x r2 S2)) →
    I k r S → (∃ r' S', sLoop gm b ds r S = .ok .next r' S' ∧ I (k + ds.length) r' S') ∨ ∃ x r' S', sLoop gm b ds r S = .ok (.ret x) r' S' ∧ Rt x r' S'
  | [], k, r, S, _, h => .inl ⟨r, S, rfl, h⟩
  | d :: ds, k, r, S, st, h => by
    obtain ⟨r1, e1, e2⟩ := st 0 d r S rfl h
    rw [sLoop_cons, e1]
    rcases e2 with ⟨r2, S2, e2, h2⟩ | ⟨x, r2, S2, e2, h2⟩
    · have := loop_ret I Rt ds (k + 1) r2 S2 (fun i d' r S q h => by
        have := st (i + 1) d' r S q
        rw [show k + (i + 1) = k + 1 + i by omega] at this
        exact this h) h2
      simp only [e2]
      rw [List.length_cons, show k + (ds.length + 1) = k + 1 + ds.length by omega]
      exact this
    · simp only [e2]
      exact .inr ⟨x, r2, S2, rfl, h2⟩
/-- the store but for the town, and what is new -/
structure Tq (S S1 : Store) : Prop where
  len : S.length ≤ S1.length
  oth : ∀ i, i < S.length → i ≠ 0 → S1[i]? = S[i]?
theorem Tq.fin {S S1 : Store} {n : Nat} {rho : Env} {d : D} (h0 : 0 < S.length) (h : Tq S S1) (tw : Twn 0 n S1) (hd : clo S.length d = true) : ∃ S', finT S (.ok (.ret d) rho S1) = .ok d S' ∧ Twn 0 n S' ∧ Dif 0 S S' := by
  obtain ⟨ts, t1, t2⟩ := tw
  have tr : Tr S S1 := by
    refine ⟨h.len, fun i o hi e => ?_⟩
    by_cases e0 : i = 0
    · subst e0
      rw [t2] at e
      cases e
      exact .inr (cloL_ints _ _)
    · rw [h.oth i hi e0] at e
      exact .inl e
  have et : S1.take S.length = List.set S 0 (.lst (ts.map D.int)) := by
    refine List.ext_getElem? fun i => ?_
    by_cases hi : i < S.length
    · rw [List.getElem?_take_of_lt hi]
      by_cases e0 : i = 0
      · subst e0
        rw [t2, List.getElem?_set_self hi]
      · rw [h.oth i hi e0, List.getElem?_set_ne (fun e => e0 e.symm)]
    · rw [List.getElem?_eq_none (by rw [List.length_take]; omega), List.getElem?_eq_none (by rw [List.length_set]; omega)]
  refine ⟨_, ?_, ⟨ts, t1, ?_⟩, ⟨ts, et⟩⟩
  · rw [finT_ret tr (fz_clo hd)]
  · rw [et]
    exact List.getElem?_set_self h0
theorem eqv_self {d : D} (h : okD d = true) : eqvD d d = true := by
  unfold okD SeqAt.shaped at h
  rw [Bool.and_eq_true, Bool.and_eq_true] at h
  exact SeqAt.eqv_refl _ h.2.1
end Dv
/-! xs.remove(k), xs.pop(i), list(range(n)) -/
namespace Dv
open PySem PySem.Spec PyProof.Rows L2
def remI (k : Int) : List Int → Option (List Int)
  | [] => none
  | n :: ns => if n = k then some ns else (remI k ns).map (n :: ·)
theorem remI_some {k : Int} : ∀ {ns ms : List Int}, remI k ns = some ms → ∃ j, ns[j]? = some k ∧ (∀ m : Nat, m < j → ns[m]? ≠ some k) ∧ ns.eraseIdx j = ms
  | [], ms, h => by cases h
  | n :: ns, ms, h => by
    unfold remI at h
    by_cases e : n = k
    · rw [if_pos e] at h
      cases h
      exact ⟨0, by rw [e]; rfl, fun m hm => absurd hm (Nat.not_lt_zero _), rfl⟩
    · rw [if_neg e] at h
      obtain ⟨r, h1, h2⟩ := Option.map_eq_some_iff.mp h
      obtain ⟨j, q1, q2, q3⟩ := remI_some h1
      refine ⟨j + 1, q1, fun m hm => ?_, by rw [← h2, ← q3]; rfl⟩
      cases m with
      | zero =>
        intro z
        exact e (Option.some.inj z)
      | succ m => exact q2 m (by omega)
def remD (o d : D) (S : Store) : R D := match o, d with
  | .loc n, .int k => match S[n]? with
    | some (.lst xs) => match (intsOf xs).bind (remI k) with
      | some ms => .ok .non (List.set S n (.lst (ms.map D.int)))
      | none => .bad
    | _ => .bad
  | _, _ => .bad
def mRemove (mo m : EM) : EM := fun r S => (mo r S).bind fun o S1 => if isLoc o S1 = true then (m r S1).bind fun d S2 => remD o d S2 else .bad
def popAtD (o d : D) (S : Store) : R D := match o, d with
  | .loc n, .int i => match S[n]? with
    | some (.lst xs) => if 0 ≤ i ∧ i < 100000 then (match xs[i.toNat]? with
      | some y => .ok y (List.set S n (.lst (xs.eraseIdx i.toNat)))
      | none => .bad) else .bad
    | _ => .bad
  | _, _ => .bad
def mPopAt (mo m : EM) : EM := fun r S => (mo r S).bind fun o S1 => if isLoc o S1 = true then (m r S1).bind fun d S2 => popAtD o d S2 else .bad
theorem RepL.eraseIdx {K : PySem.W.Frag} {T : Tb} {H : Hp} : ∀ {vs : List V} {ds : List D} (j : Nat), RepL K T H vs ds → RepL K T H (vs.eraseIdx j) (ds.eraseIdx j)
  | _, _, _, .nil => .nil
  | _, _, 0, .cons a b => b
  | _, _, j + 1, .cons a b => .cons a (RepL.eraseIdx j b)
section
variable {X : Cx} {Wx : WX} {o e : Expr} {apos pos : Pos} {mo m : EM}
theorem j_remove (ho : PE X o (tD X.K X.mg Wx mo)) (ha : PE X e (tD X.K X.mg Wx m)) (hbase : attributeBase o "remove" X.env (eval o X.env) = eval o X.env := by rfl)
    (hfew : ((backTo pos (starEach [e] X.env)).all (fun x => !x.1) && (backToKw pos (keywordEach [] X.env)).all (fun x => x.1.isSome) && decide (([e] : List Expr).length + ([] : List Keyword).length + (if ([] : List Keyword).isEmpty then 0 else 1) < 30)) = true := by rfl)
    (hline : (apos.endLine == pos.line) = true := by rfl) (hs : starEach [e] X.env = (false, eval e X.env) :: starEach [] X.env := by rfl) (hplain : (backTo pos (starEach [] X.env)).any (·.1) = false := by rfl) :
    PE X (.Call (.Attribute o "remove" apos) [e] [] pos) (tD X.K X.mg Wx (mRemove mo m)) :=
  pe_imp (pe_bm PySem.F.plainAttrs_list PySem.F.slot_list_remove PySem.F.type_list_remove mt_remove ho (pa_cons ha pa_nil hs) hbase hfew hline hs hplain) fun g H Q h => by
    obtain ⟨T, r, S, rs, sim, h⟩ := h
    refine ⟨T, r, S, rs, sim, Out.bind h fun d S1 T1 H1 v st sim1 rel h1 => ?_⟩
    split at h1
    · rename_i hl
      refine ⟨isLoc_ty sim1 rel hl, T1, r, S1, rs.step st, sim1, Out.bind h1 fun y S2 T2 H2 w st2 sim2 rel2 h2 => ?_⟩
      unfold remD at h2
      split at h2
      · rename_i n k
        split at h2
        · rename_i xs q
          split at h2
          · rename_i ms em
            obtain ⟨ns, hi, hr⟩ := Option.bind_eq_some_iff.mp em
            have hx := intsOf_some hi
            subst hx
            obtain ⟨a, rfl, hn, ys, q1, q2⟩ := loc_of sim2 (rel.step st2) q
            have hy := q2.of_ints
            subst hy
            cases rel2
            obtain ⟨j, j1, j2, j3⟩ := remI_some hr
            have hz0 := sim2.hl a _ (.inl (.inl q1))
            rw [List.length_map] at hz0
            have hz : (ms.map V.int).length ≤ sizeLine := by
              rw [List.length_map, ← j3]
              exact Nat.le_trans (List.length_eraseIdx_le ns j) hz0
            obtain ⟨st3, sim3⟩ := lst_set (xs := ms.map V.int) (ds := ms.map D.int) sim2 hn hz (RepL.ints ms)
            refine ⟨a, ns, k, j, rfl, rfl, q1, j1, j2, ?_⟩
            rw [j3]
            exact h2 T2 _ _ st3 sim3 .non
          · exact h2.elim
        · exact h2.elim
      · exact h2.elim
    · exact h1.elim
theorem j_popAt (ho : PE X o (tD X.K X.mg Wx mo)) (ha : PE X e (tD X.K X.mg Wx m)) (hbase : attributeBase o "pop" X.env (eval o X.env) = eval o X.env := by rfl)
    (hfew : ((backTo pos (starEach [e] X.env)).all (fun x => !x.1) && (backToKw pos (keywordEach [] X.env)).all (fun x => x.1.isSome) && decide (([e] : List Expr).length + ([] : List Keyword).length + (if ([] : List Keyword).isEmpty then 0 else 1) < 30)) = true := by rfl)
    (hline : (apos.endLine == pos.line) = true := by rfl) (hs : starEach [e] X.env = (false, eval e X.env) :: starEach [] X.env := by rfl) (hplain : (backTo pos (starEach [] X.env)).any (·.1) = false := by rfl) :
    PE X (.Call (.Attribute o "pop" apos) [e] [] pos) (tD X.K X.mg Wx (mPopAt mo m)) :=
  pe_imp (pe_bm PySem.F.plainAttrs_list PySem.F.slot_list_pop PySem.F.type_list_pop mt_popAt ho (pa_cons ha pa_nil hs) hbase hfew hline hs hplain) fun g H Q h => by
    obtain ⟨T, r, S, rs, sim, h⟩ := h
    refine ⟨T, r, S, rs, sim, Out.bind h fun d S1 T1 H1 v st sim1 rel h1 => ?_⟩
    split at h1
    · rename_i hl
      refine ⟨isLoc_ty sim1 rel hl, T1, r, S1, rs.step st, sim1, Out.bind h1 fun y S2 T2 H2 w st2 sim2 rel2 h2 => ?_⟩
      unfold popAtD at h2
      split at h2
      · rename_i n i
        split at h2
        · rename_i xs q
          split at h2
          · rename_i hi
            split at h2
            · rename_i y ey
              obtain ⟨a, rfl, hn, ys, q1, q2⟩ := loc_of sim2 (rel.step st2) q
              cases rel2
              obtain ⟨u, e1, e2⟩ := q2.get ey
              have hlt : i.toNat < ys.length := (List.getElem?_eq_some_iff.mp e1).1
              have hz : (ys.eraseIdx i.toNat).length ≤ sizeLine := Nat.le_trans (List.length_eraseIdx_le ys _) (sim2.hl a ys (.inl (.inl q1)))
              obtain ⟨st3, sim3⟩ := lst_set (xs := ys.eraseIdx i.toNat) (ds := xs.eraseIdx i.toNat) sim2 hn hz (q2.eraseIdx i.toNat)
              have hix : seqIndex? i ys.length = some i.toNat := (ixN_seq (by
                unfold ixN
                rw [if_pos hi.1, if_pos (by omega)])).1
              exact ⟨a, ys, i, i.toNat, u, rfl, rfl, q1, by omega, by omega, hix, e1, h2 T2 _ _ st3 sim3 (e2.step st3)⟩
            · exact h2.elim
          · exact h2.elim
        · exact h2.elim
      · exact h2.elim
    · exact h1.elim
/-! list(range(n)) -/
def rListRng (vs : List V) (H : Hp) (Q : VK) : Prop := ∃ n : Int, vs = [.int n] ∧ -100000 ≤ n ∧ n ≤ 100000 ∧ ∀ p, H p = none → Q (.ref p) (upd H p (.lst (((List.range n.toNat).map fun i : Nat => (i : Int)).map V.int)))
def listRngN (ds : List D) (_ : Store) : Option (List D) := rng1 ds
end
end Dv
namespace Dv
open PySem PySem.Spec PyProof.Rows L2
section
variable {X : Cx}
def rRange1 : List V → Hp → VK → Prop := fun vs H Q => ∃ n : Int, vs = [.int n] ∧ ∀ p, H p = none → Q (.ref p) (upd H p (.rng 0 n))
theorem cr_range1 : CallR X (.type "range") rRange1 := by
  intro pins s σ H vs us Q I r h
  obtain ⟨n, rfl, q⟩ := h
  cases r with
  | cons a b =>
    cases b
    obtain ⟨t, rfl⟩ := a
    have nw : H s.heap.objs.size = none := I.hok.fresh (Nat.le_refl _)
    refine call_range_1 ⟨.ref s.heap.objs.size, _, I.laid (t' := s.toks + 1 + 1) (o := .rng 0 n) (fun b o e => Heap.get?_push_of_some _ e) (Nat.le_refl _) ⟨s.toks, t, s.toks + 1, Heap.get?_push_size _ rfl⟩, rfl, q _ nw⟩
def rLstRng : List V → Hp → VK → Prop := fun vs H Q => ∃ (a : Addr) (n : Int), vs = [.ref a] ∧ H a = some (.rng 0 n) ∧ -100000 ≤ n ∧ n ≤ 100000 ∧ ∀ p, H p = none → Q (.ref p) (upd H p (.lst (((List.range n.toNat).map fun i : Nat => (i : Int)).map V.int)))
theorem vals_rng {acc : Array Value} {n : Nat} (h : ItemsOf (fun i v => ∃ t, v = Value.int (0 + (i : Int) * 1) t) acc n) : Vals (((List.range n).map fun i : Nat => (i : Int)).map V.int) acc.toList := by
  refine vals_of_ints (ns := (List.range n).map fun i : Nat => (i : Int)) ?_
  obtain ⟨h1, h2⟩ := h
  have key : ∀ (l : List Value) (k : Nat), (∀ j v, l[j]? = some v → ∃ t, v = Value.int ((k + j : Nat) : Int) t) → IntsAre l ((List.range' k l.length).map fun i : Nat => (i : Int)) := fun l => by
    induction l with
    | nil => exact fun k _ => .nil
    | cons v l ih =>
      intro k hv
      obtain ⟨t, rfl⟩ := hv 0 v rfl
      rw [List.length_cons, List.range'_succ, List.map_cons]
      refine .cons _ t (ih (k + 1) fun j u hj => ?_)
      obtain ⟨t', e⟩ := hv (j + 1) u hj
      exact ⟨t', by rw [e, show k + (j + 1) = k + 1 + j by omega]⟩
  have := key acc.toList 0 fun j v hj => by
    obtain ⟨t, e⟩ := h2 j v (by rw [← Array.getElem?_toList]; exact hj)
    exact ⟨t, by rw [e, Int.zero_add, Int.mul_one, Nat.zero_add]⟩
  rw [Array.length_toList, h1] at this
  rw [List.range_eq_range']
  exact this
theorem cr_lstRng (hc : X.calm = true) : CallR X (.type "list") rLstRng := by
  intro pins s σ H vs us Q I r h
  obtain ⟨a, n, rfl, ha, hn0, hn, q⟩ := h
  rw [Vals.ref1 r]
  obtain ⟨t, u, v, ho⟩ := I.hok a _ ha
  have nw : H s.heap.objs.size = none := I.hok.fresh (Nat.le_refl _)
  have hsz : Builtin.Range.rangeSize 0 n 1 = (n.toNat : Nat) := by
    unfold Builtin.Range.rangeSize
    by_cases h0 : 0 < n
    · rw [if_pos (by decide), if_pos h0]
      omega
    · rw [if_pos (by decide), if_neg h0]
      omega
  refine call_list_range (n := n.toNat) (I.ok.hd hc) ho ?_ hsz (by omega) fun h' tk acc c k g items => ?_
  · exact small_one (by decide) (by decide) (by omega) (by omega)
  · have hz : (((List.range n.toNat).map fun i : Nat => (i : Int)).map V.int).length ≤ sizeLine := by
      rw [List.length_map, List.length_map, List.length_range, sizeLine_eq]
      omega
    exact ⟨.ref s.heap.objs.size, _, I.laid (t' := tk) (o := .lst (((List.range n.toNat).map fun i : Nat => (i : Int)).map V.int)) k (Nat.le_refl _) ⟨hz, acc.toList, c, vals_rng items, g⟩, rfl, q _ nw⟩
end
section
variable {K : PySem.W.Frag} {mg : Str → Option Value} {T : Tb} {H : Hp}
theorem rng_ints (n : Int) : rng 0 n.toNat = ((List.range n.toNat).map fun i : Nat => (i : Int)).map D.int := by
  unfold rng
  rw [List.map_map]
  refine List.map_congr_left fun i _ => ?_
  show D.int (0 + (i : Int)) = D.int (i : Int)
  rw [Int.zero_add]
theorem hlen_rng {p : Addr} {a b : Int} (h : HLen H) : HLen (upd H p (.rng a b)) := hlen_oth h fun xs => ⟨(by intro z; cases z), (by intro z; cases z), (by intro x z; cases z), (by intro x z; cases z)⟩
def lstRngD (ds : List D) (_ : Store) : Option D := (rng1 ds).map .lst
theorem pok_lstRng : POk K mg (fun vs H Q => rRange1 vs H fun v H1 => rLstRng [v] H1 Q) lstRngD := fun T S H vs ds d Q sim rep e k => by
  unfold lstRngD at e
  obtain ⟨xs, e1, rfl⟩ := Option.map_eq_some_iff.mp e
  unfold rng1 at e1
  split at e1
  · rename_i n
    split at e1
    · rename_i hb
      cases e1
      obtain ⟨v, rfl, r⟩ := rep.one
      cases r
      refine ⟨n, rfl, fun p hp => ⟨p, n, rfl, upd_same, hb.1, hb.2, fun q hq => ?_⟩⟩
      have st1 := sim.stepNew (o := .rng 0 n) hp
      have sim1 := sim.new (o := .rng 0 n) hp (hlen_rng sim.hl)
      rw [rng_ints] at k
      have hz : (((List.range n.toNat).map fun i : Nat => (i : Int)).map V.int).length ≤ sizeLine := by
        rw [List.length_map, List.length_map, List.length_range, sizeLine_eq]
        omega
      exact k _ (.ref q) (st1.trans (sim1.stepNew hq)) (sim1.new hq (hlen_lst sim1.hl hz)) (.lst upd_same (sim1.off hq) (RepL.ints _))
    · cases e1
  · cases e1
end
section
variable {X : Cx} {Wx : WX} {ms : AM} {es : List Expr} {x y : Str} {p p' pos pos' : Pos} {e : Expr}
theorem j_lstRng (hc : X.calm = true) (hg' : Gl X y) (hm' : X.mg y = none) (hv' : bootBuiltins y = some (.type "list")) (hg : Gl X x) (hm : X.mg x = none) (hv : bootBuiltins x = some (.type "range")) (ha : PA X (e :: es) (tDA X.K X.mg Wx ms))
    (hn' : y ≠ "__name__" := by decide) (hdb' : (y == ("__debug__" : Str)) = false := by decide) (hn : x ≠ "__name__" := by decide) (hdb : (x == ("__debug__" : Str)) = false := by decide)
    (he : starEach (e :: es) X.env = (false, eval e X.env) :: starEach es X.env := by rfl) (hpl : (backTo pos (starEach es X.env)).any (·.1) = false := by rfl) :
    PE X (.Call (.Name y p') [.Call (.Name x p) (e :: es) [] pos] [] pos') (tD X.K X.mg Wx (mCall lstRngD ms)) :=
  pe_imp (pe_callTy (cr_lstRng hc) hg' hm' hv' (pa_cons (pe_callTy cr_range1 hg hm hv ha hn hdb he hpl) pa_nil) hn' hdb') fun g H Q h => tCB_of pok_lstRng g H Q h
theorem j_newRng (hc : X.calm = true) (hg' : Gl X y) (hm' : X.mg y = none) (hv' : bootBuiltins y = some (.type "list")) (hg : Gl X x) (hm : X.mg x = none) (hv : bootBuiltins x = some (.type "range")) (ha : PA X (e :: es) (tDA X.K X.mg Wx ms))
    (hn' : y ≠ "__name__" := by decide) (hdb' : (y == ("__debug__" : Str)) = false := by decide) (hn : x ≠ "__name__" := by decide) (hdb : (x == ("__debug__" : Str)) = false := by decide)
    (he : starEach (e :: es) X.env = (false, eval e X.env) :: starEach es X.env := by rfl) (hpl : (backTo pos (starEach es X.env)).any (·.1) = false := by rfl) :
    PE X (.Call (.Name y p') [.Call (.Name x p) (e :: es) [] pos] [] pos') (tD X.K X.mg Wx (mCallN listRngN ms)) :=
  pe_imp (pe_callTy (cr_lstRng hc) hg' hm' hv' (pa_cons (pe_callTy cr_range1 hg hm hv ha hn hdb he hpl) pa_nil) hn' hdb') fun g H Q h => by
    obtain ⟨T, r, S, rs, sim, h⟩ := h
    refine ⟨T, r, S, rs, sim, Out.bind h fun ds S1 T1 H1 vs st sim1 rel h1 => ?_⟩
    cases q : listRngN ds S1 with
    | none =>
      rw [q] at h1
      exact h1.elim
    | some xs =>
      rw [q] at h1
      unfold listRngN rng1 at q
      split at q
      · rename_i n
        split at q
        · rename_i hb
          cases q
          obtain ⟨v, rfl, rv⟩ := rel.one
          cases rv
          refine ⟨n, rfl, fun a ha => ⟨a, n, rfl, upd_same, hb.1, hb.2, fun b hb' => ?_⟩⟩
          have st2 := sim1.stepNew (o := .rng 0 n) ha
          have sim2 := sim1.new (o := .rng 0 n) ha (hlen_rng sim1.hl)
          have hz : (((List.range n.toNat).map fun i : Nat => (i : Int)).map V.int).length ≤ sizeLine := by
            rw [List.length_map, List.length_map, List.length_range, sizeLine_eq]
            omega
          have st3 := sim2.stepAlloc (o := .lst (((List.range n.toNat).map fun i : Nat => (i : Int)).map V.int)) hb'
          exact h1 (T1.add b) _ _ (st2.trans st3) (sim2.alloc hb' (hlen_lst sim2.hl hz) ⟨_, upd_same, by rw [rng_ints]; exact RepL.ints _⟩) (.loc sim2.newGet)
        · cases q
      · cases q
end
end Dv
/-! in a tuple of flat things -/
namespace Dv
open PySem L2
def flatD : D → Bool
  | .non => true
  | .bl _ => true
  | .int _ => true
  | .str _ => true
  | _ => false
def inTO (a b : D) : Option Bool := match b with
  | .tup xs => if flatD a = true ∧ xs.all flatD = true then some (xs.any fun z => eqvD z a) else none
  | b => inO a b
def inTD (a b : D) (S : Store) : Option D := (inTO (now a S) (now b S)).map .bl
def ninTD (a b : D) (S : Store) : Option D := (inTO (now a S) (now b S)).map fun k => .bl (!k)
section
variable {X : Cx} {K : PySem.W.Frag} {mg : Str → Option Value} {T : Tb} {H : Hp} {S : Store}
theorem flat_eq {v v' : V} {d d' : D} (h : Rep K T H v d) (h' : Rep K T H v' d') (f : flatD d = true) (f' : flatD d' = true) : flatV v = true ∧ eqV v v' = eqvD d d' := by
  cases h <;> first | (cases f; done) | skip
  all_goals (cases h' <;> first | (cases f'; done) | skip)
  all_goals first | exact ⟨rfl, rfl⟩ | exact ⟨rfl, by simp [eqV, eqvD, pyD, PyData.eqv]⟩
theorem flat_any {v : V} {d : D} (h : Rep K T H v d) (f : flatD d = true) : ∀ {vs : List V} {ds : List D}, RepL K T H vs ds → ds.all flatD = true → vs.all flatV = true ∧ (vs.any fun y => eqV y v) = ds.any fun z => eqvD z d
  | _, _, .nil, _ => ⟨rfl, rfl⟩
  | _, _, .cons (v := u) (d := e) a b, g => by
    rw [List.all_cons, Bool.and_eq_true] at g
    obtain ⟨q1, q2⟩ := flat_eq a h g.1 f
    obtain ⟨q3, q4⟩ := flat_any h f b g.2
    exact ⟨by rw [List.all_cons, q1, q3]; rfl, by rw [List.any_cons, List.any_cons, q2, q4]⟩
def rInT (K : PySem.W.Frag) : R2 := fun x y H Q => rInD K x y H Q ∨ rIn K false x y H Q
def rNinT (K : PySem.W.Frag) : R2 := fun x y H Q => rNotInD K x y H Q ∨ rIn K true x y H Q
theorem op_inT (hu : X.A.units + 65 < cLine) : OpR X (compareOp .In) (rInT X.K) := (op_inD hu).or op_in_seq
theorem op_ninT (hu : X.A.units + 65 < cLine) : OpR X (compareOp .NotIn) (rNinT X.K) := (op_notInD hu).or op_notIn_seq
theorem now_flat {d : D} (f : flatD (now d S) = true) : now d S = d := by
  cases d with
  | loc n =>
    simp only [now] at f ⊢
    split at f <;> cases f
  | _ => rfl
theorem now_tup {d : D} {xs : List D} (e : now d S = .tup xs) : d = .tup xs := by
  cases d with
  | loc n =>
    simp only [now] at e
    split at e <;> cases e
  | _ => exact e
theorem pok_inT : POk2 K mg (rInT K) inTD := fun T S H x y a b d Q sim rx ry e k => by
  unfold inTD at e
  obtain ⟨t, e1, rfl⟩ := Option.map_eq_some_iff.mp e
  unfold inTO at e1
  split at e1
  · rename_i xs eb
    split at e1
    · rename_i hf
      cases e1
      have h1 := now_tup eb
      subst h1
      have en := now_flat hf.1
      rw [en] at hf k
      cases ry with
      | tup h n r =>
        obtain ⟨q1, q2⟩ := flat_any rx hf.1 r hf.2
        have q0 : flatV x = true := (flat_eq rx rx hf.1 hf.1).1
        refine .inr ⟨_, _, rfl, .inr (SqT.of h), q0, q1, ?_⟩
        show Q (.bl (inV x _)) H
        unfold inV
        rw [q2]
        exact k H _ (Step.refl T H) sim (.bl _)
    · cases e1
  · have e2 : inD a b S = some (.bl t) := by
      unfold inD
      rw [e1]
      rfl
    exact .inl (pok_in T S H x y a b (.bl t) Q sim rx ry e2 k)
theorem pok_ninT : POk2 K mg (rNinT K) ninTD := fun T S H x y a b d Q sim rx ry e k => by
  unfold ninTD at e
  obtain ⟨t, e1, rfl⟩ := Option.map_eq_some_iff.mp e
  unfold inTO at e1
  split at e1
  · rename_i xs eb
    split at e1
    · rename_i hf
      cases e1
      have h1 := now_tup eb
      subst h1
      have en := now_flat hf.1
      rw [en] at hf k
      cases ry with
      | tup h n r =>
        obtain ⟨q1, q2⟩ := flat_any rx hf.1 r hf.2
        have q0 : flatV x = true := (flat_eq rx rx hf.1 hf.1).1
        refine .inr ⟨_, _, rfl, .inr (SqT.of h), q0, q1, ?_⟩
        show Q (.bl (!inV x _)) H
        unfold inV
        rw [q2]
        exact k H _ (Step.refl T H) sim (.bl _)
    · cases e1
  · have e2 : ninD a b S = some (.bl (!t)) := by
      unfold ninD
      rw [e1]
      rfl
    exact .inl (pok_nin T S H x y a b (.bl (!t)) Q sim rx ry e2 k)
end
end Dv
namespace Dv
open PySem L2
/-- what is never reached -/
def mBad : EM := fun _ _ => .bad
theorem j_bad {X : Cx} {Wx : WX} {e : Expr} : PE X e (tD X.K X.mg Wx mBad) := ⟨fun pins s g H Q I h => by
  obtain ⟨T, r, S, rs, sim, h⟩ := h
  exact h.elim⟩
@[simp] theorem mBad_ap {r : Env} {S : Store} : mBad r S = .bad := rfl
end Dv
/-! all(rows), rows a tuple of tuples -/
namespace Dv
open PySem PySem.Spec PyProof.Rows L2
section
variable {prog : Program} {w : World} {A : Around}
/-- the truths may lean on what the heap keeps -/
theorem allLoop_by {R : Result → Shared → Prop} {I : Addr} {fp wr : List Addr} {n : Nat} {P : Nat → Value → Prop} {St : Nat → Heap → Prop} (W : PySem.Walks prog w A.in1 I fp wr n P St) (b : Nat → Bool) (G : Heap → Prop)
    (stay : ∀ h h', G h → (∀ c o, c ∉ wr → h.get? c = some o → h'.get? c = some o) → G h')
    (truth : ∀ i v (s : Shared) (Q : Bool → Shared → Prop) (E : Value → Shared → Prop), P i v → G s.heap → (∀ tk, Q (b i) { s with toks := tk }) → wpAny (model prog w) A.in1 (truthy v) Q E s) :
    ∀ (m i : Nat) (s : Shared), i + m = n → St i s.heap → G s.heap → (∀ h' tk, (∀ c o, c ∉ wr → s.heap.get? c = some o → h'.get? c = some o) → R (.ok (.ret (.bool ((List.range' i m).all b)))) { s with heap := h', toks := tk }) →
      codeAny (model prog w) A (.builtin "all.loop" ⟨[.ref I], []⟩) R s
  | 0, i, s, hm, st, g, out => by
    have e : i = n := by omega
    subst e
    refine codeAny_builtin F.entry_all_loop ?_
    rw [Around.under_plainId F.plain_all_loop _]
    unfold Builtin.«all.loop»
    refine wpAny_bind (W.done s _ _ st fun h' tk keep => ?_)
    exact wpAny_bind (wpAny_rule (wpAny_pure (out h' tk keep)))
  | m + 1, i, s, hm, st, g, out => by
    refine codeAny_builtin F.entry_all_loop ?_
    rw [Around.under_plainId F.plain_all_loop _]
    unfold Builtin.«all.loop»
    refine wpAny_bind (W.item i s _ _ (by omega) st fun v h' tk p st' keep => ?_)
    have g' := stay _ _ g keep
    refine wpAny_bind (wpAny_holding (truth i v _ _ _ p g' fun tk2 => ?_))
    refine wpAny_bind (wpAny_letGo ?_)
    cases q : b i with
    | true =>
      rw [if_pos rfl]
      refine wpAny_pure ⟨plainId_quiet F.plain_all_loop _, ?_⟩
      refine allLoop_by W b G stay truth m (i + 1) _ (by omega) st' g' fun h2 tk3 keep2 => ?_
      have o := out h2 tk3 fun c ob hc e => keep2 c ob hc (keep c ob hc e)
      rw [List.range'_succ, List.all_cons, q, Bool.true_and] at o
      exact o
    | false =>
      rw [if_neg Bool.false_ne_true]
      refine wpAny_bind (wpAny_rule (wpAny_pure ?_))
      have o := out h' tk2 keep
      rw [List.range'_succ, List.all_cons, q, Bool.false_and] at o
      exact o
end
section
variable {X : Cx}
/-- a tuple of tuples -/
def rAllT (K : PySem.W.Frag) : List V → Hp → VK → Prop := fun vs H Q => ∃ (a : Addr) (ps : List Addr) (bs : List Bool), vs = [.ref a] ∧ SqT K H a (ps.map V.ref) ∧ Paired (fun p c => ∃ xs : List V, SqT K H p xs ∧ c = !xs.isEmpty) ps bs ∧ Q (.bl (bs.all id)) H
theorem pairedAt {α β : Type} {F : α → β → Prop} : ∀ {l : List α} {m : List β} {i : Nat} {x : α} {y : β}, Paired F l m → l[i]? = some x → m[i]? = some y → F x y
  | _, _, 0, _, _, .cons a b, h1, h2 => by
    cases h1
    cases h2
    exact a
  | _, _, i + 1, _, _, .cons a b, h1, h2 => pairedAt (i := i) b h1 h2
theorem refs_are : ∀ {ps : List Addr} {us : List Value}, Vals (ps.map V.ref) us → us = ps.map Value.ref
  | [], _, .nil => rfl
  | p :: ps, _, .cons r t => by
    cases r
    rw [refs_are t]
    rfl
theorem cr_allT (hc : X.calm = true) : CallR X (.builtin "all") (rAllT X.K) := by
  intro pins s σ H vs us Q I r h
  obtain ⟨a, ps, bs, rfl, hs, pr, q⟩ := h
  rw [Vals.ref1 r]
  obtain ⟨its, rv, tp, hz⟩ := I.tuple hs
  have ei := refs_are rv
  subst ei
  rw [List.length_map] at hz
  have hlen : ps.length = bs.length := pr.length
  have halt : a < s.heap.objs.size := by
    obtain ⟨o, ho, _⟩ := tp
    exact Heap.lt_size ho
  refine call_function_tree F.kind_all F.plain_all F.entry_all (F.args_all1 _) ?_
  unfold Builtin.«all»
  refine wpAny_bind (m := oneArg "all" _) (wpAny_pure ?_)
  refine wpAny_bind (wpAny_pyIter_tuple (show s.heap.IsTuple a (ps.map Value.ref).toArray from tp) ?_)
  refine wpAny_pure ⟨plainId_quiet F.plain_all_loop _, ?_⟩
  have W := Walks.tuple (prog := X.prog) (w := X.w) (A := X.A.in1) (I.ok.hd hc) s.heap.objs.size a (Nat.ne_of_lt halt) (ps.map Value.ref).toArray
  refine allLoop_by W (fun i => bs.getD i false) (fun h => ∀ (i : Nat) (p : Addr) (c : Bool), ps[i]? = some p → bs[i]? = some c → p ≠ s.heap.objs.size ∧ ∃ items : Array Value, IsTup h p items ∧ items.size ≤ sizeLine ∧ c = !items.isEmpty)
    (fun h h' g keep i p c e1 e2 => ?_) (fun i v s' Q' E' pv g out => ?_) ps.length 0 _ (by simp) ⟨⟨_, Heap.get?_push_size _ rfl, rfl, rfl⟩, (show s.heap.IsTuple a (ps.map Value.ref).toArray from tp).push _⟩ (fun i p c e1 e2 => ?_) fun h' tk keep => ?_
  · obtain ⟨np, items, ⟨o, ho, t1, t2⟩, hz2, t3⟩ := g i p c e1 e2
    exact ⟨np, items, ⟨o, keep p o (by simpa using np) ho, t1, t2⟩, hz2, t3⟩
  · have pv : (ps.map Value.ref).toArray[i]? = some v := pv
    have pv' : (ps.map Value.ref)[i]? = some v := by simpa using pv
    rw [List.getElem?_map] at pv'
    obtain ⟨p, e1, rfl⟩ := Option.map_eq_some_iff.mp pv'
    have hi : i < bs.length := by rw [← hlen]; exact (List.getElem?_eq_some_iff.mp e1).1
    obtain ⟨_, items, tp2, hz2, t3⟩ := g i p bs[i] e1 (List.getElem?_eq_getElem hi)
    rw [sizeLine_eq] at hz2
    refine truthy_tuple tp2 (by omega) ?_
    have ec : bs.getD i false = !items.isEmpty := by
      rw [List.getD_eq_getElem?_getD, List.getElem?_eq_getElem hi]
      exact t3
    rw [← ec]
    exact out _
  · obtain ⟨xs, h1, h2⟩ := pairedAt pr e1 e2
    obtain ⟨its2, rv2, tp2, hz2⟩ := I.tuple h1
    have hlt : p < s.heap.objs.size := by
      obtain ⟨o, ho, _⟩ := tp2
      exact Heap.lt_size ho
    have el : xs.length = its2.length := rv2.length
    refine ⟨Nat.ne_of_lt hlt, its2.toArray, ?_, by rw [List.size_toArray, ← el]; exact hz2, ?_⟩
    · obtain ⟨o, ho, t1, t2⟩ := tp2
      exact ⟨o, Heap.get?_push_of_some _ ho, t1, t2⟩
    · rw [h2]
      cases xs <;> cases its2 <;> first | rfl | cases el
  · refine ⟨.bl (bs.all id), H, I.kept (t' := tk) fun b o e => keep b o (fun z => ?_) (Heap.get?_push_of_some _ e), ?_, q⟩
    · rw [List.mem_singleton] at z
      subst z
      exact absurd (Heap.lt_size e) (Nat.lt_irrefl _)
    · show Value.bool _ = Value.bool _
      congr 1
      rw [hlen, ← List.range_eq_range']
      have key : ∀ l : List Bool, ((List.range l.length).all fun i => l.getD i false) = l.all id := fun l => by
        rw [Bool.eq_iff_iff, List.all_eq_true, List.all_eq_true]
        constructor
        · intro h x hx
          obtain ⟨i, hi, rfl⟩ := List.mem_iff_getElem.mp hx
          have := h i (List.mem_range.mpr hi)
          rw [List.getD_eq_getElem?_getD, List.getElem?_eq_getElem hi] at this
          exact this
        · intro h i hi
          have hi := List.mem_range.mp hi
          rw [List.getD_eq_getElem?_getD, List.getElem?_eq_getElem hi]
          exact h _ (List.getElem_mem hi)
      exact key bs
end
/-- the truths of tuples -/
def tupsB : List D → Option (List Bool)
  | [] => some []
  | .tup xs :: ds => (tupsB ds).map ((!xs.isEmpty) :: ·)
  | _ :: _ => none
def allTD (ds : List D) (S : Store) : Option D := match ds with
  | [.tup xs] => (tupsB xs).map fun bs => .bl (bs.all id)
  | ds => allD ds S
section
variable {X : Cx} {K : PySem.W.Frag} {mg : Str → Option Value} {T : Tb} {H : Hp}
theorem tups_rep : ∀ {ds : List D} {vs : List V} {bs : List Bool}, RepL K T H vs ds → tupsB ds = some bs → ∃ ps : List Addr, vs = ps.map V.ref ∧ Paired (fun p c => ∃ xs : List V, SqT K H p xs ∧ c = !xs.isEmpty) ps bs
  | [], _, _, .nil, e => by
    cases e
    exact ⟨[], rfl, .nil⟩
  | d :: ds, _, bs, .cons a b, e => by
    cases a with
    | @tup p xs es h n r =>
      obtain ⟨cs, e1, rfl⟩ := Option.map_eq_some_iff.mp (show (tupsB ds).map ((!es.isEmpty) :: ·) = some bs from e)
      obtain ⟨ps, rfl, pr⟩ := tups_rep b e1
      refine ⟨p :: ps, rfl, .cons ⟨xs, SqT.of h, ?_⟩ pr⟩
      have := r.length
      cases es <;> cases xs <;> first | rfl | cases this
    | _ => cases e
def rAllA (K : PySem.W.Frag) : List V → Hp → VK → Prop := fun vs H Q => rAll K vs H Q ∨ rAllT K vs H Q
theorem cr_allA (hc : X.calm = true) : CallR X (.builtin "all") (rAllA X.K) := fun pins s σ H vs us Q I r h => h.elim (cr_all hc pins s σ H vs us Q I r) (cr_allT hc pins s σ H vs us Q I r)
theorem pok_allA : POk K mg (rAllA K) allTD := fun T S H vs ds d Q sim rep e k => by
  unfold allTD at e
  split at e
  · rename_i xs
    obtain ⟨bs, e1, rfl⟩ := Option.map_eq_some_iff.mp e
    obtain ⟨v, rfl, r⟩ := rep.one
    cases r with
    | @tup a ys _ h n rl =>
      obtain ⟨ps, rfl, pr⟩ := tups_rep rl e1
      exact .inr ⟨a, ps, bs, rfl, SqT.of h, pr, k H _ (Step.refl T H) sim (.bl _)⟩
  · exact .inl (pok_all T S H vs _ d Q sim rep e k)
end
end Dv
/-! min of ints, enumerate of a list -/
namespace Dv
open PySem L2
def minI : List Int → Option Int
  | [] => none
  | x :: xs => match minI xs with
    | none => some x
    | some m => some (if x < m then x else m)
theorem minI_nil : ∀ {ns : List Int}, minI ns = none → ns = []
  | [], _ => rfl
  | x :: xs, h => by
    unfold minI at h
    split at h <;> cases h
theorem minI_ok : ∀ {ns : List Int} {m : Int}, minI ns = some m → m ∈ ns ∧ ∀ y ∈ ns, m ≤ y
  | [], _, h => by cases h
  | x :: xs, m, h => by
    unfold minI at h
    split at h
    · rename_i q
      cases h
      have e := minI_nil q
      subst e
      exact ⟨List.mem_cons_self, fun y hy => by rw [List.mem_singleton.mp hy]; exact Int.le_refl _⟩
    · rename_i k q
      obtain ⟨h1, h2⟩ := minI_ok q
      cases h
      by_cases c : x < k
      · rw [if_pos c]
        refine ⟨List.mem_cons_self, fun y hy => ?_⟩
        rcases List.mem_cons.mp hy with rfl | hy
        · exact Int.le_refl _
        · have := h2 y hy
          omega
      · rw [if_neg c]
        refine ⟨List.mem_cons_of_mem _ h1, fun y hy => ?_⟩
        rcases List.mem_cons.mp hy with rfl | hy
        · omega
        · exact h2 y hy
def minD (ds : List D) (_ : Store) : Option D := match ds with
  | [.lst xs] => ((intsOf xs).bind minI).map .int
  | _ => none
section
variable {K : PySem.W.Frag} {mg : Str → Option Value}
theorem pok_min : POk K mg (rMin K) minD := fun T S H vs ds d Q sim rep e k => by
  unfold minD at e
  split at e
  · rename_i xs
    obtain ⟨m, e1, rfl⟩ := Option.map_eq_some_iff.mp e
    obtain ⟨ns, hi, hm⟩ := Option.bind_eq_some_iff.mp e1
    have hx := intsOf_some hi
    subst hx
    obtain ⟨v, rfl, r⟩ := rep.one
    cases r with
    | @lst a ys _ h n rl =>
      have hy := rl.of_ints
      subst hy
      obtain ⟨h1, h2⟩ := minI_ok hm
      refine ⟨a, ns, rfl, SqL.of h, List.length_pos_of_mem h1, fun z z1 z2 => ?_⟩
      have ez : z = m := Int.le_antisymm (z2 m h1) (h2 z z1)
      subst ez
      exact k H _ (Step.refl T H) sim (.int _)
  · cases e
end
/-- the pairs of enumerate -/
def enumL (xs : List D) : List D := (List.range xs.length).zipWith (fun i d => D.tup [.int (i : Nat), d]) xs
theorem enumL_len (xs : List D) : (enumL xs).length = xs.length := by
  unfold enumL
  rw [List.length_zipWith, List.length_range, Nat.min_self]
theorem enumL_get {xs : List D} {i : Nat} {d : D} (h : (enumL xs)[i]? = some d) : ∃ x, xs[i]? = some x ∧ d = .tup [.int (i : Nat), x] := by
  unfold enumL at h
  rw [List.getElem?_zipWith] at h
  cases q : xs[i]? with
  | none => rw [q] at h; cases p : (List.range xs.length)[i]? <;> rw [p] at h <;> cases h
  | some x =>
    have hi : i < xs.length := (List.getElem?_eq_some_iff.mp q).1
    rw [q, List.getElem?_range hi] at h
    cases h
    exact ⟨x, rfl, rfl⟩
def enumD (ds : List D) : Option (List D) := match ds with
  | [.lst xs] => some (enumL xs)
  | _ => none
def mEnum (ms : AM) : IM := fun r S => (ms r S).bind fun ds S1 => ofO (enumD ds) S1
@[simp] theorem mEnum_ap {ms : AM} {r : Env} {S : Store} : mEnum ms r S = (ms r S).bind fun ds S1 => ofO (enumD ds) S1 := rfl
section
variable {X : Cx} {Wx : WX} {e : Expr} {ms : AM} {pos p tpos : Pos} {elts : List Expr} {kk : Nat}
theorem ji_enum (hg : Gl X "enumerate") (hm : X.mg "enumerate" = none) (ha : PA X [e] (tDA X.K X.mg Wx ms)) (hs : starEach [e] X.env = [(false, eval e X.env)] := by rfl) :
    PI X (.Tuple elts kk tpos) (.Call (.Name "enumerate" p) [e] [] pos) (iD X.K X.mg Wx (mEnum ms)) := pi_imp (pi_enum hg hm ha hs) fun g H Q h => by
  obtain ⟨T, r, S, rs, sim, h⟩ := h
  refine ⟨T, r, S, rs, sim, Out.bind h fun d S1 T1 H1 v st sim1 rel h1 => ?_⟩
  refine Out.use h1 fun ds e k => ?_
  unfold enumD at e
  split at e
  · rename_i xs
    cases e
    obtain ⟨v, rfl, rv⟩ := rel.one
    cases rv with
    | @lst a ys _ hH n rl =>
      refine ⟨a, ys, rfl, SqL.of hH, k T1 H1 _ (Step.refl T1 H1) sim1 ⟨fun T' S' H' kf sim' => ?_, ?_⟩⟩
      · have hq : SqL X.K H' a ys := SqL.of (kf.toKp.lst n hH).1
        refine ⟨⟨ys, hq, by rw [enumL_len, rl.length]; exact Nat.le_refl _⟩, fun i d hd => ?_⟩
        obtain ⟨x, hx, rfl⟩ := enumL_get hd
        obtain ⟨u, hu, ru⟩ := rl.get hx
        refine ⟨⟨ys, u, hq, hu⟩, fun z H2 yl => ?_⟩
        obtain ⟨P, w, rfl, hP, rfl, gw⟩ := yl
        have ew := (gw ys hq).symm.trans hu
        cases ew
        exact pair_new sim' hP (.int _) (ru.kp kf.toKp)
      · rw [enumL_len, ← rl.length]
        exact sim1.hl _ _ (.inl (.inl hH))
  · cases e
end
end Dv
/-! the call of lambda at: rows[at][0] -/
namespace Dv
open PySem PySem.Spec PyProof.Rows
section
variable {prog : Program} {w : World} {A : Around} {s : Shared}
theorem lam_turn {f c' c r t : Addr} {qual x y : Str} {params : Arguments} {scope : Scope} {cl : List (Str × Addr)} {pm ctv : Value} {p1 p2 p3 p4 p5 : Pos} {k j : Nat} {z : Int} {tz tv : Tok} {items its : Array Value} {Q : Value → Shared → Prop}
    (ho : s.heap.get? f = some (PySem.W.kla_obj "<lambda>" qual params (.Subscript (.Subscript (.Name x p1) (.Name y p2) p3) (.Constant (.int 0) k p4) p5) scope cl pm c' ctv)) (hcd : s.heap.CodeRec (.ref c') qual) (hroom : A.depth < recursionLimit) (hnl : s.heap.NoLimit)
    (hbind : bindArgs (PySem.W.kla_fn "<lambda>" qual params (.Subscript (.Subscript (.Name x p1) (.Name y p2) p3) (.Constant (.int 0) k p4) p5) scope cl pm (.ref c') ctv) ⟨[.int j tv], []⟩ = pure [(y, .int j tv)])
    (hk : scope.kind = .function) (hco : scope.isCoroutine = false) (hgen : scope.isGenerator = false) (hcell : ∀ n ∈ scope.names, n.2 ≠ .cell) (hy : scope.names.lookup y = some .local) (hx : scope.names.lookup x = some .free)
    (hcl : cl.lookup x = some c) (hc : s.heap.IsCell c (some (.ref r))) (hr : IsTup s.heap r items) (hj : items[j]? = some (.ref t)) (hjl : j < 2 ^ 62) (ht : IsTup s.heap t its) (hz : its[0]? = some (.int z tz))
    (hdx : (x == ("__debug__" : Str)) = false) (hdy : (y == ("__debug__" : Str)) = false) (hcx : (x == ("__classdict__" : Str)) = false)
    (out : ∀ h' tk, (∀ b o, s.heap.get? b = some o → h'.get? b = some o) → Q (.int z tz) { s with heap := h', toks := tk }) : wpAny (model prog w) A (call (.ref f) [.int j tv]) Q (fun _ _ => False) s := by
  refine wpAny_call ?_
  refine PySem.W.kla_callFunE hroom ho rfl hco hgen rfl hcd ?_
  rw [hbind]
  refine wpAny_pure (wpAny_newFunctionEnv hcell (fun n hn => by
    rw [List.mem_singleton] at hn
    subst hn
    exact hy) (fun h1 hns hsb => ?_) hk)
  have keep : ∀ b o, s.heap.get? b = some o → h1.get? b = some o := fun b o e => hsb.extBut b o (Nat.ne_of_lt (Heap.lt_size e)) (Heap.get?_push_of_some _ e)
  refine ⟨hnl.fresh _ hsb, PySem.W.kla_codeExpr ?_⟩
  have hc1 : h1.IsCell c (some (.ref r)) := by
    obtain ⟨o, e1, e2⟩ := hc
    exact ⟨o, keep _ _ e1, e2⟩
  have hr1 : IsTup h1 r items := by
    obtain ⟨o, e1, e2⟩ := hr
    exact ⟨o, keep _ _ e1, e2⟩
  have ht1 : IsTup h1 t its := by
    obtain ⟨o, e1, e2⟩ := ht
    exact ⟨o, keep _ _ e1, e2⟩
  have hjs : j < items.size := (Array.getElem?_eq_some_iff.mp hj).1
  have h0s : 0 < its.size := (Array.getElem?_eq_some_iff.mp hz).1
  have ij : seqIndex? (j : Int) items.size = some j := (L2.ixN_seq (by
    unfold L2.ixN
    rw [if_pos (by omega), if_pos (by omega), Int.toNat_natCast])).1
  have i0 : seqIndex? (0 : Int) its.size = some 0 := (L2.ixN_seq (by
    unfold L2.ixN
    rw [if_pos (by omega), if_pos (by omega)]
    rfl)).1
  refine Subscript_ (Subscript_ (wpAny_Name (wpAny_loadName_free hk hx hcl hc1 ?_ hcx) hdx))
  refine wpAny_Name (wpAny_loadName_local (v := .int j tv) hk hy hns (by simp) ?_) hdy
  refine item_tuple hr1 (by omega) (by omega) ij hj ?_
  refine wpAny_Constant_int ?_
  refine subscriptTail_builtinR (x := .int z tz) ht1.typeIs PySem.F.slot_tuple_getitem.lookup ?_
  refine getItem_tuple ht1 (by decide) (by decide) i0 hz ⟨rfl, ?_⟩
  exact out h1 _ keep
end
end Dv
/-! sorted(e, key=lambda at: rows[at][0]) -/
namespace Dv
open PySem PySem.Spec PyProof.Rows L2 LamX
/-- what the making of a lambda does to what is tracked: nothing, or one more row of the table and its code object -/
def Made (H : Hp) (P c' : Addr) (q : Str) (ps : Array Value) (H1 : Hp) : Prop :=
  H1 = H ∨ ∃ ps' : Array Value, H c' = none ∧ c' ≠ P ∧ TriplesOk ps'.toList ∧ (∀ (pos : Pos) (cv : Value), codeAmong pos ps'.toList = some cv → codeAmong pos ps.toList = some cv ∨ cv = .ref c') ∧ H1 = upd (upd H P (.tbl ps')) c' (CodeO c' q)
section
variable {K : PySem.W.Frag} {mg : Str → Option Value} {T : Tb} {H H1 : Hp} {S : Store} {P c' : Addr} {x q : Str} {ps : Array Value}
/-- the store is as it was -/
theorem made_sim (sim : Sim K mg T S H) {i : Nat} (hi : T.loc[i]? = some P) (hS : S[i]? = some (.tbl x q)) (hP : H P = some (.tbl ps)) (m : Made H P c' q ps H1) : Step T H T H1 ∧ Sim K mg T S H1 := by
  rcases m with rfl | ⟨ps', hc, hne, ht, ha, rfl⟩
  · exact ⟨Step.refl _ _, sim⟩
  · have st1 := sim.stepSet (u := .tbl ps') (List.mem_of_getElem? hi)
    have hc1 : upd H P (.tbl ps') c' = none := by rw [upd_ne hne]; exact hc
    have offc : T.off c' := sim.off hc
    have new : Kp T (upd H P (.tbl ps')) T (upd (upd H P (.tbl ps')) c' (CodeO c' q)) := ⟨fun b u _ n h => ⟨by rw [upd_ne (ne_of_none h hc1)]; exact h, n⟩, fun b kvs n h => ⟨rd_keep (fun v e => by rw [upd_ne (ne_of_none e hc1)]; exact e) h, n⟩, fun _ _ h => h⟩
    have stp : Step T H T (upd (upd H P (.tbl ps')) c' (CodeO c' q)) := by
      refine ⟨⟨[], by simp⟩, rfl, fun b hb => ?_, fun b u n h => ?_, fun a h n => absurd h n⟩
      · have n1 : b ≠ c' := fun e => offc.2 (by rw [← e]; exact hb)
        rw [upd_ne n1]
        exact st1.hkeep b hb
      · rw [upd_ne (ne_of_none h hc)]
        exact st1.keep b u n h
    refine ⟨stp, sim.len, sim.nd, fun j a o h1 h2 => ?_, fun a ha => ?_, ?_⟩
    · have na : a ≠ c' := fun e => offc.1 (by rw [← e]; exact List.mem_of_getElem? h1)
      by_cases e : a = P
      · subst e
        have ej : j = i := nd_ix sim.ndl h1 hi
        subst ej
        rw [hS] at h2
        cases h2
        obtain ⟨hx, ps0, p1, p2, p3⟩ := sim.obj _ _ _ hi hS
        rw [hP] at p1
        cases p1
        refine ⟨hx, ps', by rw [upd_ne na, upd_same], ht, fun pos cv hcv => ?_⟩
        rcases ha pos cv hcv with z | z
        · obtain ⟨c0, e1, e2, e3⟩ := p3 pos cv z
          exact ⟨c0, e1, stp.keep _ _ e3 e2, e3⟩
        · exact ⟨c', z, upd_same, offc⟩
      · exact (sim.obj j a o h1 h2).step stp (by rw [upd_ne na, upd_ne e])
    · rw [stp.hkeep a ha]
      exact sim.hid a ha
    · have h0 : HLen (upd H P (.tbl ps')) := hlen_oth sim.hl fun xs => ⟨(by intro z; cases z), (by intro z; cases z), (by intro x z; cases z), (by intro x z; cases z)⟩
      exact hlen_oth h0 fun xs => ⟨(by intro z; cases z), (by intro z; cases z), (by intro x z; cases z), (by intro x z; cases z)⟩
end
section
variable {X : Cx} {pins : List (Addr × Obj)} {σ : L2.St} {H : Hp} {s : Shared}
/-- a lambda is made, told of the very table -/
theorem lam_mk {c P : Addr} {q : Str} {ps : Array Value} {params : Arguments} {body : Expr} {scope : Scope} {pos : Pos} {E : Value → Shared → Prop} {Q : Value → Shared → Prop} (I : Inv X pins σ H s) (TB : TabB X.base X.mg c P) (hcode : X.env.code = .ref c) (hq : X.env.qual ++ "<lambda>" = q)
    (hP : H P = some (.tbl ps)) (ht : TriplesOk ps.toList) (ha : ∀ (pos : Pos) (cv : Value), codeAmong pos ps.toList = some cv → ∃ c, cv = .ref c ∧ H c = some (CodeO c q)) (hdef : defaultsOf params X.env = ([], [])) (hfree : ∀ y ∈ scope.names, y.2 = .free → ∃ c, X.env.cells.lookup y.1 = some c)
    (k : ∀ (f c' : Addr) (pm ctv : Value) (H1 : Hp) (s' : Shared), Made H P c' q ps H1 → Inv X pins σ H1 s' → s'.heap.get? f = some (PySem.W.kla_obj "<lambda>" q params body scope (cloFrom X.env.cells scope.names []) pm c' ctv) → H1 c' = some (CodeO c' q) → Q (.ref f) s') :
    wpAny (model X.prog X.w) X.A (eval (.Lambda params body scope pos) X.env) Q E s := by
  subst hq
  have tabP := I.hok P _ hP
  have glob := I.mod.glob.keeps I.bk
  have code := TB.code.keeps I.bk
  have blt := TB.bm.keeps I.bk
  have clos := closure_ok hfree
  apply PySem.W.kla_eval hdef
  rcases hc : codeAmong pos ps.toList with _ | cv
  · apply PySem.W.kla_makeFunction clos I.ok.glob glob hcode code tabP ht hc TB.gP blt
    rintro c' ctv h' tk old ge lt ⟨c2, oc, vs, t, e, w1, w2, w3⟩ tab'
    cases e
    have free' : H c' = none := I.hok.fresh ge
    refine k _ c' _ ctv _ _ (.inr ⟨_, free', (ne_of_none hP free').symm, ?_, fun p' cv h => ?_, rfl⟩)
      (inv_table I hP (fun b o hb e => Heap.get?_push_of_some _ (old b o hb e)) (Heap.get?_push_of_some _ tab') ge ⟨oc, vs, t, Heap.get?_push_of_some _ w1, w2, w3⟩) (Heap.get?_push_size _ rfl) upd_same
    · rw [Array.toList_append]
      exact TriplesOk_snoc _ _ _ _ ht
    · rw [Array.toList_append] at h
      exact among_app _ ht h
  · obtain ⟨c', rfl, known⟩ := ha pos cv hc
    apply PySem.W.kla_makeFunctionHit clos I.ok.glob glob hcode code tabP ht hc blt
    exact fun ctv h' tk old _ => k _ c' _ ctv H _ (.inl rfl) (I.kept fun b o e => Heap.get?_push_of_some _ (old b o e)) (Heap.get?_push_size _ rfl) known
end
end Dv
/-! sorted(e, key=lambda at: rows[at][0]) -/
namespace Dv
open PySem PySem.Spec PyProof.Rows L2 LamX PySem.W
/-- the first cell of the row at i -/
def keyAt (rows : List D) (i : Int) : Option Int := match rows[i.toNat]? with
  | some (.tup (.int z :: _)) => some z
  | _ => none
def keyI (rows : List D) (i : Int) : Int := (keyAt rows i).getD 0
def sortK (rows : List D) (ns : List Int) : List Int := ns.mergeSort fun a b => decide (keyI rows a ≤ keyI rows b)
def sortLamD (x q : Str) (jr : Nat) (r : Env) (ds : List D) (S : Store) : Option D := match ds, r[jr]?, S[0]? with
  | [.lst xs], some (some (D.tup rows)), some (O.tbl x' q') => match intsOf xs with
    | some ns => if x' = x ∧ q' = q ∧ ns.length ≤ 1000 ∧ ∀ i ∈ ns, 0 ≤ i ∧ i < 1000000 ∧ (keyAt rows i).isSome = true then some (.lst ((sortK rows ns).map D.int)) else none
    | none => none
  | _, _, _ => none
def mSortLam (x q : Str) (jr : Nat) (ms : AM) : EM := fun r S => (ms r S).bind fun ds S1 => ofO (sortLamD x q jr r ds S1) S1
theorem sortLam_some {x q : Str} {jr : Nat} {r : Env} {ds : List D} {S : Store} {d : D} (h : sortLamD x q jr r ds S = some d) :
    ∃ rows ns, ds = [.lst (ns.map D.int)] ∧ r[jr]? = some (some (.tup rows)) ∧ S[0]? = some (.tbl x q) ∧ ns.length ≤ 1000 ∧ (∀ i ∈ ns, 0 ≤ i ∧ i < 1000000 ∧ (keyAt rows i).isSome = true) ∧ d = .lst ((sortK rows ns).map D.int) := by
  unfold sortLamD at h
  split at h
  · rename_i xs rows x' q' h1 h2
    split at h
    · rename_i ns hn
      split at h
      · rename_i c
        obtain ⟨rfl, rfl, c1, c2⟩ := c
        cases h
        exact ⟨rows, ns, by rw [intsOf_some hn], h1, h2, c1, c2, rfl⟩
      · cases h
    · cases h
  · cases h
theorem ints_each {vs : List Value} {ns : List Int} (h : PySem.W.EachIs (fun (v : Value) (i : Int) => ∃ t, v = .int i t) vs ns) : Vals (ns.map V.int) vs := by
  induction h with
  | nil => exact .nil
  | cons e _ ih => exact .cons e ih
theorem vals_each : ∀ {ns : List Int} {vs : List Value}, Vals (ns.map V.int) vs → PySem.W.EachIs (fun (v : Value) (i : Int) => ∃ t, v = .int i t) vs ns
  | [], _, .nil => .nil
  | _ :: _, _, .cons r t => .cons r (vals_each t)
section
variable {X : Cx} {Wx : WX}
theorem j_sortLam {c P : Addr} {x y z q : Str} {jr : Nat} {e : Expr} {ms : AM} {params : Arguments} {scope : Scope} {p pos lpos p1 p2 p3 p4 p5 : Pos} {kk : Nat} {kp : Pos} (TB : TabB X.base X.mg c P) (htb : TblAt X.K X.mg x P) (hcode : X.env.code = .ref c) (hq : X.env.qual ++ "<lambda>" = q)
    {kr : Nat} (hrm : Room kr X.A)
    (hg : Gl X "sorted") (hm : X.mg "sorted" = none) (hv : bootBuiltins "sorted" = some (.builtin "sorted")) (ha : PA X [e] (tDA X.K X.mg Wx ms))
    (hN : X.N[jr]? = some y) (hy : X.env.scope.names.lookup y = some .cell) (hdef : defaultsOf params X.env = ([], [])) (hk : scope.kind = .function) (hco : scope.isCoroutine = false) (hgen : scope.isGenerator = false) (hcell : ∀ n ∈ scope.names, n.2 ≠ .cell) (hz : scope.names.lookup z = some .local) (hyf : scope.names.lookup y = some .free)
    (hfree : ∀ n ∈ scope.names, n.2 = .free → X.env.scope.names.lookup n.1 = some .cell)
    (hbind : ∀ (pm c' ctv v : Value) (cl : List (Str × Addr)), bindArgs (PySem.W.kla_fn "<lambda>" q params (.Subscript (.Subscript (.Name y p1) (.Name z p2) p3) (.Constant (.int 0) kk p4) p5) scope cl pm c' ctv) ⟨[v], []⟩ = pure [(z, v)])
    (hdy : (y == ("__debug__" : Str)) = false := by decide) (hdz : (z == ("__debug__" : Str)) = false := by decide) (hcy : (y == ("__classdict__" : Str)) = false := by decide)
    (he : backTo pos (starEach [e] X.env) = (false, eval e X.env) :: backTo pos (starEach [] X.env) := by rfl) (hpl : (backTo pos (starEach [e] X.env)).any (·.1) = false := by rfl) :
    PE X (.Call (.Name "sorted" p) [e] [⟨some "key", .Lambda params (.Subscript (.Subscript (.Name y p1) (.Name z p2) p3) (.Constant (.int 0) kk p4) p5) scope lpos, kp⟩] pos) (tD X.K X.mg Wx (mSortLam x q jr ms)) := by
  refine ⟨fun pins s σ H Q I h => ?_⟩
  obtain ⟨T, r, S, rs, sim, h⟩ := h
  refine wpAny_Call_Name_kw (ld_blt I hg hm hv ?_)
  refine callWith_kw (thn (ha.run pos pins s σ H (fun vs H1 => ∃ T1 S1 ds d, Step T H T1 H1 ∧ Sim X.K X.mg T1 S1 H1 ∧ RepL X.K T1 H1 vs ds ∧ sortLamD x q jr r ds S1 = some d ∧ ∀ T2 H2 v, Step T1 H1 T2 H2 → Sim X.K X.mg T2 S1 H2 → Rep X.K T2 H2 v d → Q v H2) I ⟨T, r, S, rs, sim, ?_⟩) fun us s1 h1 => ?_) he hpl rfl rfl
  · exact Out.bind h fun ds S1 T1 H1 vs st sim1 rel h1 => Out.use h1 fun d ed k => ⟨T1, S1, ds, d, st, sim1, rel, ed, k⟩
  obtain ⟨vs, H1, I1, r1, T1, S1, ds, d, st, sim1, rel, ed, k⟩ := h1
  obtain ⟨rows, ns, rfl, hr, hS, hl, hns, rfl⟩ := sortLam_some ed
  obtain ⟨va, rfl, rv⟩ := rel.one
  cases rv
  rename_i a xs la offa rl
  obtain rfl := rl.of_ints
  rw [Vals.ref1 r1]
  have h0 : 0 < T1.loc.length := by
    rw [sim1.len]
    exact (List.getElem?_eq_some_iff.mp hS).1
  obtain ⟨P', hP'⟩ : ∃ P', T1.loc[0]? = some P' := ⟨_, List.getElem?_eq_getElem h0⟩
  obtain ⟨htb', ps, hH, ht, hcs⟩ := sim1.obj 0 P' _ hP' hS
  obtain rfl := htb.uniq htb'
  obtain ⟨vr, g1, g2⟩ := (rs.step st).2 jr _ hr
  cases g2
  rename_i ar xr lr offr rr
  refine wpAny_evalAll_cons (wpAny_bind (lam_mk I1 TB hcode hq hH ht (fun pos cv h => let ⟨c, a, b, _⟩ := hcs pos cv h; ⟨c, a, b⟩) hdef (fun n hn e => I1.ok.has _ (.inl (hfree n hn e))) fun f c' pm ctv H2 s2 md I2 hf hc' => ?_))
  refine wpAny_bind (wpAny_standAt (wpAny_pure ?_))
  obtain ⟨st2, sim2⟩ := made_sim sim1 hP' hS hH md
  obtain ⟨its, iv, pl, hzl⟩ := I2.list (SqL.of (st2.keep _ _ offa la))
  obtain ⟨itr, ir, tr, hzr⟩ := I2.tuple (SqT.of (st2.keep _ _ offr lr))
  refine wpAny_pure ?_
  refine PySem.W.sorted_key_data (fun i : Int => PyData.int (keyI rows i)) (b := false) (R := fun (v : Value) (i : Int) => ∃ t, v = .int i t) pl.isList (vals_each iv) (PySem.W.AllAlike.of fun _ _ => by simp [PySem.W.alike]) (PySem.W.Sortable.others fun _ => ⟨nofun, fun _ => nofun⟩) (by rw [sizeLine_eq]; omega) (fun i _ => ?_) (ksk_s1 _ _) (fun _ => ksk_l1 _ _) (fun x => ksk_t1 f x) (fun v i hR hi h tk kp => ?_) fun out cc h' tk old fr hD hlen hE => ?_
  · show X.A.units + 2 + 0 < cLine
    have := hrm.un
    omega
  · obtain ⟨t, rfl⟩ := hR
    obtain ⟨i0, i1, i2⟩ := hns i hi
    obtain ⟨j, rfl⟩ := Int.eq_ofNat_of_zero_le i0
    unfold keyAt at i2
    split at i2
    · rename_i zz rest hrow
      have hrow : rows[j]? = some (.tup (.int zz :: rest)) := hrow
      have hkey : keyI rows (j : Int) = zz := by
        unfold keyI keyAt
        rw [Int.toNat_natCast, hrow]
        rfl
      obtain ⟨vw, e1, e2⟩ := (rr.step st2).get hrow
      cases e2
      rename_i tw xw lw offw rw'
      obtain ⟨itw, iw, tww, _⟩ := I2.tuple (SqT.of lw)
      obtain ⟨v0, f1, f2⟩ := rw'.get (i := 0) rfl
      cases f2
      obtain ⟨uw, q1, q2⟩ := ir.get e1
      obtain rfl : uw = Value.ref tw := q2
      obtain ⟨uz, z1, z2⟩ := iw.get f1
      obtain ⟨tz, rfl⟩ := z2
      obtain ⟨m, hNs, hloc⟩ := I2.loc
      obtain ⟨u, ru, lk⟩ := hloc jr y _ hN g1 (.inr (.inl hy))
      obtain rfl : u = Value.ref ar := ru
      rcases lk with ⟨w1, _⟩ | ⟨_, cy, w1, w2⟩
      · have w1 : X.env.scope.names.lookup y = some .local := w1
        rw [hy] at w1
        cases w1
      · obtain ⟨⟨oc, vs, tc, hoc, hdc, hvc⟩, _, _⟩ := I2.hok c' _ hc'
        have hcl : (cloFrom X.env.cells scope.names []).lookup y = some cy := by
          obtain ⟨c2, h2⟩ := mem_lookup (cloFrom_has (cells := X.env.cells) (acc := []) (PySem.mem_of_lookup hyf))
          rcases cloFrom_mem (PySem.mem_of_lookup h2) with hm | ⟨_, h4⟩
          · cases hm
          · rw [h2, h4, w1]
            rfl
        rw [hkey]
        refine lam_turn (s := { s2 with heap := h, toks := tk }) (items := itr.toArray) (its := itw.toArray) (t := tw) (tz := tz) (r := ar) (kp _ _ hf) ⟨c', oc, vs, tc, rfl, kp _ _ hoc, hdc, hvc⟩ ?_ (I2.nolimit.keeps kp) (hbind _ _ _ _ _) hk hco hgen hcell hz hyf hcl ?_ ?_ (by simpa using q1) (by omega) ?_ (by simpa using z1) hdy hdz hcy fun h' tk' kp' => ⟨h', tk', rfl, kp', .int _ _⟩
        · show X.A.depth < recursionLimit
          have := hrm.dp
          omega
        · obtain ⟨o, a1, a2⟩ := w2
          exact ⟨o, kp _ _ a1, a2⟩
        · obtain ⟨o, a1, a2⟩ := tr
          exact ⟨o, kp _ _ a1, a2⟩
        · obtain ⟨o, a1, a2⟩ := tww
          exact ⟨o, kp _ _ a1, a2⟩
    · cases i2
  · have hz2 : ((sortK rows ns).map V.int).length ≤ sizeLine := by
      rw [List.length_map, sortK, List.length_mergeSort, sizeLine_eq]
      omega
    have new : H2 (s2.heap.objs.size + 1) = none := by
      cases q : H2 (s2.heap.objs.size + 1) with
      | none => rfl
      | some u =>
        have := I2.hok.fresh (Nat.le_succ s2.heap.objs.size)
        rw [this] at q
        cases q
    rw [PySem.W.dataLe_int] at hE
    refine ⟨.ref (s2.heap.objs.size + 1), upd H2 (s2.heap.objs.size + 1) (.lst ((sortK rows ns).map V.int)), I2.laid old (Nat.le_succ _) ⟨hz2, out, cc, ints_each hE, hD⟩, rfl, ?_⟩
    have st3 := sim2.stepNew (o := .lst ((sortK rows ns).map V.int)) new
    exact k T1 _ _ (st2.trans st3) (sim2.new new (hlen_lst sim2.hl hz2)) (.lst upd_same (sim2.off new) (RepL.ints _))
end
end Dv
namespace Dv
open PySem L2
section
variable {P : Program} {w : World} {K : PySem.W.Frag} {mg : Str → Option Value} {base : Heap} {x qual : Str} {st : Stmt} {f : Addr} {fd : FuncData} {N ps : List Str} {k : Nat} {b : SM}
abbrev BodyC (P : Program) (w : World) (K : PySem.W.Frag) (mg : Str → Option Value) (base : Heap) (N : List Str) (qual : Str) (st : Stmt) (f : Addr) (k : Nat) (b : SM) (cdv : Value) : Prop :=
  ∀ (A : Around) (outer : List PySem.Env) (s : Shared) (H : Hp) (E : XK), Room k (A.deeper (PyProof.Rows.envOfC qual (defScope st) s.heap.objs.size f cdv)) →
    PSs (cxOf (L2.CX P w) P w K mg base N qual (defScope st) f cdv A outer s H E) (defBody st) (tDS K mg (fun c d _ H => E c d H) b)
/-- .. the def's own code object known -/
theorem fnTC (F : Fun K x qual st f fd) (Sc : FnScope N ps (defScope st)) (hb : BodyC P w K mg base N qual st f k b fd.code) : FnOk P w K mg base (L2.CX P w) (k + 1) f fd ps (spD K mg ps.length (runT N.length b)) := by
  obtain ⟨oc, od, kV, doc, pm, an, cdv, ct, osl, rfl, lk, hcd⟩ := F.ex
  refine fn_of lk hcd Sc (fun vs H Q E h => h.1) fun A outer s H vs Q E hr hsp => ⟨_, hb A outer s H E hr, ?_⟩
  obtain ⟨hl, T, S, ds, rep, sim, out⟩ := hsp
  refine ⟨T, frame N.length ds, S, frame_ok N rep, sim, ?_⟩
  unfold runT finT at out
  revert out
  cases b (frame N.length ds) S with
  | bad => exact fun h => h
  | exc n r' S' =>
    intro h T' H' g' s sim' _
    dsimp only at h
    split at h
    · rename_i tr
      obtain ⟨s1, m1⟩ := tr_back sim s sim' tr
      exact h T H' s1 m1
    · exact h.elim
  | ok fl r' S' =>
    cases fl with
    | next =>
      intro h T' H' g' s sim' rs'
      dsimp only at h
      split at h
      · rename_i tr
        obtain ⟨s1, m1⟩ := tr_back sim s sim' tr
        exact h T H' .non s1 m1 .non
      · exact h.elim
    | ret d =>
      intro h T' H' v s sim' rv
      dsimp only at h
      split at h
      · rename_i tr
        obtain ⟨s1, m1⟩ := tr_back sim s sim' tr
        split at h
        · rename_i d' ed
          exact h T H' v s1 m1 (fz_back sim s sim' rv ed)
        · exact h.elim
      · exact h.elim
    | brk => exact fun h => h.elim
    | cont => exact fun h => h.elim
end
/-- the law's def, started with one table in the store -/
theorem law_fnT {P : Program} {w : World} {K : PySem.W.Frag} {mg : Str → Option Value} {base : Heap} {CX : CXT} {k : Nat} {f tP : Addr} {fd : FuncData} {x q : Str} {F : Nat → List D → Store → R D} (hT : TblAt K mg x tP) (h : ∀ fu, FnOk P w K mg base CX k f fd ["script"] (spD K mg 1 (F fu)))
    (ht : ∀ ns : List Int, ns.length ≤ 63 → ∃ fu S, F fu [.scr ns] [.tbl x q] = .ok (.bl true) S) :
    FnOk P w K mg base CX k f fd ["script"] (fun vs H Q E => H tP = some (.tbl #[]) ∧ spLaw K vs H Q E) := by
  refine ⟨fun vs H Q E q => ?_, fun A outer s H args us vs Q E hr he hb hv hs => ?_⟩
  · obtain ⟨_, a, ns, rfl, _⟩ := q
    rfl
  · obtain ⟨hP, a, ns, rfl, hq, hl, hQ⟩ := hs
    obtain ⟨fu, S', e⟩ := ht ns hl
    have na : ∀ {u}, Rd H a (.lst u) → a ≠ tP := fun {u} r z => by
      rw [z] at r
      rcases r with r | ⟨o, r⟩ <;> rw [hP] at r <;> cases r
    refine (h fu).run A outer s H args us _ Q E hr he hb hv ⟨rfl, ⟨[tP], []⟩, [.tbl x q], [.scr ns], .cons (.scr ?_) .nil, ⟨rfl, by simp, fun i b o h1 h2 => ?_, fun a h1 => ?_, hlen_of he.hok⟩, ?_⟩
    · rcases hq with hq | hq
      · exact .inl ⟨hq, fun z => na hq (List.mem_singleton.mp z), (by intro z; cases z)⟩
      · exact .inr (.inr hq)
    · cases i with
      | zero =>
        cases h1
        cases h2
        exact ⟨hT, #[], hP, True.intro, fun pos cv hc => by
          have z : codeAmong pos [] = some cv := hc
          simp [codeAmong] at z⟩
      | succ n => simp at h1
    · cases h1
    · rw [e]
      intro T' H' v _ _ r
      rw [r.bl_of]
      exact hQ H'
end Dv
namespace Dv
open PySem L2
theorem tab_in {K : PySem.W.Frag} {c P : Addr} (e : PySem.W.codeHdIn K c P = true) : ∃ (oc : Value) (od : Option Addr) (vs : Array Value) (sl : Array (Option Value)), K.lookup c = some ⟨oc, od, .fields vs, sl⟩ ∧ vs[11]? = some (.ref P) := by
  unfold PySem.W.codeHdIn at e
  split at e
  · rename_i od vs sl hk
    refine ⟨_, od, vs, sl, hk, ?_⟩
    simp only [Bool.and_eq_true] at e
    obtain ⟨⟨⟨⟨⟨e1, _⟩, _⟩, _⟩, _⟩, _⟩ := e
    split at e1
    · rename_i P' h
      rw [h, beq_iff_eq.mp e1]
    · cases e1
  · cases e
theorem tblAt_mk {K : PySem.W.Frag} {mg : Str → Option Value} {x : Str} {f c P : Addr} {oc : Value} {od : Option Addr} {fd : FuncData} {sl : Array (Option Value)} (hm : mg x = some (.ref f)) (hk : K.lookup f = some ⟨oc, od, .func fd, sl⟩) (hc : fd.code = .ref c) (e : PySem.W.codeHdIn K c P = true) : TblAt K mg x P := by
  obtain ⟨oc2, od2, vs, sl2, h1, h2⟩ := tab_in e
  exact ⟨f, c, oc, oc2, od, od2, fd, sl, sl2, vs, hm, hk, hc, h1, h2⟩
end Dv
/-! the leaping of rows, in plain lists -/
namespace Lp
/-- the row behind one look -/
def nxt (g : Int) (l : List Int) : List Int := if l.head? = some g then l.tail else l.dropWhile fun x => decide (x < g)
def fnd (g : Int) (l : List Int) : List Int := if l.head? = some g then [g] else []
def run : Nat → List Nat → List (List Int) → Int → List Int → Nat → Option (List Int × Nat)
  | 0, _, _, _, _, _ => none
  | _ + 1, [], _, _, _, _ => none
  | fu + 1, i :: ord, left, g, found, looks =>
    match nxt g (left.getD i []) with
    | [] => some (found ++ fnd g (left.getD i []), looks + 1)
    | y :: l => run fu (ord ++ [i]) (left.set i (y :: l)) y (found ++ fnd g (left.getD i [])) (looks + 1)
/-- the first value of the row with the number i -/
def hd (left : List (List Int)) (i : Nat) : Int := (left.getD i []).headD 0
structure Inv (ord : List Nat) (left : List (List Int)) (g : Int) : Prop where
  len : ord.length = left.length
  nd : ord.Nodup
  mem : ∀ i, i ∈ ord ↔ i < left.length
  ne : ∀ l ∈ left, l ≠ []
  up : ∀ l ∈ left, l.Pairwise (· < ·)
  asc : ord.Pairwise fun i j => hd left i ≤ hd left j
  le : ∀ i ∈ ord, hd left i ≤ g
  last : ∃ o z, ord = o ++ [z] ∧ hd left z = g
theorem dropWhile_up {g : Int} : ∀ {l : List Int}, l.Pairwise (· < ·) → (l.dropWhile fun x => decide (x < g)) = l.filter fun x => decide (g ≤ x)
  | [], _ => rfl
  | x :: l, h => by
    rw [List.pairwise_cons] at h
    by_cases c : x < g
    · rw [List.dropWhile_cons_of_pos (by simpa using c), dropWhile_up h.2, List.filter_cons_of_neg (by simp; omega)]
    · rw [List.dropWhile_cons_of_neg (by simpa using c), List.filter_cons_of_pos (by simp; omega), List.filter_eq_self.mpr]
      intro y hy
      have := h.1 y hy
      simp
      omega
theorem mem_nxt {g : Int} {l : List Int} (up : l.Pairwise (· < ·)) (x : Int) : x ∈ nxt g l ↔ x ∈ l ∧ (if l.head? = some g then g < x else g ≤ x) := by
  unfold nxt
  split
  · rename_i h
    cases l with
    | nil => cases h
    | cons y l =>
      cases h
      rw [List.pairwise_cons] at up
      rw [List.tail_cons, List.mem_cons]
      constructor
      · intro hx
        exact ⟨.inr hx, up.1 x hx⟩
      · rintro ⟨rfl | hx, h⟩
        · omega
        · exact hx
  · rw [dropWhile_up up, List.mem_filter]
    simp
theorem nxt_up {g : Int} {l : List Int} (up : l.Pairwise (· < ·)) : (nxt g l).Pairwise (· < ·) := by
  unfold nxt
  split
  · exact up.sublist (List.tail_sublist l)
  · exact up.sublist (List.dropWhile_sublist _)
theorem nxt_len {g : Int} {l : List Int} (hn : l ≠ []) (hg : l.headD 0 ≤ g) : (nxt g l).length < l.length := by
  cases l with
  | nil => exact absurd rfl hn
  | cons y l =>
    unfold nxt
    split
    · simp
    · rename_i h
      have hy : y < g := by
        have h1 : y ≤ g := hg
        have h2 : y ≠ g := fun e => h (by rw [e]; rfl)
        omega
      rw [List.dropWhile_cons_of_pos (by simpa using hy)]
      have := (List.dropWhile_sublist (l := l) fun x => decide (x < g)).length_le
      simp
      omega
/-- the first that is left is no less -/
theorem nxt_head {g y : Int} {l l' : List Int} (up : l.Pairwise (· < ·)) (e : nxt g l = y :: l') : g ≤ y := by
  have := (mem_nxt (g := g) up y).mp (by rw [e]; exact List.mem_cons_self)
  split at this <;> omega
theorem hd_set_ne {left : List (List Int)} {i j : Nat} {l : List Int} (h : i ≠ j) : hd (left.set i l) j = hd left j := by
  unfold hd
  rw [List.getD_eq_getElem?_getD, List.getD_eq_getElem?_getD, List.getElem?_set_ne h]
theorem hd_set_self {left : List (List Int)} {i : Nat} {l : List Int} (h : i < left.length) : hd (left.set i l) i = l.headD 0 := by
  unfold hd
  rw [List.getD_eq_getElem?_getD, List.getElem?_set_self h]
  rfl
theorem getD_mem {left : List (List Int)} {i : Nat} (h : i < left.length) : left.getD i [] ∈ left := by
  rw [List.getD_eq_getElem?_getD, List.getElem?_eq_getElem h]
  exact List.getElem_mem h
theorem Inv.step {i : Nat} {ord : List Nat} {left : List (List Int)} {g y : Int} {l : List Int} (h : Inv (i :: ord) left g) (e : nxt g (left.getD i []) = y :: l) : Inv (ord ++ [i]) (left.set i (y :: l)) y := by
  have hi : i < left.length := (h.mem i).mp List.mem_cons_self
  have hm := getD_mem hi
  have gy : g ≤ y := nxt_head (h.up _ hm) e
  have nd := List.nodup_cons.mp h.nd
  have as := List.pairwise_cons.mp h.asc
  have ne : ∀ j ∈ ord, i ≠ j := fun j hj q => nd.1 (q ▸ hj)
  have hs : hd (left.set i (y :: l)) i = y := hd_set_self hi
  have hle : ∀ j ∈ ord, hd (left.set i (y :: l)) j ≤ y := fun j hj => by
    rw [hd_set_ne (ne j hj)]
    have := h.le j (List.mem_cons_of_mem _ hj)
    omega
  refine ⟨by rw [List.length_append, List.length_set, ← h.len]; rfl, ?_, ?_, ?_, ?_, ?_, ?_, ⟨ord, i, rfl, hs⟩⟩
  · rw [List.nodup_append]
    refine ⟨nd.2, by simp, fun a ha b hb => ?_⟩
    rw [List.mem_singleton] at hb
    subst hb
    exact fun q => ne a ha q.symm
  · intro j
    rw [List.length_set, ← h.mem j, List.mem_append, List.mem_singleton, List.mem_cons]
    exact or_comm
  · intro z hz
    rcases List.mem_or_eq_of_mem_set hz with q | rfl
    · exact h.ne z q
    · simp
  · intro z hz
    rcases List.mem_or_eq_of_mem_set hz with q | rfl
    · exact h.up z q
    · rw [← e]
      exact nxt_up (h.up _ hm)
  · rw [List.pairwise_append]
    refine ⟨?_, by simp, fun a ha b hb => ?_⟩
    · refine List.Pairwise.imp_of_mem ?_ as.2
      intro a b ha hb q
      rw [hd_set_ne (ne a ha), hd_set_ne (ne b hb)]
      exact q
    · rw [List.mem_singleton] at hb
      subst hb
      rw [hs]
      exact hle a ha
  · intro j hj
    rw [List.mem_append, List.mem_singleton] at hj
    rcases hj with hj | rfl
    · exact hle j hj
    · rw [hs]
      omega
/-- in all of them -/
def com (left : List (List Int)) (x : Int) : Prop := ∀ l ∈ left, x ∈ l
theorem com_set {left : List (List Int)} {i : Nat} {l' : List Int} (hi : i < left.length) (P : Prop) (x : Int) (h : x ∈ l' ↔ x ∈ left.getD i [] ∧ P) : com (left.set i l') x ↔ com left x ∧ (x ∈ left.getD i [] → P) := by
  constructor
  · intro c
    have hx : x ∈ l' := c l' (List.mem_set hi l')
    refine ⟨fun l hl => ?_, fun _ => (h.mp hx).2⟩
    obtain ⟨j, hj, rfl⟩ := List.mem_iff_getElem.mp hl
    by_cases q : i = j
    · subst q
      have := (h.mp hx).1
      rw [List.getD_eq_getElem?_getD, List.getElem?_eq_getElem hj] at this
      exact this
    · refine c _ (List.mem_iff_getElem.mpr ⟨j, by rw [List.length_set]; exact hj, ?_⟩)
      rw [List.getElem_set_ne q]
  · rintro ⟨c, p⟩ l hl
    rcases List.mem_or_eq_of_mem_set hl with q | rfl
    · exact c l q
    · have := c _ (getD_mem hi)
      exact h.mpr ⟨this, p this⟩
/-- what all have, split at one look -/
theorem com_step {i : Nat} {ord : List Nat} {left : List (List Int)} {g : Int} (h : Inv (i :: ord) left g) (x : Int) :
    com left x ↔ x ∈ fnd g (left.getD i []) ∨ com (left.set i (nxt g (left.getD i []))) x := by
  have hi : i < left.length := (h.mem i).mp List.mem_cons_self
  have hm := getD_mem hi
  rw [com_set hi _ x (mem_nxt (h.up _ hm) x)]
  by_cases c : (left.getD i []).head? = some g
  · simp only [fnd, c, if_true, List.mem_singleton]
    have hg : hd left i = g := by
      unfold hd
      rw [List.headD_eq_head?_getD, c]
      rfl
    have all : ∀ l ∈ left, l.head? = some g := fun l hl => by
      obtain ⟨j, hj, rfl⟩ := List.mem_iff_getElem.mp hl
      have h1 := h.ne _ hl
      have hj' : j ∈ i :: ord := (h.mem j).mpr hj
      have h2 := h.le j hj'
      have h3 : hd left i ≤ hd left j := by
        rcases List.mem_cons.mp hj' with rfl | q
        · exact Int.le_refl _
        · exact (List.pairwise_cons.mp h.asc).1 j q
      have h4 : hd left j = g := by omega
      unfold hd at h4
      rw [List.getD_eq_getElem?_getD, List.getElem?_eq_getElem hj, Option.getD_some] at h4
      cases el : left[j] with
      | nil => exact absurd el h1
      | cons a b =>
        rw [el] at h4
        show some a = some g
        rw [show a = g from h4]
    constructor
    · intro cm
      by_cases q : x = g
      · exact .inl q
      · refine .inr ⟨cm, fun hx => ?_⟩
        cases el : left.getD i [] with
        | nil => rw [el] at hx; cases hx
        | cons a b =>
          have up := h.up _ hm
          rw [el] at hx c up
          cases c
          rcases List.mem_cons.mp hx with r | r
          · exact absurd r q
          · exact (List.pairwise_cons.mp up).1 x r
    · rintro (rfl | ⟨cm, _⟩)
      · exact fun l hl => List.mem_of_mem_head? (all l hl)
      · exact cm
  · simp only [fnd, c, if_false, List.not_mem_nil, false_or]
    constructor
    · intro cm
      refine ⟨cm, fun hx => ?_⟩
      obtain ⟨o, z, eo, ez⟩ := h.last
      have hz : z < left.length := (h.mem z).mp (by rw [eo]; simp)
      have hx2 := cm _ (getD_mem hz)
      have up := h.up _ (getD_mem hz)
      unfold hd at ez
      cases el : left.getD z [] with
      | nil => exact absurd el (h.ne _ (getD_mem hz))
      | cons a b =>
        rw [el] at hx2 up ez
        have ea : a = g := ez
        rcases List.mem_cons.mp hx2 with r | r
        · omega
        · have := (List.pairwise_cons.mp up).1 x r
          omega
    · exact fun q => q.1
def tot (left : List (List Int)) : Nat := (left.map List.length).sum
theorem tot_set : ∀ {left : List (List Int)} {i : Nat} {l : List Int}, i < left.length → l.length < (left.getD i []).length → tot (left.set i l) < tot left
  | [], _, _, h, _ => by cases h
  | x :: left, 0, l, _, h2 => by
    show (List.length l :: left.map List.length).sum < (x.length :: left.map List.length).sum
    have : l.length < x.length := h2
    simp
    omega
  | x :: left, i + 1, l, h1, h2 => by
    have := tot_set (left := left) (i := i) (l := l) (by simpa using h1) h2
    unfold tot at this ⊢
    rw [List.set_cons_succ, List.map_cons, List.map_cons, List.sum_cons, List.sum_cons]
    omega
theorem run_ok : ∀ (fu : Nat) {ord : List Nat} {left : List (List Int)} {g : Int} (found : List Int) (looks : Nat), Inv ord left g → tot left < fu →
    ∃ (r : List Int) (L : Nat), run fu ord left g found looks = some (found ++ r, looks + L) ∧ r.Pairwise (· < ·) ∧ (∀ x ∈ r, g ≤ x) ∧ (∀ x, x ∈ r ↔ com left x) ∧ 1 ≤ L ∧ r.length ≤ L ∧
      ∀ p i, ord[p]? = some i → L ≤ p + 1 + left.length * ((left.getD i []).length - 1)
  | 0, _, _, _, _, _, _, h => by omega
  | fu + 1, [], left, g, found, looks, h, _ => by
    obtain ⟨o, z, e, _⟩ := h.last
    cases o <;> cases e
  | fu + 1, i :: ord, left, g, found, looks, h, hf => by
    have hi : i < left.length := (h.mem i).mp List.mem_cons_self
    have hm := getD_mem hi
    have hlen := nxt_len (g := g) (h.ne _ hm) (h.le i List.mem_cons_self)
    have cs := com_step h
    have ml : (fnd g (left.getD i [])).length ≤ 1 := by unfold fnd; split <;> simp
    have mg : ∀ x ∈ fnd g (left.getD i []), x = g := fun x hx => by
      unfold fnd at hx
      split at hx
      · exact List.mem_singleton.mp hx
      · cases hx
    have pf : (fnd g (left.getD i [])).Pairwise (· < ·) := by unfold fnd; split <;> simp
    show ∃ (r : List Int) (L : Nat), (match nxt g (left.getD i []) with
      | [] => some (found ++ fnd g (left.getD i []), looks + 1)
      | y :: l => run fu (ord ++ [i]) (left.set i (y :: l)) y (found ++ fnd g (left.getD i [])) (looks + 1)) = _ ∧ _
    split
    · rename_i e
      refine ⟨_, 1, rfl, pf, fun x hx => by rw [mg x hx]; omega, fun x => ?_, by omega, ml, fun p j _ => by omega⟩
      rw [cs x, e]
      constructor
      · exact .inl
      · rintro (q | q)
        · exact q
        · exact absurd (q [] (List.mem_set hi [])) (by simp)
    · rename_i y l e
      have st := h.step e
      rw [e] at hlen cs
      obtain ⟨r, L, a1, a2, a3, a4, a5, a6, a7⟩ := run_ok fu (found ++ fnd g (left.getD i [])) (looks + 1) st (by
        have := tot_set (l := y :: l) hi hlen
        omega)
      have gy := nxt_head (h.up _ hm) e
      refine ⟨fnd g (left.getD i []) ++ r, L + 1, ?_, ?_, ?_, ?_, by omega, by rw [List.length_append]; omega, ?_⟩
      · rw [a1, List.append_assoc]
        congr 2
        omega
      · rw [List.pairwise_append]
        refine ⟨pf, a2, fun a ha b hb => ?_⟩
        have e1 := mg a ha
        have e2 := a3 b hb
        have e3 : g ≠ y ∨ g = y := by omega
        rcases e3 with e3 | e3
        · omega
        · exfalso
          subst e3
          have hy := (mem_nxt (g := g) (h.up _ hm) g).mp (by rw [e]; exact List.mem_cons_self)
          unfold fnd at ha
          split at ha
          · rename_i q
            rw [if_pos q] at hy
            omega
          · cases ha
      · intro x hx
        rcases List.mem_append.mp hx with q | q
        · rw [mg x q]; omega
        · have := a3 x q
          omega
      · intro x
        rw [List.mem_append, a4, cs x]
      · intro p j hp
        cases p with
        | zero =>
          cases hp
          have hn : ord.length + 1 = left.length := h.len
          have := a7 ord.length i (by rw [List.getElem?_append_right (Nat.le_refl _), Nat.sub_self]; rfl)
          rw [List.length_set, List.getD_eq_getElem?_getD, List.getElem?_set_self hi, Option.getD_some] at this
          have e1 : (left.getD i []).length - 1 = ((left.getD i []).length - 2) + 1 := by
            simp only [List.length_cons] at hlen
            omega
          have e2 : (y :: l).length - 1 ≤ (left.getD i []).length - 2 := by omega
          have e3 := Nat.mul_le_mul_left left.length e2
          rw [e1, Nat.mul_succ]
          omega
        | succ p =>
          have hp' : ord[p]? = some j := hp
          have hjo : j ∈ ord := List.mem_of_getElem? hp'
          have hne : i ≠ j := fun q => (List.nodup_cons.mp h.nd).1 (q ▸ hjo)
          have := a7 p j (by rw [List.getElem?_append_left (List.getElem?_eq_some_iff.mp hp').1]; exact hp')
          rw [List.length_set, List.getD_eq_getElem?_getD, List.getElem?_set_ne hne, ← List.getD_eq_getElem?_getD] at this
          omega
/-- how it begins -/
theorem inv_start {ord : List Nat} {rows : List (List Int)} {g : Int} (hp : ord.Perm (List.range rows.length)) (hne : ∀ l ∈ rows, l ≠ []) (hup : ∀ l ∈ rows, l.Pairwise (· < ·)) (ha : ord.Pairwise fun i j => hd rows i ≤ hd rows j)
    (h0 : rows ≠ []) (hg : ∃ l ∈ rows, l.headD 0 = g) (hm : ∀ l ∈ rows, l.headD 0 ≤ g) : Inv ord rows g := by
  have mem : ∀ i, i ∈ ord ↔ i < rows.length := fun i => by rw [hp.mem_iff, List.mem_range]
  have len : ord.length = rows.length := by rw [hp.length_eq, List.length_range]
  have le : ∀ i ∈ ord, hd rows i ≤ g := fun i hi => hm _ (getD_mem ((mem i).mp hi))
  refine ⟨len, hp.nodup_iff.mpr List.nodup_range, mem, hne, hup, ha, le, ?_⟩
  rcases List.eq_nil_or_concat ord with rfl | ⟨o, z, rfl⟩
  · exact absurd (List.eq_nil_of_length_eq_zero len.symm) h0
  · rw [List.concat_eq_append] at *
    refine ⟨o, z, rfl, ?_⟩
    obtain ⟨l, hl, e⟩ := hg
    obtain ⟨j, hj, rfl⟩ := List.mem_iff_getElem.mp hl
    have e' : hd rows j = g := by
      unfold hd
      rw [List.getD_eq_getElem?_getD, List.getElem?_eq_getElem hj]
      exact e
    have hz := le z (by simp)
    have := (mem j).mpr hj
    rcases List.mem_append.mp this with q | q
    · have := (List.pairwise_append.mp ha).2.2 j q z (by simp)
      omega
    · rw [List.mem_singleton] at q
      subst q
      exact e'
/-- moved on all alike -/
theorem dropWhile_move (b g : Int) : ∀ l : List Int, (l.map (· + b)).dropWhile (fun x => decide (x < g + b)) = (l.dropWhile fun x => decide (x < g)).map (· + b)
  | [] => rfl
  | x :: l => by
    by_cases c : x < g
    · rw [List.map_cons, List.dropWhile_cons_of_pos (by simp; omega), List.dropWhile_cons_of_pos (by simpa using c), dropWhile_move b g l]
    · rw [List.map_cons, List.dropWhile_cons_of_neg (by simp; omega), List.dropWhile_cons_of_neg (by simpa using c), List.map_cons]
theorem head_move (b g : Int) (l : List Int) : (l.map (· + b)).head? = some (g + b) ↔ l.head? = some g := by
  cases l with
  | nil => simp
  | cons x l =>
    simp
theorem nxt_move (b g : Int) (l : List Int) : nxt (g + b) (l.map (· + b)) = (nxt g l).map (· + b) := by
  unfold nxt
  by_cases c : l.head? = some g
  · rw [if_pos c, if_pos ((head_move b g l).mpr c), List.map_tail]
  · rw [if_neg c, if_neg fun q => c ((head_move b g l).mp q), dropWhile_move]
theorem fnd_move (b g : Int) (l : List Int) : fnd (g + b) (l.map (· + b)) = (fnd g l).map (· + b) := by
  unfold fnd
  by_cases c : l.head? = some g
  · rw [if_pos c, if_pos ((head_move b g l).mpr c)]
    rfl
  · rw [if_neg c, if_neg fun q => c ((head_move b g l).mp q)]
    rfl
theorem getD_move (b : Int) (left : List (List Int)) (i : Nat) : (left.map (List.map (· + b))).getD i [] = (left.getD i []).map (· + b) := by
  rw [List.getD_eq_getElem?_getD, List.getD_eq_getElem?_getD, List.getElem?_map]
  cases left[i]? <;> rfl
theorem run_move (b : Int) : ∀ (fu : Nat) (ord : List Nat) (left : List (List Int)) (g : Int) (found : List Int) (looks : Nat),
    run fu ord (left.map (List.map (· + b))) (g + b) (found.map (· + b)) looks = (run fu ord left g found looks).map (Prod.map (List.map (· + b)) id)
  | 0, _, _, _, _, _ => rfl
  | fu + 1, [], left, g, found, looks => rfl
  | fu + 1, i :: ord, left, g, found, looks => by
    show (match nxt (g + b) ((left.map (List.map (· + b))).getD i []) with
      | [] => some (found.map (· + b) ++ fnd (g + b) ((left.map (List.map (· + b))).getD i []), looks + 1)
      | y :: l => run fu (ord ++ [i]) ((left.map (List.map (· + b))).set i (y :: l)) y (found.map (· + b) ++ fnd (g + b) ((left.map (List.map (· + b))).getD i [])) (looks + 1)) = (match nxt g (left.getD i []) with
      | [] => some (found ++ fnd g (left.getD i []), looks + 1)
      | y :: l => run fu (ord ++ [i]) (left.set i (y :: l)) y (found ++ fnd g (left.getD i [])) (looks + 1)).map (Prod.map (List.map (· + b)) id)
    rw [getD_move, nxt_move, fnd_move, ← List.map_append]
    cases nxt g (left.getD i []) with
    | nil => rfl
    | cons y l =>
      have := run_move b fu (ord ++ [i]) (left.set i (y :: l)) y (found ++ fnd g (left.getD i [])) (looks + 1)
      rw [List.map_set] at this
      exact this
theorem dropWhile_at {l : List Int} {s p : Nat} {g : Int} (up : l.Pairwise (· < ·)) (h1 : s ≤ p) (h2 : p ≤ l.length) (h3 : ∀ x, s < p → l[p - 1]? = some x → x < g) (h4 : ∀ x, l[p]? = some x → g ≤ x) : ((l.drop s).dropWhile fun x => decide (x < g)) = l.drop p := by
  have e : l.drop s = (l.drop s).take (p - s) ++ l.drop p := by
    conv => lhs; rw [← List.take_append_drop (p - s) (l.drop s)]
    rw [List.drop_drop]
    congr 2
    omega
  rw [e, List.dropWhile_append_of_pos]
  · cases hd : l.drop p with
    | nil => rfl
    | cons x l' =>
      have : l[p]? = some x := by
        have q := congrArg List.head? hd
        rw [List.head?_drop] at q
        exact q
      have := h4 x this
      rw [List.dropWhile_cons_of_neg (by simp; omega)]
  · intro a ha
    obtain ⟨j, hj, rfl⟩ := List.mem_iff_getElem.mp ha
    rw [List.length_take, List.length_drop] at hj
    rw [List.getElem_take, List.getElem_drop]
    have hp1 : p - 1 < l.length := by omega
    have hx := h3 _ (by omega) (List.getElem?_eq_getElem hp1)
    have hle : l[s + j]'(by omega) ≤ l[p - 1] := by
      by_cases q : s + j = p - 1
      · simp only [q]
        exact Int.le_refl _
      · have := List.pairwise_iff_getElem.mp up (s + j) (p - 1) (by omega) hp1 (by omega)
        omega
    simp
    omega
end Lp
/-! leap -/
namespace Dv
open PySem L2
noncomputable def mLeapB (fu : Nat) : SM := (sSeq (sSet 7 (mBin ixD (mVar 1) (mBin modD (mVar 6) (mCall lenD (mCons (mVar 0) mNil)))))
    (sSeq (sSet 8 (mBin ixD (mVar 0) (mVar 7)))
    (sSeq (sIf (mT (mBin eqD (mBin ixD (mVar 8) (mBin ixD (mVar 3) (mVar 7))) (mVar 2))) (sSeq (sDrop (mAppend (mVar 4) (mVar 2)))
    (sAugIx (fun i j => i + j) (mVar 3) (mVar 7) (mC (.int 1)))) (sSetIx (mVar 3) (mVar 7) (mApp 3 (FFirst fu) (mCons (mVar 8) (mCons (mBin ixD (mVar 3) (mVar 7)) (mCons (mVar 2) mNil))))))
    (sSeq (sAug 5 (fun i j => i + j) (mC (.int 1)))
    (sSeq (sIf (mT (mBin eqD (mBin ixD (mVar 3) (mVar 7)) (mCall lenD (mCons (mVar 8) mNil)))) (sRet (mTup (mCons (mCall tupD (mCons (mVar 4) mNil)) (mCons (mVar 5) mNil)))) sNil)
    (sSeq (sSet 2 (mBin ixD (mVar 8) (mBin ixD (mVar 3) (mVar 7))))
    (sAug 6 (fun i j => i + j) (mC (.int 1)))))))))
noncomputable def mLeap (x q : Str) (fu : Nat) : SM :=
    (sSeq (sIf (mNotT (mTru (mCall allTD (mCons (mVar 0) mNil)))) (sRet (mTup (mCons (mTup mNil) (mCons (mC (.int 0)) mNil)))) sNil)
    (sSeq (sSet 1 (mSortLam x q 0 (mCons (mCall lstRngD (mCons (mCall lenD (mCons (mVar 0) mNil)) mNil)) mNil)))
    (sSeq (sAsg (mTup (mCons (mBinN repN (mLst (mCons (mC (.int 0)) mNil)) (mCall lenD (mCons (mVar 0) mNil))) (mCons (mNewL mNil) (mCons (mC (.int 0)) (mCons (mC (.int 0)) mNil))))) (tgT 4 (tgsCons (tgN 3) (tgsCons (tgN 4) (tgsCons (tgN 5) (tgsCons (tgN 6) tgsNil))))))
    (sSeq (sSet 2 (mCall maxD (mCons (mLc (mIter (mVar 0)) [8] (tgN 8) mYes (mBin ixD (mVar 8) (mC (.int 0)))) mNil)))
    (sWhile (mTru (mC (.bl true))) (mLeapB fu) fu)))))
noncomputable def FLeap (x q : Str) (fu : Nat) : List D → Store → R D := runT 9 (mLeap x q fu)
def natD (n : Nat) : D := .int (n : Int)
section
variable {rows : List (List Int)} {S0 : Store} {order : List Nat} {fu : Nat}
/-- how the rows stand, the places in them and what is left -/
structure Spt (rows left : List (List Int)) (spots : List Nat) : Prop where
  ls : spots.length = rows.length
  ll : left.length = rows.length
  at' : ∀ (i s : Nat) (row : List Int), spots[i]? = some s → rows[i]? = some row → left[i]? = some (row.drop s) ∧ s ≤ row.length
theorem Spt.set {left : List (List Int)} {spots : List Nat} (h : Spt rows left spots) {i s : Nat} {row : List Int} (hr : rows[i]? = some row) (hs : s ≤ row.length) : Spt rows (left.set i (row.drop s)) (spots.set i s) := by
  have hi : i < rows.length := (List.getElem?_eq_some_iff.mp hr).1
  refine ⟨by rw [List.length_set, h.ls], by rw [List.length_set, h.ll], fun j t row' a b => ?_⟩
  by_cases q : i = j
  · subst q
    rw [List.getElem?_set_self (by rw [h.ls]; exact hi)] at a
    rw [hr] at b
    cases a; cases b
    exact ⟨List.getElem?_set_self (by rw [h.ll]; exact hi), hs⟩
  · rw [List.getElem?_set_ne q] at a
    rw [List.getElem?_set_ne q]
    exact h.at' j t row' a b
theorem two_a (x y : O) : (S0 ++ [x, y])[S0.length]? = some x := by simp
theorem two_b (x y : O) : (S0 ++ [x, y])[S0.length + 1]? = some y := by
  rw [List.getElem?_append_right (by omega)]
  simp
theorem two_sa (x y z : O) : (S0 ++ [x, y]).set S0.length z = S0 ++ [z, y] := by simp
theorem two_sb (x y z : O) : (S0 ++ [x, y]).set (S0.length + 1) z = S0 ++ [x, z] := by
  rw [List.set_append_right _ _ (by omega)]
  simp
theorem leap_loop (hrl : rows.length ≤ 1000) (hfu : ∀ row ∈ rows, row.length < fu) (hup : ∀ row ∈ rows, row.Pairwise (· < ·)) (ho : order.length = rows.length) :
    ∀ (k : Nat) {ord : List Nat} {left : List (List Int)} {spots : List Nat} {g : Int} {found r : List Int} {looks L turn : Nat} {y7 y8 : Option D}, Lp.Inv ord left g → Spt rows left spots → (∀ i, i < rows.length → ord[i]? = order[(turn + i) % rows.length]?) →
      found.length + Lp.tot left < 100000 → Lp.run k ord left g found looks = some (r, L) →
      ∃ (e : Env) (spots' : List Nat), sWhile (mTru (mC (.bl true))) (mLeapB fu) k [some (.tup (rows.map rowD)), some (.lst (order.map natD)), some (.int g), some (.loc S0.length), some (.loc (S0.length + 1)), some (.int looks), some (.int turn), y7, y8] (S0 ++ [.lst (spots.map natD), .lst (found.map D.int)])
        = .ok (.ret (.tup [rowD r, .int L])) e (S0 ++ [.lst (spots'.map natD), .lst (r.map D.int)])
  | 0, _, _, _, _, _, _, _, _, _, _, _, _, _, _, _, h => by cases h
  | k + 1, [], left, spots, g, found, r, looks, L, turn, y7, y8, inv, _, _, _, h => by cases h
  | k + 1, i :: ord, left, spots, g, found, r, looks, L, turn, y7, y8, inv, sp, hord, hF, h => by
    have hil : i < left.length := (inv.mem i).mp List.mem_cons_self
    have hi : i < rows.length := by rw [← sp.ll]; exact hil
    obtain ⟨row, hrow⟩ : ∃ row, rows[i]? = some row := ⟨_, List.getElem?_eq_getElem hi⟩
    obtain ⟨s, hs⟩ : ∃ s, spots[i]? = some s := ⟨_, List.getElem?_eq_getElem (by rw [sp.ls]; exact hi)⟩
    obtain ⟨hl, hsr⟩ := sp.at' i s row hs hrow
    have hmem : row ∈ rows := List.mem_of_getElem? hrow
    have hgd : left.getD i [] = row.drop s := by rw [List.getD_eq_getElem?_getD, hl]; rfl
    have hne : row.drop s ≠ [] := inv.ne _ (List.mem_of_getElem? hl)
    have hs2 : s < row.length := by
      rcases Nat.lt_or_ge s row.length with q | q
      · exact q
      · exact absurd (List.drop_eq_nil_iff.mpr q) hne
    obtain ⟨v, hv⟩ : ∃ v, row[s]? = some v := ⟨_, List.getElem?_eq_getElem hs2⟩
    have hhd : (row.drop s).head? = some v := by rw [List.head?_drop]; exact hv
    have o0 : order[turn % rows.length]? = some i := by
      have := hord 0 (by omega)
      rw [Nat.add_zero] at this
      rw [← this]
      rfl
    have hn0 : 0 < rows.length := by omega
    have x1 : atI (order.map natD) ((turn : Int) % (rows.length : Int)) = some (.int i) := by
      rw [← Int.natCast_emod]
      exact atI_nat (by rw [List.getElem?_map, o0]; rfl)
    have x2 : atI (rows.map rowD) (i : Int) = some (rowD row) := atI_nat (by rw [List.getElem?_map, hrow]; rfl)
    have x3 : atI (spots.map natD) (i : Int) = some (.int s) := atI_nat (by rw [List.getElem?_map, hs]; rfl)
    have x4 : ∀ S, ixD (rowD row) (.int (s : Int)) S = some (.int v) := fun S => atI_nat (by rw [List.getElem?_map, hv]; rfl)
    have il : i < spots.length := by rw [sp.ls]; exact hi
    have x5 : ixN spots.length (i : Int) = some i := ixN_nat il
    -- the place behind the look
    have key : ∃ s', s' ≤ row.length ∧ Lp.nxt g (row.drop s) = row.drop s' ∧
        (sIf (mT (mBin eqD (mBin ixD (mVar 8) (mBin ixD (mVar 3) (mVar 7))) (mVar 2))) (sSeq (sDrop (mAppend (mVar 4) (mVar 2)))
    (sAugIx (fun i j => i + j) (mVar 3) (mVar 7) (mC (.int 1)))) (sSetIx (mVar 3) (mVar 7) (mApp 3 (FFirst fu) (mCons (mVar 8) (mCons (mBin ixD (mVar 3) (mVar 7)) (mCons (mVar 2) mNil))))))
          [some (.tup (rows.map rowD)), some (.lst (order.map natD)), some (.int g), some (.loc S0.length), some (.loc (S0.length + 1)), some (.int looks), some (.int turn), some (.int i), some (rowD row)] (S0 ++ [.lst (spots.map natD), .lst (found.map D.int)])
          = .ok .next [some (.tup (rows.map rowD)), some (.lst (order.map natD)), some (.int g), some (.loc S0.length), some (.loc (S0.length + 1)), some (.int looks), some (.int turn), some (.int i), some (rowD row)] (S0 ++ [.lst ((spots.set i s').map natD), .lst ((found ++ Lp.fnd g (row.drop s)).map D.int)]) := by
      by_cases c : v = g
      · subst c
        refine ⟨s + 1, by omega, ?_, ?_⟩
        · unfold Lp.nxt
          rw [if_pos hhd, List.tail_drop]
        · have ef : Lp.fnd v (row.drop s) = [v] := by unfold Lp.fnd; rw [if_pos hhd]
          have hfl : found.length < 100000 := by omega
          have gl : (spots.map natD)[i]? = some (.int s) := by rw [List.getElem?_map, hs]; rfl
          have e1 : (spots.map natD).set i (D.int ((s : Int) + 1)) = (spots.set i (s + 1)).map natD := by
            rw [List.map_set]
            rfl
          rw [ef]
          simp [two_a, two_b, two_sa, two_sb, x3, x4, x5, hfl, gl, hs, -List.map_set]
          exact e1
      · have hne2 : (row.drop s).head? ≠ some g := by rw [hhd]; intro q; cases q; exact c rfl
        obtain ⟨p, p1, p2, p3, p4, p5⟩ := first_ok (seq := rowD row) (row := row) (S := S0 ++ [.lst (spots.map natD), .lst (found.map D.int)]) (b := s) (fu := fu) (v := g) (by show some (D.int ((row.map D.int).length : Nat)) = _; rw [List.length_map]) (fun i x hx => atI_nat (by rw [List.getElem?_map, hx]; rfl)) hsr (hfu row hmem)
        refine ⟨p, p2, ?_, ?_⟩
        · unfold Lp.nxt
          rw [if_neg hne2]
          exact Lp.dropWhile_at (hup row hmem) p1 p2 p3 p4
        · have ef : Lp.fnd g (row.drop s) = [] := by unfold Lp.fnd; rw [if_neg hne2]
          have e1 : (spots.map natD).set i (D.int (p : Int)) = (spots.set i p).map natD := by
            rw [List.map_set]
            rfl
          rw [ef]
          simp [two_a, two_b, two_sa, two_sb, x3, x4, x5, c, p5, -List.map_set]
          rw [e1]
    obtain ⟨s', s1, s2, s3⟩ := key
    have sp' := sp.set hrow s1
    have x6 : atI ((spots.set i s').map natD) (i : Int) = some (.int s') := atI_nat (by rw [List.getElem?_map, List.getElem?_set_self il]; rfl)
    have hrl' : (found ++ Lp.fnd g (row.drop s)).length ≤ 100000 := by
      have : (Lp.fnd g (row.drop s)).length ≤ 1 := by unfold Lp.fnd; split <;> simp
      rw [List.length_append]
      omega
    have hlen : lenD [rowD row] (S0 ++ [.lst ((spots.set i s').map natD), .lst ((found ++ Lp.fnd g (row.drop s)).map D.int)]) = some (.int row.length) := by
      show some (D.int ((row.map D.int).length : Nat)) = _
      rw [List.length_map]
    have h' : (match Lp.nxt g (left.getD i []) with
      | [] => some (found ++ Lp.fnd g (left.getD i []), looks + 1)
      | y :: l => Lp.run k (ord ++ [i]) (left.set i (y :: l)) y (found ++ Lp.fnd g (left.getD i [])) (looks + 1)) = some (r, L) := h
    rw [hgd, s2] at h'
    conv => enter [1, e, 1, sp', 1]; unfold sWhile
    by_cases c : s' = row.length
    · have hd : row.drop s' = [] := List.drop_eq_nil_iff.mpr (by omega)
      rw [hd] at h'
      cases h'
      refine ⟨[some (.tup (rows.map rowD)), some (.lst (order.map natD)), some (.int g), some (.loc S0.length), some (.loc (S0.length + 1)), some (.int ((looks : Int) + 1)), some (.int turn), some (.int i), some (rowD row)], spots.set i s', ?_⟩
      have eqE : ∀ S, eqD (.int (s' : Int)) (.int (row.length : Int)) S = some (.bl true) := fun S => by rw [eqD_int, decide_eq_true (by omega)]
      have er : rowD (found ++ Lp.fnd g (row.drop s)) = .tup ((found ++ Lp.fnd g (row.drop s)).map D.int) := rfl
      unfold mLeapB
      simp [x1, hn0, x2, s3, two_b, two_a, x6, hlen, eqE, -eqD_int, -sIf_ap, -List.map_set, -List.map_append]
      simp [two_b, two_a, x6, hlen, eqE, er, -eqD_int, -List.map_set, -List.map_append]
    · have hlt : s' < row.length := by omega
      obtain ⟨y, hy⟩ : ∃ y, row[s']? = some y := ⟨_, List.getElem?_eq_getElem hlt⟩
      have hd : row.drop s' = y :: row.drop (s' + 1) := by
        obtain ⟨h1, h2⟩ := List.getElem?_eq_some_iff.mp hy
        rw [List.drop_eq_getElem_cons h1, h2]
      rw [hd] at h'
      have x7 : ∀ S, ixD (rowD row) (.int (s' : Int)) S = some (.int y) := fun S => atI_nat (by rw [List.getElem?_map, hy]; rfl)
      have st := inv.step (y := y) (l := row.drop (s' + 1)) (by rw [hgd, s2, hd])
      rw [hd] at sp'
      have hc : ¬ ((s' : Int) = (row.length : Int)) := by omega
      obtain ⟨e, spots', er⟩ := leap_loop hrl hfu hup ho k (turn := turn + 1) (y7 := some (.int i)) (y8 := some (rowD row)) st sp' (fun j hj => by
        have hn : ord.length + 1 = rows.length := by rw [← sp.ll]; exact inv.len
        by_cases q : j < ord.length
        · rw [List.getElem?_append_left q, show turn + 1 + j = turn + (j + 1) by omega, ← hord (j + 1) (by omega)]
          rfl
        · have : j = ord.length := by omega
          subst this
          rw [List.getElem?_append_right (Nat.le_refl _), Nat.sub_self, show turn + 1 + ord.length = turn + rows.length by omega, Nat.add_mod_right, o0]
          rfl) (by
        have h1 : (y :: row.drop (s' + 1)).length < (left.getD i []).length := by
          rw [← hd, ← s2, hgd]
          have h3 := inv.le i List.mem_cons_self
          unfold Lp.hd at h3
          rw [hgd] at h3
          exact Lp.nxt_len hne h3
        have h2 := Lp.tot_set hil h1
        have : (Lp.fnd g (row.drop s)).length ≤ 1 := by unfold Lp.fnd; split <;> simp
        rw [List.length_append]
        omega) h'
      refine ⟨e, spots', ?_⟩
      rw [← er]
      unfold mLeapB
      simp [x1, hn0, x2, s3, two_b, two_a, x6, x7, hlen, hc, -sIf_ap, -List.map_set, -List.map_append]
      simp [two_b, two_a, x6, x7, hlen, hc, -List.map_set, -List.map_append]
/-- the order of the turns -/
def ordOf (rows : List (List Int)) : List Nat := (List.range rows.length).mergeSort fun a b => decide (Lp.hd rows a ≤ Lp.hd rows b)
def gOf (rows : List (List Int)) : Int := (maxI (rows.map fun l => l.headD 0)).getD 0
def leapF (rows : List (List Int)) : List Int × Nat := if [] ∈ rows then ([], 0) else (Lp.run (Lp.tot rows + 1) (ordOf rows) rows (gOf rows) [] 0).getD ([], 0)
theorem maxI_some : ∀ {ns : List Int}, ns ≠ [] → ∃ m, maxI ns = some m
  | [], h => absurd rfl h
  | x :: xs, _ => maxI_cons x xs
theorem leap_inv (h0 : rows ≠ []) (hup : ∀ row ∈ rows, row.Pairwise (· < ·)) (hne : [] ∉ rows) : Lp.Inv (ordOf rows) rows (gOf rows) := by
  obtain ⟨m, hm⟩ := maxI_some (ns := rows.map fun l => l.headD 0) (by simpa using h0)
  have eg : gOf rows = m := by unfold gOf; rw [hm]; rfl
  obtain ⟨m1, m2⟩ := maxI_ok hm
  rw [eg]
  refine Lp.inv_start (List.mergeSort_perm _ _) (fun l hl e => hne (e ▸ hl)) hup ?_ h0 ?_ ?_
  · have := List.pairwise_mergeSort (le := fun a b => decide (Lp.hd rows a ≤ Lp.hd rows b)) (fun a b c h1 h2 => by
      simp only [decide_eq_true_eq] at *
      omega) (fun a b => by
      simp only [Bool.or_eq_true, decide_eq_true_eq]
      omega) (List.range rows.length)
    exact this.imp fun {a b} h => by simpa using h
  · obtain ⟨l, hl, e⟩ := List.mem_map.mp m1
    exact ⟨l, hl, e⟩
  · intro l hl
    exact m2 _ (List.mem_map_of_mem hl)
theorem leapF_some (h0 : rows ≠ []) (hup : ∀ row ∈ rows, row.Pairwise (· < ·)) (hne : [] ∉ rows) : Lp.run (Lp.tot rows + 1) (ordOf rows) rows (gOf rows) [] 0 = some (leapF rows) := by
  obtain ⟨r, L, a, _⟩ := Lp.run_ok (Lp.tot rows + 1) [] 0 (leap_inv h0 hup hne) (by omega)
  unfold leapF
  rw [if_neg hne, a]
  rfl
/-- what leap tells -/
theorem leapF_spec (h0 : rows ≠ []) (hup : ∀ row ∈ rows, row.Pairwise (· < ·)) (hne : [] ∉ rows) : (leapF rows).1.Pairwise (· < ·) ∧ (∀ x, x ∈ (leapF rows).1 ↔ Lp.com rows x) ∧ 1 ≤ (leapF rows).2 ∧ (leapF rows).1.length ≤ (leapF rows).2 ∧ ∀ l ∈ rows, (leapF rows).2 ≤ rows.length * l.length := by
  have inv := leap_inv h0 hup hne
  obtain ⟨r, L, a, a2, a3, a4, a5, a6, a7⟩ := Lp.run_ok (Lp.tot rows + 1) [] 0 inv (by omega)
  rw [leapF_some h0 hup hne, List.nil_append, Nat.zero_add] at a
  have e : leapF rows = (r, L) := Option.some.inj a
  rw [e]
  refine ⟨a2, a4, a5, a6, fun l hl => ?_⟩
  obtain ⟨j, hj, rfl⟩ := List.mem_iff_getElem.mp hl
  obtain ⟨p, hp, ep⟩ := List.mem_iff_getElem.mp ((inv.mem j).mpr hj)
  have := a7 p j (by rw [List.getElem?_eq_getElem hp, ep])
  rw [List.getD_eq_getElem?_getD, List.getElem?_eq_getElem hj, Option.getD_some] at this
  have hlen := inv.len
  have hpos : rows[j] ≠ [] := fun q => hne (q ▸ hl)
  have h1 : rows[j].length - 1 + 1 = rows[j].length := by
    have : 0 < rows[j].length := List.length_pos_iff.mpr hpos
    omega
  rw [← h1, Nat.mul_succ]
  show L ≤ _
  omega
theorem leapF_nil (h : [] ∈ rows) : leapF rows = ([], 0) := by unfold leapF; rw [if_pos h]
theorem leapF_up (h0 : rows ≠ []) (hup : ∀ row ∈ rows, row.Pairwise (· < ·)) : (leapF rows).1.Pairwise (· < ·) := by
  by_cases h : [] ∈ rows
  · rw [leapF_nil h]; exact .nil
  · exact (leapF_spec h0 hup h).1
theorem mem_leapF (h0 : rows ≠ []) (hup : ∀ row ∈ rows, row.Pairwise (· < ·)) (x : Int) : x ∈ (leapF rows).1 ↔ ∀ l ∈ rows, x ∈ l := by
  by_cases h : [] ∈ rows
  · rw [leapF_nil h]
    constructor
    · intro q; cases q
    · intro q; exact absurd (q [] h) (by simp)
  · exact (leapF_spec h0 hup h).2.1 x
theorem run_mono : ∀ (k m : Nat) (ord : List Nat) (left : List (List Int)) (g : Int) (found : List Int) (looks : Nat) (z : List Int × Nat), k ≤ m → Lp.run k ord left g found looks = some z → Lp.run m ord left g found looks = some z
  | 0, _, _, _, _, _, _, _, _, h => by cases h
  | k + 1, 0, _, _, _, _, _, _, hm, _ => by omega
  | k + 1, m + 1, [], _, _, _, _, _, _, h => by cases h
  | k + 1, m + 1, i :: ord, left, g, found, looks, z, hm, h => by
    unfold Lp.run at h ⊢
    split at h
    · exact h
    · exact run_mono k m _ _ _ _ _ z (by omega) h
theorem lc_heads {r0 : Env} {S : Store} (h9 : 8 < r0.length) (hne : [] ∉ rows) : lcL (tgN 8) mYes (mBin ixD (mVar 8) (mC (.int 0))) r0 (rows.map rowD) S = .ok ((rows.map fun l => l.headD 0).map D.int) S := by
  have := lc_map (gm := tgN 8) (te := mBin ixD (mVar 8) (mC (.int 0))) (r0 := r0) (S := S) (fun d => match d with | .tup (.int z :: _) => .int z | d => d) (rows.map rowD) fun d hd => by
    obtain ⟨l, hl, rfl⟩ := List.mem_map.mp hd
    cases l with
    | nil => exact absurd hl hne
    | cons x l =>
      refine ⟨_, rfl, ?_⟩
      have e : (r0.set 8 (some (rowD (x :: l))))[8]? = some (some (rowD (x :: l))) := List.getElem?_set_self h9
      simp only [mBin_ap, mVar_ap, e, rb_ok, mC_ap]
      show ofO (atI ((x :: l).map D.int) 0) S = .ok (.int x) S
      rw [List.map_cons, atI_zero]
      rfl
  rw [this]
  congr 1
  rw [List.map_map, List.map_map]
  refine List.map_congr_left fun l hl => ?_
  cases l with
  | nil => exact absurd hl hne
  | cons x l => rfl
theorem keyAt_row {i : Nat} {row : List Int} (h : rows[i]? = some row) (hn : row ≠ []) : keyAt (rows.map rowD) (i : Int) = some (row.headD 0) := by
  unfold keyAt
  rw [show ((i : Int).toNat) = i from rfl, List.getElem?_map, h]
  cases row with
  | nil => exact absurd rfl hn
  | cons x l => rfl
theorem sortK_ord (hne : [] ∉ rows) : sortK (rows.map rowD) ((List.range rows.length).map fun i : Nat => (i : Int)) = (ordOf rows).map fun i : Nat => (i : Int) := by
  unfold sortK ordOf
  refine (List.map_mergeSort fun a ha b hb => ?_).symm
  rw [List.mem_range] at ha hb
  have k : ∀ i, i < rows.length → keyI (rows.map rowD) (i : Int) = Lp.hd rows i := fun i hi => by
    unfold keyI Lp.hd
    have e := List.getElem?_eq_getElem hi
    rw [keyAt_row e (fun q => hne (q ▸ List.getElem_mem hi)), List.getD_eq_getElem?_getD, e]
    rfl
  rw [k a ha, k b hb]
theorem tups_rows : ∀ rows : List (List Int), tupsB (rows.map rowD) = some (rows.map fun l => !l.isEmpty)
  | [] => rfl
  | l :: rows => by
    show (tupsB (rows.map rowD)).map _ = _
    rw [tups_rows rows]
    cases l <;> rfl
theorem allTD_rows {S : Store} : allTD [.tup (rows.map rowD)] S = some (.bl (decide ([] ∉ rows))) := by
  show (tupsB (rows.map rowD)).map _ = _
  rw [tups_rows]
  show some (D.bl _) = some (D.bl _)
  congr 2
  rw [Bool.eq_iff_iff]
  simp only [List.all_eq_true, List.mem_map, decide_eq_true_eq]
  constructor
  · intro h q
    exact absurd (h false ⟨[], q, rfl⟩) (by simp)
  · rintro h b ⟨l, hl, rfl⟩
    cases l with
    | nil => exact absurd hl h
    | cons x l => rfl
theorem len_tot {row : List Int} : ∀ {rows : List (List Int)}, row ∈ rows → row.length ≤ Lp.tot rows
  | x :: rows, h => by
    unfold Lp.tot
    rw [List.map_cons, List.sum_cons]
    rcases List.mem_cons.mp h with rfl | h
    · omega
    · have := len_tot h
      unfold Lp.tot at this
      omega
theorem clo_leap (n : Nat) (r : List Int) (k : Int) : clo n (.tup [rowD r, .int k]) = true := by
  show cloL n [rowD r, .int k] = true
  refine (cloL_iff n _).mpr fun d hd => ?_
  rcases List.mem_cons.mp hd with rfl | h
  · exact cloL_ints _ _
  · rw [List.mem_singleton.mp h]
    rfl
theorem leap_ok {x q : Str} {S : Store} (hS : S[0]? = some (.tbl x q)) (h0 : rows ≠ []) (hrl : rows.length ≤ 1000) (hup : ∀ row ∈ rows, row.Pairwise (· < ·)) (ht : Lp.tot rows < 100000) (hfu : Lp.tot rows < fu) :
    FLeap x q fu [.tup (rows.map rowD)] S = .ok (.tup [rowD (leapF rows).1, .int (leapF rows).2]) S := by
  show finT S (mLeap x q fu (frame 9 _) S) = _
  have ef : frame 9 [.tup (rows.map rowD)] = [some (.tup (rows.map rowD)), none, none, none, none, none, none, none, none] := rfl
  rw [ef]
  by_cases hne : [] ∈ rows
  · have e : mLeap x q fu [some (.tup (rows.map rowD)), none, none, none, none, none, none, none, none] S = .ok (.ret (.tup [.tup [], .int 0])) [some (.tup (rows.map rowD)), none, none, none, none, none, none, none, none] S := by
      unfold mLeap
      simp [allTD_rows, hne]
    rw [e, leapF_nil hne]
    exact fin_ret0 rfl
  · have hlen : ∀ row ∈ rows, row.length < fu := fun row hr => by
      have : row.length ≤ Lp.tot rows := by
        exact len_tot hr
      omega
    have run1 : Lp.run fu (ordOf rows) rows (gOf rows) [] 0 = some ((leapF rows).1, (leapF rows).2) := run_mono _ fu _ _ _ _ _ _ (by omega) (leapF_some h0 hup hne)
    have inv := leap_inv h0 hup hne
    obtain ⟨e, spots', el⟩ := leap_loop (S0 := S) (order := ordOf rows) hrl hlen hup (by rw [inv.len]) fu (spots := List.replicate rows.length 0) (found := []) (turn := 0) (y7 := none) (y8 := none) inv ⟨by simp, rfl, fun i s row h1 h2 => by
      rw [List.getElem?_replicate] at h1
      split at h1
      · cases h1
        exact ⟨by rw [List.drop_zero]; exact h2, Nat.zero_le _⟩
      · cases h1⟩ (fun i hi => by rw [Nat.zero_add, Nat.mod_eq_of_lt hi]) (by simpa using ht) run1
    obtain ⟨g, hg⟩ := maxI_some (ns := rows.map fun l => l.headD 0) (by simpa using h0)
    have eg : gOf rows = g := by unfold gOf; rw [hg]; rfl
    have hrl' : -100000 ≤ (rows.length : Int) ∧ (rows.length : Int) ≤ 100000 := by omega
    have e2 : sortLamD x q 0 [some (.tup (rows.map rowD)), none, none, none, none, none, none, none, none] [.lst (rng 0 rows.length)] S = some (.lst ((ordOf rows).map natD)) := by
      have hr := rng_ints (rows.length : Int)
      rw [Int.toNat_natCast] at hr
      unfold sortLamD
      simp only [List.getElem?_cons_zero, hS, hr, intsOf_map]
      have cnd : ∀ i ∈ (List.range rows.length).map (fun i : Nat => (i : Int)), 0 ≤ i ∧ i < 1000000 ∧ (keyAt (rows.map rowD) i).isSome = true := fun i hi => by
        obtain ⟨j, hj, rfl⟩ := List.mem_map.mp hi
        rw [List.mem_range] at hj
        refine ⟨by omega, by omega, ?_⟩
        have e := List.getElem?_eq_getElem hj
        rw [keyAt_row e (fun q => hne (q ▸ List.getElem_mem hj))]
        rfl
      rw [if_pos ⟨trivial, trivial, by simpa using hrl, cnd⟩, sortK_ord hne, List.map_map]
      rfl
    have e3 : ∀ S, repN (.lst [.int 0]) (.int (rows.length : Int)) S = some ((List.replicate rows.length 0).map natD) := fun S => by
      unfold repN lstAt
      show (if _ then _ else _) = _
      rw [if_pos ⟨by omega, by omega, by simp; omega⟩, Int.toNat_natCast]
      congr 1
      induction rows.length with
      | zero => rfl
      | succ n ih =>
        rw [List.replicate_succ, List.flatten_cons, ih, List.replicate_succ, List.map_cons]
        rfl
    have eb : mLeap x q fu [some (.tup (rows.map rowD)), none, none, none, none, none, none, none, none] S = .ok (.ret (.tup [rowD (leapF rows).1, .int (leapF rows).2])) e (S ++ [.lst (spots'.map natD), .lst ((leapF rows).1.map D.int)]) := by
      rw [← el, eg]
      unfold mLeap
      simp [allTD_rows, hne, mSortLam, lstRngD, hrl', e2, e3, lc_heads, hg, -List.map_map, -List.headD_eq_head?_getD]
    rw [eb]
    exact fin_ret_app _ (fz_clo (clo_leap _ _ _))
end
end Dv
/-! draws in rows; the town behind the table -/
namespace Dv
open PySem L2
theorem lc_draws {ns : List Int} {t n k j : Nat} {m : Int} {r0 : Env} {te : EM} {S : Store} (f : Int → Int) (h63 : ns.length ≤ 63) (hm : 0 < m) (ht : Twn t n S) (hn : n + 2 * k < 99000)
    (hte : ∀ d S z S1, FDraw [.scr ns, .loc t, .int m] S = .ok (.int z) S1 → te (r0.set j (some d)) S = .ok (.int (f z)) S1) :
    ∃ (zs : List Int) (S' : Store), zs.length = k ∧ (∀ z ∈ zs, ∃ y, 0 ≤ y ∧ y < m ∧ z = f y) ∧ Twn t (n + 2 * k) S' ∧ Dif t S S' ∧ lcL (tgN j) mYes te r0 (rng 0 k) S = .ok (zs.map D.int) S' := by
  obtain ⟨ys, S', e, row, h0, h1, h2, h3, h4⟩ := lc_inv (gm := tgN j) (te := te) (r0 := r0)
    (fun i zs S' => ∃ row : List Int, (i ≤ k ∧ zs = row.map D.int) ∧ row.length = i ∧ (∀ z ∈ row, ∃ y, 0 ≤ y ∧ y < m ∧ z = f y) ∧ Twn t (n + 2 * i) S' ∧ Dif t S S') (rng 0 k) 0 [] S (fun i d zs S1 hd hi => by
      obtain ⟨hi2, rfl⟩ := rng_get hd
      obtain ⟨row, ⟨h0, h1⟩, h2, hz, h3, h4⟩ := hi
      obtain ⟨x, S2, a, b, c, e⟩ := draw_tw h63 h3 (by omega) hm
      refine ⟨_, .int (f x), S2, rfl, hte _ _ _ _ e, row ++ [f x], ⟨by omega, by rw [h1]; simp⟩, by simp [h2], fun z hz' => ?_, b.mono (by omega), h4.trans c⟩
      rcases List.mem_append.mp hz' with q | q
      · exact hz z q
      · exact ⟨x, by omega, a, List.mem_singleton.mp q⟩) ⟨[], ⟨Nat.zero_le _, rfl⟩, rfl, (by intro z hz; cases hz), ht.mono (by omega), ht.dif⟩
  rw [rng_len, Nat.zero_add] at h0 h1 h3
  obtain ⟨_, h0⟩ := h0
  have hys : ys = row.map D.int := by simpa using h0
  subst hys
  exact ⟨row, S', h1, h2, h3, h4, by simpa using e⟩
theorem ssI_len (ns : List Int) : (ssI ns).length ≤ ns.length := by
  have h2 : ∀ ns : List Int, (dedL ns).length ≤ ns.length := fun ns => by
    induction ns with
    | nil => exact Nat.le_refl _
    | cons x xs ih =>
      unfold dedL
      split <;> simp <;> omega
  have h1 : (ssI ns).length = (dedL ns).length := (sortL_perm _).length_eq
  have := h2 ns
  omega
theorem up_ext {a b : List Int} (ha : a.Pairwise (· < ·)) (hb : b.Pairwise (· < ·)) (h : ∀ x, x ∈ a ↔ x ∈ b) : a = b := by
  rw [ssI_ext ha (fun z => Iff.rfl), ssI_ext hb (fun z => (h z).symm)]
theorem inTO_row (x : Int) (ns : List Int) : inTO (.int x) (rowD ns) = some (decide (x ∈ ns)) := by
  have h1 : (ns.map D.int).all flatD = true := by simp [flatD]
  have h2 : (ns.map D.int).all (pl 0) = true := by simp [pl]
  show (if flatD (.int x) = true ∧ (ns.map D.int).all flatD = true then some ((ns.map D.int).any fun z => eqvD z (.int x)) else none) = _
  rw [if_pos ⟨rfl, h1⟩, any_pl (k := 0) (a := .int x) rfl _ h2]
  congr 1
  refine decide_eq_decide.mpr ?_
  simp
theorem inTD_row {S : Store} (x : Int) (ns : List Int) : inTD (.int x) (rowD ns) S = some (.bl (decide (x ∈ ns))) := by
  show (inTO (.int x) (rowD ns)).map D.bl = _
  rw [inTO_row]
  rfl
theorem ninTD_row {S : Store} (x : Int) (ns : List Int) : ninTD (.int x) (rowD ns) S = some (.bl (!decide (x ∈ ns))) := by
  show (inTO (.int x) (rowD ns)).map (fun k => D.bl (!k)) = _
  rw [inTO_row]
  rfl
/-- the law's end, behind a table -/
theorem fin_tbl {x q : Str} {S1 : Store} {rho : Env} {d : D} (h0 : S1[0]? = some (.tbl x q)) (hd : clo 1 d = true) : ∃ S, finT [.tbl x q] (.ok (.ret d) rho S1) = .ok d S := by
  refine ⟨_, finT_ret ⟨?_, fun i o hi ho => ?_⟩ (fz_clo hd)⟩
  · have := (List.getElem?_eq_some_iff.mp h0).1
    exact this
  · have : i = 0 := by simpa using hi
    subst this
    rw [h0] at ho
    cases ho
    exact .inl rfl
end Dv
/-! walks over lists that may change, so long as they do not; comprehensions whose list may change -/
namespace Dv
open PySem L2
abbrev Gd := Store → Bool
def WalksG (K : PySem.W.Frag) (mg : Str → Option Value) (T : Tb) (H : Hp) (J : It) (ds : List D) (c : Gd) : Prop := ∀ T' S' H', Kf T H T' H' → Sim K mg T' S' H' → c S' = true → J.stop ds.length H' ∧
  ∀ (i : Nat) (d : D), ds[i]? = some d → J.go i H' ∧ ∀ x H2, J.yld i H' x H2 → Step T' H' T' H2 ∧ Sim K mg T' S' H2 ∧ Rep K T' H2 x d
abbrev IG := Env → Store → R (List D × Gd)
def iG (K : PySem.W.Frag) (mg : Str → Option Value) (Wx : WX) (mi : IG) : TI := fun g H Q => ∃ T r S, RepSt K T H r g ∧ Sim K mg T S H ∧
  Out K mg Wx (fun T' H' (J : It) p => WalksG K mg T' H' J p.1 p.2 ∧ p.1.length ≤ sizeLine) T g H (mi r S) Q
def gYes : Gd := fun _ => true
/-- the list at n is still this one -/
noncomputable def gIs (n : Nat) (xs : List D) : Gd := fun S => match S[n]? with
  | some (.lst ys) => decide (ys = xs)
  | _ => false
@[simp] theorem gYes_ap (S : Store) : gYes S = true := rfl
theorem gIs_iff {n : Nat} {xs : List D} {S : Store} : gIs n xs S = true ↔ S[n]? = some (.lst xs) := by
  unfold gIs
  split
  · rename_i ys h
    rw [h]
    simp
  · rename_i h
    constructor
    · intro q; cases q
    · intro q; exact absurd q (h xs)
@[simp] theorem gIs_ap {n : Nat} {xs : List D} {S : Store} (h : S[n]? = some (.lst xs)) : gIs n xs S = true := gIs_iff.mpr h
noncomputable def seqG (d : D) (S : Store) : Option (List D × Gd) := match d with
  | .loc n => match S[n]? with
    | some (.lst xs) => some (xs, gIs n xs)
    | _ => none
  | d => (seqD d).map fun xs => (xs, gYes)
noncomputable def mIterG (m : EM) : IG := fun r S => (m r S).bind fun d S1 => ofO (seqG d S1) S1
def mPl (mi : IM) : IG := fun r S => (mi r S).bind fun ds S1 => .ok (ds, gYes) S1
noncomputable def enumG (ds : List D) (S : Store) : Option (List D × Gd) := match ds with
  | [.loc n] => match S[n]? with
    | some (.lst xs) => some (enumL xs, gIs n xs)
    | _ => none
  | ds => (enumD ds).map fun xs => (xs, gYes)
noncomputable def mEnumG (ms : AM) : IG := fun r S => (ms r S).bind fun ds S1 => ofO (enumG ds S1) S1
@[simp] theorem mIterG_ap {m : EM} {r : Env} {S : Store} : mIterG m r S = (m r S).bind fun d S1 => ofO (seqG d S1) S1 := rfl
@[simp] theorem mPl_ap {m : IM} {r : Env} {S : Store} : mPl m r S = (m r S).bind fun ds S1 => .ok (ds, gYes) S1 := rfl
@[simp] theorem mEnumG_ap {m : AM} {r : Env} {S : Store} : mEnumG m r S = (m r S).bind fun d S1 => ofO (enumG d S1) S1 := rfl
section
variable {X : Cx} {Wx : WX} {tg e : Expr} {m : EM} {ms : AM} {mi : IM} {pos p tpos : Pos} {elts : List Expr} {kk : Nat}
theorem walksG_of {K : PySem.W.Frag} {mg : Str → Option Value} {T : Tb} {H : Hp} {J : It} {ds : List D} {c : Gd} (h : Walks K mg T H J ds) : WalksG K mg T H J ds c := fun T' S' H' kf sim _ => h T' S' H' kf sim
theorem ji_pl (h : PI X tg e (iD X.K X.mg Wx mi)) : PI X tg e (iG X.K X.mg Wx (mPl mi)) := pi_imp h fun g H Q h => by
  obtain ⟨T, r, S, rs, sim, h⟩ := h
  refine ⟨T, r, S, rs, sim, Out.bind h fun ds S1 T1 H1 J st sim1 rel h1 => ?_⟩
  exact h1 T1 H1 J (Step.refl T1 H1) sim1 ⟨walksG_of rel.1, rel.2⟩
theorem walks_loc {K : PySem.W.Frag} {mg : Str → Option Value} {T : Tb} {H : Hp} {a : Addr} {n : Nat} {xs : List D} (h : T.loc[n]? = some a) : WalksG K mg T H (Itl K a) xs (gIs n xs) := fun T' S' H' kf sim hc => by
  have hT := kf.get n a h
  obtain ⟨vs, h1, h2⟩ := sim.obj n a _ hT (gIs_iff.mp hc)
  have hq : SqL K H' a vs := SqL.of h1
  refine ⟨⟨vs, hq, by rw [h2.length]; exact Nat.le_refl _⟩, fun i d e => ?_⟩
  obtain ⟨v, g1, g2⟩ := h2.get e
  refine ⟨⟨vs, v, hq, g1⟩, fun x H2 y => ?_⟩
  obtain ⟨rfl, y⟩ := y
  have e2 := (y vs hq).symm.trans g1
  cases e2
  exact ⟨Step.refl _ _, sim, g2⟩
theorem ji_seqG (h : PE X e (tD X.K X.mg Wx m)) : PI X tg e (iG X.K X.mg Wx (mIterG m)) := pi_imp (pi_sq h) fun g H Q h => by
  obtain ⟨T, r, S, rs, sim, h⟩ := h
  refine ⟨T, r, S, rs, sim, Out.bind h fun d S1 T1 H1 v st sim1 rel h1 => ?_⟩
  refine Out.use h1 fun dsc e k => ?_
  cases rel with
  | loc q =>
    rename_i a n
    unfold seqG at e
    split at e
    · rename_i n' heq
      cases heq
      split at e
      · rename_i xs hS
        cases e
        obtain ⟨vs, h1, h2⟩ := sim1.obj n a _ q hS
        exact .inl ⟨_, _, rfl, SqL.of h1, k T1 H1 _ (Step.refl T1 H1) sim1 ⟨walks_loc q, by rw [← h2.length]; exact sim1.hl _ _ (.inl (.inl h1))⟩⟩
      · cases e
    · rename_i hn
      exact absurd rfl (hn n)
  | lst q1 q2 q3 =>
    cases e
    exact .inl ⟨_, _, rfl, SqL.of q1, k T1 H1 _ (Step.refl T1 H1) sim1 ⟨walksG_of (walks_lst (.inl ⟨.inl q1, q2⟩) q3), by rw [← q3.length]; exact sim1.hl _ _ (.inl (.inl q1))⟩⟩
  | scr q =>
    cases e
    exact .inl ⟨_, _, rfl, q.sq, k T1 H1 _ (Step.refl T1 H1) sim1 ⟨walksG_of (walks_lst q (RepL.ints _)), by have := sim1.llen q; rw [List.length_map] at this ⊢; exact this⟩⟩
  | tup q1 q2 q3 =>
    cases e
    exact .inr (.inl ⟨_, _, rfl, SqT.of q1, k T1 H1 _ (Step.refl T1 H1) sim1 ⟨walksG_of (walks_tup q1 q2 q3), by rw [← q3.length]; exact sim1.hl _ _ (.inr (.inl q1))⟩⟩)
  | str x =>
    have e : ((seqD (.str x)).map fun xs => (xs, gYes)) = some dsc := e
    simp only [seqD] at e
    split at e
    · rename_i hz
      cases e
      exact .inr (.inr ⟨x, rfl, k T1 H1 _ (Step.refl T1 H1) sim1 ⟨walksG_of walks_str, by rw [List.length_map, Array.length_toList]; exact sz5 hz⟩⟩)
    · cases e
  | _ => cases e
theorem ji_enumG (hg : Gl X "enumerate") (hm : X.mg "enumerate" = none) (ha : PA X [e] (tDA X.K X.mg Wx ms)) (hs : starEach [e] X.env = [(false, eval e X.env)] := by rfl) :
    PI X (.Tuple elts kk tpos) (.Call (.Name "enumerate" p) [e] [] pos) (iG X.K X.mg Wx (mEnumG ms)) := pi_imp (pi_enum hg hm ha hs) fun g H Q h => by
  obtain ⟨T, r, S, rs, sim, h⟩ := h
  refine ⟨T, r, S, rs, sim, Out.bind h fun d S1 T1 H1 v st sim1 rel h1 => ?_⟩
  refine Out.use h1 fun dsc e k => ?_
  unfold enumG at e
  split at e
  · rename_i n
    split at e
    · rename_i xs hS
      cases e
      obtain ⟨v, rfl, rv⟩ := rel.one
      cases rv with
      | @loc a _ q =>
        obtain ⟨vs, h1, h2⟩ := sim1.obj n a _ q hS
        refine ⟨a, vs, rfl, SqL.of h1, k T1 H1 _ (Step.refl T1 H1) sim1 ⟨fun T' S' H' kf sim' hc => ?_, ?_⟩⟩
        · obtain ⟨ws, h1, h2⟩ := sim'.obj n a _ (kf.get n a q) (gIs_iff.mp hc)
          have hq : SqL X.K H' a ws := SqL.of h1
          refine ⟨⟨ws, hq, by rw [enumL_len, h2.length]; exact Nat.le_refl _⟩, fun i d hd => ?_⟩
          obtain ⟨x, hx, rfl⟩ := enumL_get hd
          obtain ⟨u, hu, ru⟩ := h2.get hx
          refine ⟨⟨ws, u, hq, hu⟩, fun z H2 yl => ?_⟩
          obtain ⟨P, w, rfl, hP, rfl, gw⟩ := yl
          have ew := (gw ws hq).symm.trans hu
          cases ew
          exact pair_new sim' hP (.int _) ru
        · rw [enumL_len, ← h2.length]
          exact sim1.hl _ _ (.inl (.inl h1))
    · cases e
  · obtain ⟨xs, e, rfl⟩ := Option.map_eq_some_iff.mp e
    unfold enumD at e
    split at e
    · rename_i xs
      cases e
      obtain ⟨v, rfl, rv⟩ := rel.one
      cases rv with
      | @lst a ys _ hH n rl =>
        refine ⟨a, ys, rfl, SqL.of hH, k T1 H1 _ (Step.refl T1 H1) sim1 ⟨fun T' S' H' kf sim' _ => ?_, ?_⟩⟩
        · have hq : SqL X.K H' a ys := SqL.of (kf.toKp.lst n hH).1
          refine ⟨⟨ys, hq, by rw [enumL_len, rl.length]; exact Nat.le_refl _⟩, fun i d hd => ?_⟩
          obtain ⟨x, hx, rfl⟩ := enumL_get hd
          obtain ⟨u, hu, ru⟩ := rl.get hx
          refine ⟨⟨ys, u, hq, hu⟩, fun z H2 yl => ?_⟩
          obtain ⟨P, w, rfl, hP, rfl, gw⟩ := yl
          have ew := (gw ys hq).symm.trans hu
          cases ew
          exact pair_new sim' hP (.int _) (ru.kp kf.toKp)
        · rw [enumL_len, ← rl.length]
          exact sim1.hl _ _ (.inl (.inl hH))
    · cases e
end
/-! ### for -/
def sLoopG (c : Gd) (gm : D → Env → Option Env) (b : SM) : List D → SM
  | [] => fun r S => if c S = true then .ok .next r S else .bad
  | d :: ds => fun r S => if c S = true then (match gm d r with
    | none => .bad
    | some r1 => match b r1 S with
      | .ok .next r2 S2 => sLoopG c gm b ds r2 S2
      | .ok .cont r2 S2 => sLoopG c gm b ds r2 S2
      | .ok .brk r2 S2 => .ok .next r2 S2
      | .ok (.ret d) r2 S2 => .ok (.ret d) r2 S2
      | .exc x r2 S2 => .exc x r2 S2
      | .bad => .bad) else .bad
def sForG (mi : IG) (gm : D → Env → Option Env) (b : SM) : SM := fun r S => bindS (mi r S) r fun p S1 => sLoopG p.2 gm b p.1 r S1
@[simp] theorem sForG_ap {mi : IG} {gm : D → Env → Option Env} {b : SM} {r : Env} {S : Store} : sForG mi gm b r S = bindS (mi r S) r fun p S1 => sLoopG p.2 gm b p.1 r S1 := rfl
section
variable {X : Cx} {Wx : WX} {pos : Pos} {tg iter : Expr} {mi : IG} {sl : List Nat} {gm : D → Env → Option Env} {sb : SM}
theorem js_forG {body : List Stmt} (hp : PassesOwn (model X.prog X.w) X.A X.env X.xe) (hc : X.calm = true) (hi : PI X tg iter (iG X.K X.mg Wx mi)) (hg : PG X tg (gD X.K X.mg sl gm)) (hb : PSs X body (tDS X.K X.mg Wx sb))
    (hs : ∀ x, foldedSetIterable iter X.env x = pure x := by intro _; rfl) : PS X (.For tg iter body [] pos) (tDS X.K X.mg Wx (sForG mi gm sb)) :=
  ps_imp (ps_for hp hc hi hg hb hs) fun E g H h => by
    obtain ⟨T, r, S, rs, sim, h⟩ := h
    refine ⟨T, r, S, rs, sim, ZOut.bind h rs fun dsc S1 T1 H1 J st sim1 rel rs1 h1 => ?_⟩
    obtain ⟨ds, c⟩ := dsc
    obtain ⟨wk, hz⟩ := rel
    refine ⟨fun i m g H => ∃ T r S, m = ds.length - i ∧ i ≤ ds.length ∧ Step T1 H1 T H ∧ RepSt X.K T H r g ∧ Sim X.K X.mg T S H ∧ ZOut X.K X.mg Wx T H (sLoopG c gm sb (ds.drop i) r S) E, ⟨ds.length, T1, r, S1, by simp, Nat.zero_le _, Step.refl T1 H1, rs1, sim1, h1⟩, ?_⟩
    rintro i m g2 H2 ⟨T2, r2, S2, rfl, hi2, st2, rs2, sim2, h2⟩
    by_cases hlt : i < ds.length
    · have ed : ds.drop i = ds[i] :: ds.drop (i + 1) := List.drop_eq_getElem_cons hlt
      rw [ed] at h2
      by_cases hcc : c S2 = true
      · simp only [sLoopG, if_pos hcc] at h2
        obtain ⟨stop, go⟩ := wk T2 S2 H2 st2.kf sim2 hcc
        obtain ⟨g1, yl⟩ := go i ds[i] (List.getElem?_eq_getElem hlt)
        refine .inr ⟨g1, fun g H => ∃ T r S, Step T1 H1 T H ∧ RepSt X.K T H r g ∧ Sim X.K X.mg T S H ∧ ZOut X.K X.mg Wx T H (sLoopG c gm sb (ds.drop (i + 1)) r S) E, fun g3 H3 q => ?_, fun x H3 y => ?_⟩
        · obtain ⟨T3, r3, S3, q1, q2, q3, q4⟩ := q
          exact ⟨ds.length - (i + 1), by omega, T3, r3, S3, rfl, hlt, q1, q2, q3, q4⟩
        · obtain ⟨st3, sim3, rep3⟩ := yl x H3 y
          have h3 := ZOut.step st3 h2
          split at h3
          · exact h3.elim
          · rename_i r3 eg
            refine ⟨T2, r2, S2, ds[i], r3, rs2.step st3, sim3, rep3, eg, fun g4 rs4 _ _ => ⟨T2, r3, S2, rs4, sim3, ?_⟩⟩
            revert h3
            cases sb r3 S2 with
            | bad => exact fun h => h
            | exc n r' S' => exact fun h => h
            | ok f r' S' =>
              cases f with
              | next => exact fun h T' H' g' s sim' rs' => ⟨T', r', S', (st2.trans st3).trans s, rs', sim', ZOut.step s h⟩
              | cont => exact fun h T' H' g' s sim' rs' => ⟨T', r', S', (st2.trans st3).trans s, rs', sim', ZOut.step s h⟩
              | ret d => exact fun h => h
              | brk => exact fun h => h
      · simp only [sLoopG, if_neg hcc] at h2
        exact h2.elim
    · have e : i = ds.length := by omega
      subst e
      rw [List.drop_length] at h2
      by_cases hcc : c S2 = true
      · simp only [sLoopG, if_pos hcc] at h2
        obtain ⟨stop, go⟩ := wk T2 S2 H2 st2.kf sim2 hcc
        exact .inl ⟨stop, h2.nx sim2 rs2⟩
      · simp only [sLoopG, if_neg hcc] at h2
        exact h2.elim
end
/-! ### comprehensions -/
def lcG (c : Gd) (gm : D → Env → Option Env) (tt : BM) (te : EM) (r0 : Env) : List D → Store → R (List D)
  | [], S => if c S = true then .ok [] S else .bad
  | d :: ds, S => if c S = true then (match gm d r0 with
    | none => .bad
    | some r1 => (nox (tt r1 S)).bind fun b S1 => if b = true then (nox (te r1 S1)).bind fun y S2 => (lcG c gm tt te r0 ds S2).bind fun ys S3 => .ok (y :: ys) S3 else lcG c gm tt te r0 ds S1) else .bad
def lcEnd (nw : Bool) (ys : List D) (S : Store) : R D := if nw = true then .ok (.loc S.length) (S ++ [.lst ys]) else .ok (.lst ys) S
@[simp] theorem lcEnd_t (ys : List D) (S : Store) : lcEnd true ys S = .ok (.loc S.length) (S ++ [.lst ys]) := rfl
@[simp] theorem lcEnd_f (ys : List D) (S : Store) : lcEnd false ys S = .ok (.lst ys) S := rfl
def mLcG (nw : Bool) (mi : IG) (vs : List Nat) (gm : D → Env → Option Env) (tt : BM) (te : EM) : EM := fun r S => (mi r S).bind fun p S1 => (lcG p.2 gm tt te (wipeE r vs) p.1 S1).bind fun ys S2 => lcEnd nw ys S2
@[simp] theorem mLcG_ap {nw : Bool} {mi : IG} {vs : List Nat} {gm : D → Env → Option Env} {tt : BM} {te : EM} {r : Env} {S : Store} : mLcG nw mi vs gm tt te r S = (mi r S).bind fun p S1 => (lcG p.2 gm tt te (wipeE r vs) p.1 S1).bind fun ys S2 => lcEnd nw ys S2 := rfl
section
variable {K : PySem.W.Frag} {mg : Str → Option Value} {H : Hp}
theorem kp_show {p : Addr} {l h : List Addr} : Kp ⟨l, p :: h⟩ H ⟨l ++ [p], h⟩ H := by
  have off : ∀ {b}, (Tb.mk l (p :: h)).off b → (Tb.mk (l ++ [p]) h).off b := fun {b} x => ⟨fun q => by
    rcases List.mem_append.mp q with q | q
    · exact x.1 q
    · exact x.2 (by rw [List.mem_singleton.mp q]; exact List.mem_cons_self), fun q => x.2 (List.mem_cons_of_mem _ q)⟩
  exact ⟨fun _ _ _ n q => ⟨q, off n⟩, fun _ _ n q => ⟨q, off n⟩, fun n a q => by
    show (l ++ [p])[n]? = some a
    rw [List.getElem?_append_left (List.getElem?_eq_some_iff.mp q).1]
    exact q⟩
/-- the hidden list shown, as one that may change -/
theorem Sim.show' {S : Store} {p : Addr} {l h : List Addr} {vs : List V} {ds : List D} (s : Sim K mg ⟨l, p :: h⟩ S H) (hp : H p = some (.lst vs)) (r : RepL K ⟨l, p :: h⟩ H vs ds) : Sim K mg ⟨l ++ [p], h⟩ (S ++ [.lst ds]) H := by
  have hlen : l.length = S.length := s.len
  refine ⟨?_, ?_, fun i a o h1 h2 => ?_, fun a ha => s.hid a (List.mem_cons_of_mem _ ha), s.hl⟩
  · show (l ++ [p]).length = _
    rw [List.length_append, List.length_append, hlen]
    rfl
  · have := s.nd
    show (l ++ [p] ++ h).Nodup
    rw [List.append_assoc]
    exact this
  · have h1' : (l ++ [p])[i]? = some a := h1
    by_cases q : i < l.length
    · rw [List.getElem?_append_left q] at h1'
      rw [List.getElem?_append_left (by rw [← hlen]; exact q)] at h2
      exact (s.obj i a o h1' h2).kp kp_show rfl
    · have hi : i = l.length := by
        have := (List.getElem?_eq_some_iff.mp h1').1
        rw [List.length_append, List.length_singleton] at this
        omega
      subst hi
      rw [List.getElem?_append_right (Nat.le_refl _), Nat.sub_self] at h1'
      rw [hlen, List.getElem?_append_right (Nat.le_refl _), Nat.sub_self] at h2
      cases h1'
      cases h2
      exact ⟨vs, hp, r.kp kp_show⟩
end
section
variable {X : Cx} {Wx : WX} {elt tg iter : Expr} {ifs : List Expr} {scope : Scope} {own : List (Str × Nat)} {pos : Pos} {mi : IG} {sl : List Nat} {gm : D → Env → Option Env} {tt : BM} {te : EM} {nw : Bool}
theorem tLcG_of {K : PySem.W.Frag} {mg : Str → Option Value} {vs : List Nat} (hsl : ∀ i ∈ sl, i ∈ vs) : ∀ g H Q, tD K mg Wx (mLcG nw mi vs gm tt te) g H Q → tLc (iG K mg Wx mi) (gD K mg sl gm) (tDT K mg W0 tt) (tD K mg W0 te) vs g H Q := by
  intro g H Q h
  obtain ⟨T, r, S, rs, sim, h⟩ := h
  refine ⟨T, r, S, rs, sim, Out.bind h fun dsc S1 T1 H1 J st sim1 rel h1 => ?_⟩
  obtain ⟨ds, c⟩ := dsc
  obtain ⟨wk, hz⟩ := rel
  have hz : ds.length ≤ sizeLine := hz
  intro Dl hD
  have hl0 : HLen (upd H1 Dl (.lst [])) := hlen_lst sim1.hl (Nat.zero_le _)
  obtain ⟨kp0, simh⟩ := sim1.hide (u := .lst []) hD hl0
  have rs1 := rs.step st
  refine ⟨fun i m H => ∃ T S acc ys, m = ds.length - i ∧ i ≤ ds.length ∧ T.hid = Dl :: T1.hid ∧ Step T1 H1 ⟨T.loc, T1.hid⟩ H ∧ Sim K mg T S H ∧ H Dl = some (.lst acc) ∧ RepL K T H acc ys ∧ ys.length ≤ i ∧
    Out K mg Wx (Rep K) T1 g H1 ((lcG c gm tt te (wipeE r vs) (ds.drop i) S).bind fun zs S2 => lcEnd nw (ys ++ zs) S2) Q, ⟨ds.length, T1.hide Dl, S1, [], [], by simp, Nat.zero_le _, rfl, sim1.stepNew hD, simh, upd_same, .nil, Nat.le_refl _, by simpa using h1⟩, ?_⟩
  rintro i m H2 ⟨T2, S2, acc, ys, rfl, hi, eh, st2, sim2, hD2, ra, hys, ho⟩
  have off2 : ∀ b, T1.off b → H1 b ≠ none → T2.off b := fun b n q => ⟨(st2.out q n).1, fun z => by
    rw [eh] at z
    rcases List.mem_cons.mp z with z | z
    · exact q (by rw [z]; exact hD)
    · exact n.2 z⟩
  have kp2 : Kp T1 H1 T2 H2 := ⟨fun b u k n q => ⟨st2.keep b u n q, off2 b n (some_ne q)⟩, fun b u n q => ⟨st2.rd q n, off2 b n (rd_some q)⟩, fun n a q => st2.get q⟩
  have kf2 : Kf T1 H1 T2 H2 := ⟨kp2, fun b o u n q => ⟨st2.keep b _ n q, off2 b n (some_ne q)⟩⟩
  by_cases hlt : i < ds.length
  · have ed : ds.drop i = ds[i] :: ds.drop (i + 1) := List.drop_eq_getElem_cons hlt
    rw [ed] at ho
    by_cases hcc : c S2 = true
    · obtain ⟨stop, go⟩ := wk T2 S2 H2 kf2 sim2 hcc
      obtain ⟨g1, yl⟩ := go i ds[i] (List.getElem?_eq_getElem hlt)
      refine .inr ⟨g1, fun H => ∃ T S acc ys, T.hid = Dl :: T1.hid ∧ Step T1 H1 ⟨T.loc, T1.hid⟩ H ∧ Sim K mg T S H ∧ H Dl = some (.lst acc) ∧ RepL K T H acc ys ∧ ys.length ≤ i + 1 ∧
        Out K mg Wx (Rep K) T1 g H1 ((lcG c gm tt te (wipeE r vs) (ds.drop (i + 1)) S).bind fun zs S2 => lcEnd nw (ys ++ zs) S2) Q, fun H3 q => ?_, fun x H3 y => ?_⟩
      · obtain ⟨T3, S3, acc3, ys3, q1, q2, q3, q4, q5, q6, q7⟩ := q
        exact ⟨ds.length - (i + 1), by omega, T3, S3, acc3, ys3, rfl, hlt, q1, q2, q3, q4, q5, q6, q7⟩
      · obtain ⟨st3, sim3, rep3⟩ := yl x H3 y
        simp only [lcG, if_pos hcc] at ho
        -- how a step of the hidden table is one of the open one
        have opn : ∀ {Ta Tb : Tb} {Ha Hb : Hp}, Ta.hid = Dl :: T1.hid → Step T1 H1 ⟨Ta.loc, T1.hid⟩ Ha → Step Ta Ha Tb Hb → Tb.hid = Dl :: T1.hid ∧ Step T1 H1 ⟨Tb.loc, T1.hid⟩ Hb := fun {Ta Tb Ha Hb} e1 s1 s2 => by
          refine ⟨s2.hid.trans e1, s1.trans ⟨s2.ext, rfl, fun b hb => s2.hkeep b (by rw [e1]; exact List.mem_cons_of_mem _ hb), fun b u n q => ?_, s2.new⟩⟩
          by_cases hb : b = Dl
          · subst hb
            rw [s2.hkeep b (by rw [e1]; exact List.mem_cons_self)]
            exact q
          · exact s2.keep b u ⟨n.1, fun z => by
              rw [e1] at z
              exact (List.mem_cons.mp z).elim hb n.2⟩ q
        obtain ⟨eh3, op3⟩ := opn eh st2 st3
        have hid3 : Dl ∈ T2.hid := by rw [eh]; exact List.mem_cons_self
        split at ho
        · exact ho.elim
        · rename_i r1 eg
          refine ⟨T2, wipeE r vs, S2, ds[i], r1, ((rs1.wipe vs).kp kp2).step st3, sim3, rep3, eg, fun g4 rs4 lg kg => ⟨wipe_same hsl (by rw [lg, wipe_length]) kg, T2, r1, S2, rs4, sim3, ?_⟩⟩
          rw [R.bind_assoc] at ho
          refine lc_bind ho fun b S4 T4 H4 v st4 sim4 rel4 ho4 => ?_
          subst rel4
          obtain ⟨eh4, op4⟩ := opn eh3 op3 st4
          have hid4 : Dl ∈ T4.hid := by rw [eh4]; exact List.mem_cons_self
          have hD4 : H4 Dl = some (.lst acc) := (st4.hkeep Dl hid3).trans ((st3.hkeep Dl hid3).trans hD2)
          cases v with
          | false =>
            rw [if_neg Bool.false_ne_true] at ho4 ⊢
            exact ⟨T4, S4, acc, ys, eh4, op4, sim4, hD4, ra.step (st3.trans st4), by omega, ho4⟩
          | true =>
            rw [if_pos rfl, R.bind_assoc] at ho4
            rw [if_pos rfl]
            refine ⟨T4, r1, S4, rs4.step st4, sim4, lc_bind ho4 fun yd S5 T5 H5 yv st5 sim5 rel5 ho5 => ?_⟩
            obtain ⟨eh5, op5⟩ := opn eh4 op4 st5
            have hid5 : Dl ∈ T5.hid := by rw [eh5]; exact List.mem_cons_self
            have ra5 : RepL K T5 H5 acc ys := ra.step ((st3.trans st4).trans st5)
            have hal : acc.length < sizeLine := by rw [ra5.length]; omega
            have hl5 : HLen (upd H5 Dl (.lst (acc ++ [yv]))) := hlen_lst sim5.hl (by rw [List.length_append, List.length_singleton]; omega)
            obtain ⟨kp5, sim6⟩ := sim5.setHid (u := .lst (acc ++ [yv])) hid5 hl5
            refine ⟨acc, (st5.hkeep Dl hid4).trans hD4, hal, T5, S5, acc ++ [yv], ys ++ [yd], eh5, ⟨op5.ext, rfl, fun b hb => ?_, fun b u n q => ?_, op5.new⟩, sim6, upd_same, RepL.append (ra5.kp kp5.toKp) (.cons (rel5.kp kp5.toKp) .nil), by rw [List.length_append, List.length_singleton]; omega, ?_⟩
            · rw [upd_ne fun e => sim1.hid b hb (by rw [e]; exact hD)]
              exact op5.hkeep b hb
            · rw [upd_ne (ne_of_none q hD)]
              exact op5.keep b u n q
            · rw [R.bind_assoc] at ho5
              have e5 : (fun zs S2 => (lcEnd nw (ys ++ [yd] ++ zs) S2 : R D)) = fun a S => (R.ok (yd :: a) S).bind fun zs S2 => lcEnd nw (ys ++ zs) S2 := by
                funext zs S2
                show _ = lcEnd nw (ys ++ (yd :: zs)) S2
                rw [List.append_assoc]
                rfl
              rw [e5]
              exact ho5
    · simp only [lcG, if_neg hcc] at ho
      exact ho.elim
  · have e : i = ds.length := by omega
    subst e
    rw [List.drop_length] at ho
    by_cases hcc : c S2 = true
    · obtain ⟨stop, go⟩ := wk T2 S2 H2 kf2 sim2 hcc
      simp only [lcG, if_pos hcc] at ho
      cases nw with
      | false =>
        refine .inl ⟨stop, ho ⟨T2.loc, T1.hid⟩ H2 _ st2 ?_ ?_⟩
        · have h9 := sim2
          obtain ⟨l2, h2⟩ := T2
          cases eh
          exact h9.unhide
        · obtain ⟨l2, h2⟩ := T2
          cases eh
          rw [List.append_nil]
          refine .lst hD2 ⟨fun z => ?_, fun z => ?_⟩ (ra.kp kp_unhide)
          · exact sim2.apart z List.mem_cons_self
          · have nd := (List.nodup_append.mp sim2.nd).2.1
            exact (List.nodup_cons.mp nd).1 z
      | true =>
        refine .inl ⟨stop, ho ⟨T2.loc ++ [Dl], T1.hid⟩ H2 _ ?_ ?_ ?_⟩
        · obtain ⟨mo, em⟩ := st2.ext
          refine ⟨⟨mo ++ [Dl], ?_⟩, rfl, st2.hkeep, st2.keep, fun a ha hn => ?_⟩
          · show T2.loc ++ [Dl] = _
            rw [show T2.loc = T1.loc ++ mo from em, List.append_assoc]
          · rcases List.mem_append.mp ha with q | q
            · exact st2.new a q hn
            · rw [List.mem_singleton.mp q]
              exact hD
        · obtain ⟨l2, h2⟩ := T2
          cases eh
          rw [List.append_nil]
          exact sim2.show' hD2 ra
        · refine .loc ?_
          have := sim2.len
          show (T2.loc ++ [Dl])[S2.length]? = some Dl
          rw [← this, List.getElem?_append_right (Nat.le_refl _), Nat.sub_self]
          rfl
    · simp only [lcG, if_neg hcc] at ho
      exact ho.elim
theorem j_lcG (hsl : ∀ i ∈ sl, i ∈ own.map (·.2)) (hc : X.calm = true) (hN : X.N.Nodup) (hi : PI X tg iter (iG X.K X.mg Wx mi)) (ok : BlkOk X.N X.env.scope scope own)
    (hg : ∀ (s : Shared) (H : Hp) (C : Addr) (cl : List (Str × Addr)) (fp : List Addr), PG (X.blk s H scope (compEnvC scope cl C X.env) fp) tg (gD X.K X.mg sl gm)) (ht : ∀ (s : Shared) (H : Hp) (C : Addr) (cl : List (Str × Addr)) (fp : List Addr), PTs (X.blk s H scope (compEnvC scope cl C X.env) fp) ifs (tDT X.K X.mg W0 tt))
    (he : ∀ (s : Shared) (H : Hp) (C : Addr) (cl : List (Str × Addr)) (fp : List Addr), PE (X.blk s H scope (compEnvC scope cl C X.env) fp) elt (tD X.K X.mg W0 te)) (hs : ∀ x, foldedSetIterable iter X.env x = pure x := by intro _; rfl) :
    PE X (.ListComp elt [⟨tg, iter, ifs, 0⟩] scope pos) (tD X.K X.mg Wx (mLcG nw mi (own.map (·.2)) gm tt te)) := pe_imp (pe_lc hc hN hi ok hg ht he hs) (tLcG_of hsl)
theorem js_setLcG {i : Nat} {y : Str} {py spos : Pos} (hsl : ∀ i ∈ sl, i ∈ own.map (·.2)) (hc : X.calm = true) (hN : X.N.Nodup) (hy : X.N[i]? = some y) (hyl : X.env.scope.names.lookup y = some .local)
    (hsw : swapsWith (.ListComp elt [⟨tg, iter, ifs, 0⟩] scope pos) (some (.Name y py)) spos.line X.env = pure true) (hi : PI X tg iter (iG X.K X.mg Wx mi)) (ok : BlkOk X.N X.env.scope scope own)
    (hg : ∀ (s : Shared) (H : Hp) (C : Addr) (cl : List (Str × Addr)) (fp : List Addr), PG (X.blk s H scope (compEnvC scope cl C X.env) fp) tg (gD X.K X.mg sl gm)) (ht : ∀ (s : Shared) (H : Hp) (C : Addr) (cl : List (Str × Addr)) (fp : List Addr), PTs (X.blk s H scope (compEnvC scope cl C X.env) fp) ifs (tDT X.K X.mg W0 tt))
    (he : ∀ (s : Shared) (H : Hp) (C : Addr) (cl : List (Str × Addr)) (fp : List Addr), PE (X.blk s H scope (compEnvC scope cl C X.env) fp) elt (tD X.K X.mg W0 te)) (hs : ∀ x, foldedSetIterable iter X.env x = pure x := by intro _; rfl) :
    PS X (.Assign [.Name y py] (.ListComp elt [⟨tg, iter, ifs, 0⟩] scope pos) spos) (tDS X.K X.mg Wx (sSet i (mLcG nw mi (own.map (·.2)) gm tt te))) :=
  ps_imp (ps_setLc hc hN hy hyl hsw hi ok hg ht he hs) fun E g H h => by
    obtain ⟨T, r, S, rs, sim, h⟩ := h
    refine tLcG_of hsl g H _ ⟨T, r, S, rs, sim, ZOut.bind h rs fun d S1 T1 H1 v st sim1 rel rs1 h1 => ?_⟩
    exact h1.nx sim1 (rs1.set rel)
end
/-! ### what they come to -/
theorem lcG_pure {c : Gd} {gm : D → Env → Option Env} {tt : BM} {te : EM} {r0 : Env} {S : Store} (p : D → Bool) (f : D → D) (hc : c S = true) : ∀ ds : List D, (∀ d ∈ ds, ∃ r1, gm d r0 = some r1 ∧ tt r1 S = .ok (p d) S ∧ (p d = true → te r1 S = .ok (f d) S)) → lcG c gm tt te r0 ds S = .ok ((ds.filter p).map f) S
  | [], _ => by
    unfold lcG
    rw [if_pos hc]
    rfl
  | d :: ds, h => by
    obtain ⟨r1, h1, h2, h3⟩ := h d List.mem_cons_self
    have ih := lcG_pure (c := c) (gm := gm) (tt := tt) (te := te) (r0 := r0) p f hc ds fun e he => h e (List.mem_cons_of_mem _ he)
    unfold lcG
    rw [if_pos hc]
    simp only [h1, h2, nox_ok, rb_ok]
    cases q : p d with
    | false => simp [q, ih]
    | true => simp [q, h3 q, ih]
theorem lcG_map {c : Gd} {gm : D → Env → Option Env} {te : EM} {r0 : Env} {S : Store} (f : D → D) (hc : c S = true) (ds : List D) (h : ∀ d ∈ ds, ∃ r1, gm d r0 = some r1 ∧ te r1 S = .ok (f d) S) : lcG c gm mYes te r0 ds S = .ok (ds.map f) S := by
  have := lcG_pure (c := c) (gm := gm) (tt := mYes) (te := te) (r0 := r0) (S := S) (fun _ => true) f hc ds fun d hd => by
    obtain ⟨r1, a, b⟩ := h d hd
    exact ⟨r1, a, rfl, fun _ => b⟩
  rw [this, List.filter_eq_self.mpr fun _ _ => rfl]
/-- with no check it is the plain one -/
theorem lcG_yes {gm : D → Env → Option Env} {tt : BM} {te : EM} {r0 : Env} : ∀ (ds : List D) (S : Store), lcG gYes gm tt te r0 ds S = lcL gm tt te r0 ds S
  | [], S => rfl
  | d :: ds, S => by
    unfold lcG lcL
    rw [if_pos (gYes_ap S)]
    cases gm d r0 with
    | none => rfl
    | some r1 =>
      have ih : ∀ S, lcG gYes gm tt te r0 ds S = lcL gm tt te r0 ds S := lcG_yes ds
      simp only [ih]
/-! ### three names at once -/
def sPar3 (i j l : Nat) (ms : AM) : SM := fun r S => bindS (ms r S) r fun ds S1 => match ds with
  | [a, b, c] => .ok .next (((r.set i (some a)).set j (some b)).set l (some c)) S1
  | _ => .bad
@[simp] theorem sPar3_ap {i j l : Nat} {ms : AM} {r : Env} {S : Store} : sPar3 i j l ms r S = bindS (ms r S) r fun ds S1 => match ds with
  | [a, b, c] => .ok .next (((r.set i (some a)).set j (some b)).set l (some c)) S1
  | _ => .bad := rfl
theorem js_par3 {X : Cx} {Wx : WX} {i j l : Nat} {x y z : Str} {a b c : Expr} {ms : AM} {px py pz pt pos : Pos} {kt k2 pt2} (hc : X.calm = true) (hN : X.N.Nodup) (hi : X.N[i]? = some x) (hj : X.N[j]? = some y) (hl : X.N[l]? = some z) (hij : i ≠ j) (hil : i ≠ l) (hjl : j ≠ l)
    (hx : X.env.scope.names.lookup x = some .local) (hy : X.env.scope.names.lookup y = some .local) (hz : X.env.scope.names.lookup z = some .local) (ha : PA X [a, b, c] (tDA X.K X.mg Wx ms))
    (hw : swappedStores [.Tuple [.Name x px, .Name y py, .Name z pz] kt pt] (.Tuple [a, b, c] k2 pt2) X.env = pure (some [x, y, z]))
    (hs : swapsWithSole [.Tuple [.Name x px, .Name y py, .Name z pz] kt pt] (.Tuple [a, b, c] k2 pt2) pos.line X.env = pure false := by rfl) :
    PS X (.Assign [.Tuple [.Name x px, .Name y py, .Name z pz] kt pt] (.Tuple [a, b, c] k2 pt2) pos) (tDS X.K X.mg Wx (sPar3 i j l ms)) :=
  ps_imp (ps_par3 hc hN hi hj hl hij hil hjl hx hy hz ha hw hs) fun E g H h => by
    obtain ⟨T, r, S, rs, sim, h⟩ := h
    refine ⟨T, r, S, rs, sim, ZOut.bind h rs fun d S1 T1 H1 v st sim1 rel rs1 h1 => ?_⟩
    cases rel with
    | nil => exact h1.elim
    | cons q1 rel =>
      cases rel with
      | nil => exact h1.elim
      | cons q2 rel =>
        cases rel with
        | nil => exact h1.elim
        | cons q3 rel =>
          cases rel with
          | nil => exact ⟨_, _, _, rfl, h1.nx sim1 (((rs1.set q1).set q2).set q3)⟩
          | cons _ _ => exact h1.elim
end Dv
/-! leaping by hand -/
namespace Dv
open PySem L2
noncomputable def mHandB : SM := (sSeq (sSet 3 (mBin ixD (mVar 1) (mC (.int 0))))
    (sSeq (sSet 8 (mCall maxD (mCons (mLcG false (mIterG (mVar 5)) [2] (tgN 2) mYes (mBin ixD (mVar 2) (mC (.int 0)))) mNil)))
    (sSeq (sSet 7 (mBin addD (mVar 7) (mC (.int 1))))
    (sSeq (sIf (mT (mBin eqD (mBin ixD (mBin ixD (mVar 5) (mVar 3)) (mC (.int 0))) (mVar 8))) (sSeq (sDrop (mAppend (mVar 6) (mVar 8)))
    (sSetIx (mVar 5) (mVar 3) (mSl (mBin ixD (mVar 5) (mVar 3)) (mP (mC (.int 1))) mNoP))) (sSetIx (mVar 5) (mVar 3) (mLc (mIter (mBin ixD (mVar 5) (mVar 3))) [9] (tgN 9) (mT (mBin geD (mVar 9) (mVar 8))) (mVar 9))))
    (sSeq (sIf (mNotT (mTru (mBin ixD (mVar 5) (mVar 3)))) (sRet (mTup (mCons (mCall tupD (mCons (mVar 6) mNil)) (mCons (mVar 7) mNil)))) sNil)
    (sSet 1 (mBin addD (mSl (mVar 1) (mP (mC (.int 1))) mNoP) (mLst (mCons (mVar 3) mNil)))))))))
noncomputable def mHand (fu : Nat) : SM :=
    (sSeq (sIf (mTru (mLcG false (mIterG (mVar 0)) [2] (tgN 2) (mT (mBin eqD (mVar 2) (mTup mNil))) (mVar 2))) (sRet (mTup (mCons (mTup mNil) (mCons (mC (.int 0)) mNil)))) sNil)
    (sSeq (sSet 1 (mLcG false (mEnumG (mCons (mVar 0) mNil)) [3, 2] (tgT 2 (tgsCons (tgN 3) (tgsCons (tgN 2) tgsNil))) mYes (mTup (mCons (mBin ixD (mVar 2) (mC (.int 0))) (mCons (mVar 3) mNil)))))
    (sSeq (sSet 1 (mLc (mIter (mCall sortD (mCons (mVar 1) mNil))) [4, 3] (tgT 2 (tgsCons (tgN 4) (tgsCons (tgN 3) tgsNil))) mYes (mVar 3)))
    (sSeq (sPar3 5 6 7 (mCons (mLcG true (mIterG (mVar 0)) [2] (tgN 2) mYes (mCall lstD (mCons (mVar 2) mNil))) (mCons (mNewL mNil) (mCons (mC (.int 0)) mNil))))
    (sWhile (mTru (mC (.bl true))) mHandB fu)))))
noncomputable def FHand (fu : Nat) : List D → Store → R D := runT 10 (mHand fu)
def lstI (l : List Int) : D := .lst (l.map D.int)
theorem cut_drop1 {α : Type} (xs : List α) : cutL xs (some 1) none = xs.drop 1 := by
  unfold cutL
  rw [show (1 : Int) = ((1 : Nat) : Int) from rfl, HT.sIx_none, HT.sIx_nat]
  cases xs with
  | nil => rfl
  | cons x xs =>
    rw [show min 1 (x :: xs).length = 1 by simp]
    exact List.take_of_length_le (by simp)
theorem cut_take1 {α : Type} (xs : List α) : cutL xs none (some 1) = xs.take 1 := by
  unfold cutL
  rw [show (1 : Int) = ((1 : Nat) : Int) from rfl, HT.sIx_none, HT.sIx_nat, List.drop_zero, Nat.sub_zero]
  cases xs with
  | nil => rfl
  | cons x xs =>
    rw [show min 1 (x :: xs).length = 1 by simp]
section
variable {rows : List (List Int)} {S0 : Store}
/-- the greatest of the first values -/
theorem inv_max {ord : List Nat} {left : List (List Int)} {g : Int} (inv : Lp.Inv ord left g) : maxI (left.map fun l => l.headD 0) = some g := by
  obtain ⟨o, z, eo, ez⟩ := inv.last
  have hz : z < left.length := (inv.mem z).mp (by rw [eo]; simp)
  have hgd := Lp.getD_mem hz
  obtain ⟨m, hm⟩ := maxI_some (ns := left.map fun l => l.headD 0) (by
    intro q
    rw [List.map_eq_nil_iff] at q
    rw [q] at hz
    cases hz)
  obtain ⟨m1, m2⟩ := maxI_ok hm
  obtain ⟨l, hl, rfl⟩ := List.mem_map.mp m1
  obtain ⟨j, hj, rfl⟩ := List.mem_iff_getElem.mp hl
  have h1 := inv.le j ((inv.mem j).mpr hj)
  unfold Lp.hd at h1 ez
  rw [List.getD_eq_getElem?_getD, List.getElem?_eq_getElem hj, Option.getD_some] at h1
  have h2 := m2 _ (List.mem_map_of_mem (f := fun l : List Int => l.headD 0) hgd)
  rw [hm]
  congr 1
  have h3 : (left.getD z []).headD 0 ≤ (left[j]).headD 0 := h2
  omega
theorem hand_loop {s0 : Store} (hrl : rows.length ≤ 1000) :
    ∀ (k : Nat) {ord : List Nat} {left : List (List Int)} {g : Int} {found r : List Int} {looks L : Nat} {y0 y2 y3 y4 y8 y9 : Option D}, Lp.Inv ord left g → left.length ≤ 1000 →
      found.length + Lp.tot left < 100000 → Lp.run k ord left g found looks = some (r, L) →
      ∃ (e : Env) (left' : List D), sWhile (mTru (mC (.bl true))) mHandB k [y0, some (.lst (ord.map natD)), y2, y3, y4, some (.loc S0.length), some (.loc (S0.length + 1)), some (.int looks), y8, y9] (S0 ++ [.lst (left.map lstI), .lst (found.map D.int)])
        = .ok (.ret (.tup [rowD r, .int L])) e (S0 ++ [.lst left', .lst (r.map D.int)])
  | 0, _, _, _, _, _, _, _, _, _, _, _, _, _, _, _, _, h => by cases h
  | k + 1, [], left, g, found, r, looks, L, y0, y2, y3, y4, y8, y9, inv, _, _, h => by cases h
  | k + 1, i :: ord, left, g, found, r, looks, L, y0, y2, y3, y4, y8, y9, inv, hll, hF, h => by
    have hil : i < left.length := (inv.mem i).mp List.mem_cons_self
    obtain ⟨l, hl⟩ : ∃ l, left[i]? = some l := ⟨_, List.getElem?_eq_getElem hil⟩
    have hgd : left.getD i [] = l := by rw [List.getD_eq_getElem?_getD, hl]; rfl
    have hmem : l ∈ left := List.mem_of_getElem? hl
    have hne : l ≠ [] := inv.ne _ hmem
    have hup := inv.up _ hmem
    obtain ⟨v, l2, rfl⟩ : ∃ v l2, l = v :: l2 := by
      cases l with
      | nil => exact absurd rfl hne
      | cons v l2 => exact ⟨v, l2, rfl⟩
    have x1 : atI ((i :: ord).map natD) 0 = some (.int i) := atI_zero _ _
    have x2 : ∀ {left : List (List Int)} {l : List Int}, left[i]? = some l → atI (left.map lstI) (i : Int) = some (lstI l) := fun {left l} h => atI_nat (by rw [List.getElem?_map, h]; rfl)
    have x3 : ∀ S, ixD (lstI (v :: l2)) (.int 0) S = some (.int v) := fun S => atI_zero _ _
    have il : i < (left.map lstI).length := by rw [List.length_map]; exact hil
    have x5 : ixN left.length (i : Int) = some i := ixN_nat hil
    have hmx : lcG (gIs S0.length (left.map lstI)) (tgN 2) mYes (mBin ixD (mVar 2) (mC (.int 0))) [y0, some (.lst ((i :: ord).map natD)), none, some (.int i), y4, some (.loc S0.length), some (.loc (S0.length + 1)), some (.int looks), y8, y9] (left.map lstI) (S0 ++ [.lst (left.map lstI), .lst (found.map D.int)])
        = .ok ((left.map fun l => l.headD 0).map D.int) (S0 ++ [.lst (left.map lstI), .lst (found.map D.int)]) := by
      rw [lcG_map (fun d => match d with | .lst (.int z :: _) => .int z | d => d) (gIs_ap (two_a _ _)) (left.map lstI) fun d hd => by
        obtain ⟨l, hl, rfl⟩ := List.mem_map.mp hd
        cases l with
        | nil => exact absurd rfl (inv.ne _ hl)
        | cons x l =>
          refine ⟨_, rfl, ?_⟩
          have : ∀ S, ixD (lstI (x :: l)) (.int 0) S = some (.int x) := fun S => atI_zero _ _
          simp [this]
          rfl]
      congr 1
      rw [List.map_map, List.map_map]
      refine List.map_congr_left fun l hl => ?_
      cases l with
      | nil => exact absurd rfl (inv.ne _ hl)
      | cons x l => rfl
    have mx := inv_max inv
    -- what is left behind the look
    have key : (sIf (mT (mBin eqD (mBin ixD (mBin ixD (mVar 5) (mVar 3)) (mC (.int 0))) (mVar 8))) (sSeq (sDrop (mAppend (mVar 6) (mVar 8)))
    (sSetIx (mVar 5) (mVar 3) (mSl (mBin ixD (mVar 5) (mVar 3)) (mP (mC (.int 1))) mNoP))) (sSetIx (mVar 5) (mVar 3) (mLc (mIter (mBin ixD (mVar 5) (mVar 3))) [9] (tgN 9) (mT (mBin geD (mVar 9) (mVar 8))) (mVar 9))))
          [y0, some (.lst ((i :: ord).map natD)), y2, some (.int i), y4, some (.loc S0.length), some (.loc (S0.length + 1)), some (.int ((looks : Int) + 1)), some (.int g), y9] (S0 ++ [.lst (left.map lstI), .lst (found.map D.int)])
          = .ok .next [y0, some (.lst ((i :: ord).map natD)), y2, some (.int i), y4, some (.loc S0.length), some (.loc (S0.length + 1)), some (.int ((looks : Int) + 1)), some (.int g), y9] (S0 ++ [.lst ((left.set i (Lp.nxt g (v :: l2))).map lstI), .lst ((found ++ Lp.fnd g (v :: l2)).map D.int)]) := by
      have x2' := x2 hl
      by_cases c : v = g
      · subst c
        have en : Lp.nxt v (v :: l2) = l2 := by simp [Lp.nxt]
        have ef : Lp.fnd v (v :: l2) = [v] := by simp [Lp.fnd]
        have hfl : found.length < 100000 := by omega
        have sl : ∀ S, slD (lstI (v :: l2)) (some 1) none S = some (lstI l2) := fun S => by
          show some (D.lst (cutL ((v :: l2).map D.int) (some 1) none)) = _
          rw [cut_drop1]
          rfl
        have e1 : (left.map lstI).set i (lstI l2) = (left.set i l2).map lstI := by rw [List.map_set]
        rw [ef, en]
        simp [two_a, two_b, two_sa, two_sb, x2', x3, x5, hfl, sl, -List.map_set]
        rw [e1]
      · have hh : (v :: l2).head? ≠ some g := by intro q; cases q; exact c rfl
        have en : Lp.nxt g (v :: l2) = (v :: l2).filter fun x => decide (g ≤ x) := by
          unfold Lp.nxt
          rw [if_neg hh, Lp.dropWhile_up hup]
        have ef : Lp.fnd g (v :: l2) = [] := by unfold Lp.fnd; rw [if_neg hh]
        have hlc : lcL (tgN 9) (mT (mBin geD (mVar 9) (mVar 8))) (mVar 9) [y0, some (.lst ((i :: ord).map natD)), y2, some (.int i), y4, some (.loc S0.length), some (.loc (S0.length + 1)), some (.int ((looks : Int) + 1)), some (.int g), none] ((v :: l2).map D.int) (S0 ++ [.lst (left.map lstI), .lst (found.map D.int)])
            = .ok (((v :: l2).filter fun x => decide (g ≤ x)).map D.int) (S0 ++ [.lst (left.map lstI), .lst (found.map D.int)]) := by
          rw [lc_pure (fun d => match d with | .int x => decide (g ≤ x) | _ => false) id ((v :: l2).map D.int) fun d hd => by
            obtain ⟨x, hx, rfl⟩ := List.mem_map.mp hd
            exact ⟨_, rfl, by simp, fun _ => by simp⟩]
          congr 1
          rw [List.map_id, List.filter_map]
          rfl
        have sq : seqD (lstI (v :: l2)) = some ((v :: l2).map D.int) := rfl
        have e1 : (left.map lstI).set i (.lst (((v :: l2).filter fun x => decide (g ≤ x)).map D.int)) = (left.set i ((v :: l2).filter fun x => decide (g ≤ x))).map lstI := by
          rw [List.map_set]
          rfl
        rw [ef, en]
        simp [two_a, two_b, two_sa, two_sb, x2', x3, x5, c, sq, hlc, -List.map_set, -List.map_cons]
        rw [e1]
    have hil2 : i < (left.set i (Lp.nxt g (v :: l2))).length := by rw [List.length_set]; exact hil
    have x6 : atI ((left.set i (Lp.nxt g (v :: l2))).map lstI) (i : Int) = some (lstI (Lp.nxt g (v :: l2))) := x2 (List.getElem?_set_self hil)
    have hrl' : (found ++ Lp.fnd g (v :: l2)).length ≤ 100000 := by
      have : (Lp.fnd g (v :: l2)).length ≤ 1 := by unfold Lp.fnd; split <;> simp
      rw [List.length_append]
      omega
    have h' : (match Lp.nxt g (left.getD i []) with
      | [] => some (found ++ Lp.fnd g (left.getD i []), looks + 1)
      | y :: l => Lp.run k (ord ++ [i]) (left.set i (y :: l)) y (found ++ Lp.fnd g (left.getD i [])) (looks + 1)) = some (r, L) := h
    rw [hgd] at h'
    have sg : ∀ S : Store, S[S0.length]? = some (.lst (left.map lstI)) → seqG (.loc S0.length) S = some (left.map lstI, gIs S0.length (left.map lstI)) := fun S hS => by
      unfold seqG
      simp only [hS]
    have sg' := sg _ (two_a (S0 := S0) (.lst (left.map lstI)) (.lst (found.map D.int)))
    conv => enter [1, e, 1, sp', 1]; unfold sWhile
    cases hn : Lp.nxt g (v :: l2) with
    | nil =>
      rw [hn] at h' x6 key
      cases h'
      have tr : ∀ S, truD (lstI []) S = some false := fun S => rfl
      have er : rowD (found ++ Lp.fnd g (v :: l2)) = .tup ((found ++ Lp.fnd g (v :: l2)).map D.int) := rfl
      refine ⟨[y0, some (.lst ((i :: ord).map natD)), y2, some (.int i), y4, some (.loc S0.length), some (.loc (S0.length + 1)), some (.int ((looks : Int) + 1)), some (.int g), y9], (left.set i []).map lstI, ?_⟩
      unfold mHandB
      simp [x1, sg', hmx, mx, key, two_a, two_b, x6, tr, er, -sIf_ap, -List.map_set, -List.map_append, -List.map_cons, -List.headD_eq_head?_getD, -List.map_map]
      simp [two_a, two_b, x6, tr, er, -List.map_set, -List.map_append, -List.map_cons]
    | cons y l3 =>
      rw [hn] at h' x6 key
      have st := inv.step (y := y) (l := l3) (by rw [hgd, hn])
      have tr : ∀ S, truD (lstI (y :: l3)) S = some true := fun S => rfl
      have hol : ord.length + 1 = left.length := inv.len
      obtain ⟨e, left', er⟩ := hand_loop hrl k (s0 := s0) (y0 := y0) (y2 := y2) (y3 := some (.int i)) (y4 := y4) (y8 := some (.int g)) (y9 := y9) st (by rw [List.length_set]; exact hll) (by
        have h1 : (y :: l3).length < (left.getD i []).length := by
          rw [hgd, ← hn]
          have h3 := inv.le i List.mem_cons_self
          unfold Lp.hd at h3
          rw [hgd] at h3
          exact Lp.nxt_len hne h3
        have h2 := Lp.tot_set hil h1
        have : (Lp.fnd g (v :: l2)).length ≤ 1 := by unfold Lp.fnd; split <;> simp
        rw [List.length_append]
        omega) h'
      refine ⟨e, left', ?_⟩
      rw [← er]
      have e1 : cutL ((i :: ord).map natD) (some 1) none = ord.map natD := by
        rw [cut_drop1]
        rfl
      have e2 : ord.map natD ++ [D.int (i : Int)] = (ord ++ [i]).map natD := by
        rw [List.map_append]
        rfl
      have hb : ord.length + 1 ≤ 100000 := by omega
      have e3 : ∀ S, addD (.lst (ord.map natD)) (.lst [D.int (i : Int)]) S = some (.lst ((ord ++ [i]).map natD)) := fun S => by
        rw [addD_lst, if_pos (by rw [List.length_map]; simpa using hb), e2]
      unfold mHandB
      simp [x1, sg', hmx, mx, key, two_a, two_b, x6, tr, -sIf_ap, -List.map_set, -List.map_append, -List.map_cons, -List.headD_eq_head?_getD, -List.map_map]
      simp [two_a, two_b, x6, tr, e1, e3, -List.map_set, -List.map_append, -List.map_cons, -addD_lst]
/-- the turns by the first values, those alike by their numbers -/
theorem ord_lex : ((ordOf rows).map fun i => [Lp.hd rows i, (i : Int)]).Pairwise fun a b => ltR a b = true := by
  let le : Nat → Nat → Bool := fun a b => decide (Lp.hd rows a ≤ Lp.hd rows b)
  have tr : ∀ a b c, le a b = true → le b c = true → le a c = true := fun a b c h1 h2 => by
    simp only [le, decide_eq_true_eq] at *
    omega
  have to : ∀ a b, (le a b || le b a) = true := fun a b => by
    simp only [le, Bool.or_eq_true, decide_eq_true_eq]
    omega
  have e : ordOf rows = ((List.range rows.length).zipIdx.mergeSort (List.zipIdxLE le)).map (·.1) := List.mergeSort_zipIdx.symm
  have pw := List.pairwise_mergeSort (le := List.zipIdxLE le) (List.zipIdxLE_trans tr) (List.zipIdxLE_total to) (List.range rows.length).zipIdx
  have nd : (ordOf rows).Nodup := (List.mergeSort_perm _ _).nodup_iff.mpr List.nodup_range
  rw [e] at nd
  have pn := List.pairwise_map.mp nd
  rw [e, List.map_map, List.pairwise_map]
  refine List.Pairwise.imp_of_mem ?_ (pw.and pn)
  rintro ⟨a, i⟩ ⟨b, j⟩ ha hb ⟨h1, h2⟩
  have ma := List.mk_mem_zipIdx_iff_getElem?.mp ((List.mergeSort_perm _ _).mem_iff.mp ha)
  have mb := List.mk_mem_zipIdx_iff_getElem?.mp ((List.mergeSort_perm _ _).mem_iff.mp hb)
  have ea : a = i := by
    obtain ⟨q1, q2⟩ := List.getElem?_eq_some_iff.mp ma
    rw [List.getElem_range] at q2
    exact q2.symm
  have eb : b = j := by
    obtain ⟨q1, q2⟩ := List.getElem?_eq_some_iff.mp mb
    rw [List.getElem_range] at q2
    exact q2.symm
  subst ea
  subst eb
  show ltR [Lp.hd rows a, (a : Int)] [Lp.hd rows b, (b : Int)] = true
  unfold List.zipIdxLE at h1
  simp only [le] at h1
  have h2 : a ≠ b := h2
  rw [ltR, HT.lexLt_cons]
  by_cases q : Lp.hd rows a = Lp.hd rows b
  · rw [if_pos q, HT.lexLt_cons, if_neg (by omega)]
    rw [if_pos (by simp; omega), if_pos (by simp; omega)] at h1
    simp only [decide_eq_true_eq] at h1 ⊢
    omega
  · rw [if_neg q]
    split at h1
    · rename_i q2
      simp only [decide_eq_true_eq] at q2 ⊢
      omega
    · cases h1
theorem sort_ord : sortL ltR ((List.range rows.length).map fun i => [Lp.hd rows i, (i : Int)]) = (ordOf rows).map fun i => [Lp.hd rows i, (i : Int)] := by
  have inj : ∀ i j : Nat, [Lp.hd rows i, (i : Int)] = [Lp.hd rows j, (j : Int)] → i = j := fun i j h => by
    have := (List.cons.inj (List.cons.inj h).2).1
    omega
  have nd : ((List.range rows.length).map fun i => [Lp.hd rows i, (i : Int)]).Nodup := by
    show List.Pairwise _ _
    rw [List.pairwise_map]
    exact List.nodup_range.imp fun {a b} h q => h (inj a b q)
  refine strict_ext ltR_swo (sortL_strict ltR_swo ltR_tri nd) ord_lex fun x => ?_
  rw [(sortL_perm _).mem_iff, List.mem_map, List.mem_map]
  constructor
  · rintro ⟨a, h, rfl⟩
    exact ⟨a, (List.mergeSort_perm _ _).mem_iff.mpr h, rfl⟩
  · rintro ⟨a, h, rfl⟩
    exact ⟨a, (List.mergeSort_perm _ _).mem_iff.mp h, rfl⟩
theorem enum_rows : enumL (rows.map rowD) = (List.range rows.length).map fun i => D.tup [.int (i : Nat), rowD (rows.getD i [])] := by
  refine List.ext_getElem? fun i => ?_
  unfold enumL
  rw [List.getElem?_zipWith, List.getElem?_map, List.getElem?_map, List.length_map]
  by_cases h : i < rows.length
  · rw [List.getElem?_range h, List.getElem?_eq_getElem h]
    show some (D.tup [.int (i : Nat), rowD rows[i]]) = some (D.tup [.int (i : Nat), rowD (rows.getD i [])])
    rw [List.getD_eq_getElem?_getD, List.getElem?_eq_getElem h]
    rfl
  · rw [List.getElem?_eq_none (l := rows) (by omega), List.getElem?_eq_none (by rw [List.length_range]; omega)]
    rfl
theorem hand_ok {S : Store} {p fu : Nat} (hS : S[p]? = some (.lst (rows.map rowD))) (h0 : rows ≠ []) (hrl : rows.length ≤ 1000) (hup : ∀ row ∈ rows, row.Pairwise (· < ·)) (ht : Lp.tot rows < 100000) (hfu : Lp.tot rows < fu) :
    FHand fu [.loc p] S = .ok (.tup [rowD (leapF rows).1, .int (leapF rows).2]) S := by
  show finT S (mHand fu (frame 10 _) S) = _
  have ef : frame 10 [.loc p] = [some (.loc p), none, none, none, none, none, none, none, none, none] := rfl
  rw [ef]
  have sg : ∀ S' : Store, S'[p]? = some (.lst (rows.map rowD)) → seqG (.loc p) S' = some (rows.map rowD, gIs p (rows.map rowD)) := fun S' h => by
    unfold seqG
    simp only [h]
  have sg1 := sg S hS
  have eqE : ∀ l : List Int, eqD (rowD l) (.tup []) S = some (.bl (decide (l = []))) := fun l => eqD_row l []
  have l1 : lcG (gIs p (rows.map rowD)) (tgN 2) (mT (mBin eqD (mVar 2) (mTup mNil))) (mVar 2) [some (.loc p), none, none, none, none, none, none, none, none, none] (rows.map rowD) S = .ok (((rows.filter fun l => decide (l = []))).map rowD) S := by
    rw [lcG_pure (fun d => decide (d = rowD [])) id (gIs_ap hS) (rows.map rowD) fun d hd => by
      obtain ⟨l, hl, rfl⟩ := List.mem_map.mp hd
      refine ⟨_, rfl, ?_, fun _ => by simp⟩
      have : decide (rowD l = rowD []) = decide (l = []) := decide_eq_decide.mpr rowD_iff
      rw [this]
      simp [eqE]]
    congr 1
    rw [List.map_id, List.filter_map]
    congr 1
    refine List.filter_congr fun l _ => ?_
    exact decide_eq_decide.mpr rowD_iff
  by_cases hne : [] ∈ rows
  · have tr : truD (.lst ((rows.filter fun l => decide (l = [])).map rowD)) S = some true := by
      rw [truD_lst]
      congr 1
      cases q : rows.filter fun l => decide (l = []) with
      | nil => exact absurd (List.mem_filter.mpr ⟨hne, by simp⟩ : [] ∈ rows.filter fun l => decide (l = [])) (by rw [q]; simp)
      | cons _ _ => rfl
    have e : mHand fu [some (.loc p), none, none, none, none, none, none, none, none, none] S = .ok (.ret (.tup [.tup [], .int 0])) [some (.loc p), none, none, none, none, none, none, none, none, none] S := by
      unfold mHand
      simp [sg1, l1, tr, -truD_lst]
    rw [e, leapF_nil hne]
    exact fin_ret0 rfl
  · have tr : truD (.lst ((rows.filter fun l => decide (l = [])).map rowD)) S = some false := by
      rw [truD_lst]
      congr 1
      cases q : rows.filter fun l => decide (l = []) with
      | nil => rfl
      | cons a b =>
        have : a ∈ rows.filter fun l => decide (l = []) := by rw [q]; exact List.mem_cons_self
        obtain ⟨h1, h2⟩ := List.mem_filter.mp this
        exact absurd (of_decide_eq_true h2 ▸ h1) hne
    have run1 : Lp.run fu (ordOf rows) rows (gOf rows) [] 0 = some ((leapF rows).1, (leapF rows).2) := run_mono _ fu _ _ _ _ _ _ (by omega) (leapF_some h0 hup hne)
    have inv := leap_inv h0 hup hne
    have en : enumG [.loc p] S = some (enumL (rows.map rowD), gIs p (rows.map rowD)) := by
      unfold enumG
      simp only [hS]
    have l2 : lcG (gIs p (rows.map rowD)) (tgT 2 (tgsCons (tgN 3) (tgsCons (tgN 2) tgsNil))) mYes (mTup (mCons (mBin ixD (mVar 2) (mC (.int 0))) (mCons (mVar 3) mNil))) [some (.loc p), none, none, none, none, none, none, none, none, none] (enumL (rows.map rowD)) S
        = .ok (((List.range rows.length).map fun i => [Lp.hd rows i, (i : Int)]).map rowD) S := by
      rw [enum_rows, lcG_map (fun d => match d with | .tup [.int i, .tup (.int x :: _)] => rowD [x, i] | d => d) (gIs_ap hS) _ fun d hd => by
        obtain ⟨i, hi, rfl⟩ := List.mem_map.mp hd
        rw [List.mem_range] at hi
        have hm := Lp.getD_mem hi
        cases q : rows.getD i [] with
        | nil => exact absurd (q ▸ hm) hne
        | cons x l =>
          refine ⟨[some (.loc p), none, some (rowD (x :: l)), some (.int i), none, none, none, none, none, none], by simp, ?_⟩
          have a1 : ∀ S, ixD (rowD (x :: l)) (.int 0) S = some (.int x) := fun S => atI_zero _ _
          simp [a1]
          rfl]
      congr 1
      rw [List.map_map, List.map_map]
      refine List.map_congr_left fun i hi => ?_
      rw [List.mem_range] at hi
      have hm := Lp.getD_mem hi
      show (match D.tup [.int (i : Nat), rowD (rows.getD i [])] with | .tup [.int i, .tup (.int x :: _)] => rowD [x, i] | d => d) = rowD [Lp.hd rows i, (i : Int)]
      unfold Lp.hd
      cases q : rows.getD i [] with
      | nil => exact absurd (q ▸ hm) hne
      | cons x l => rfl
    have srt : sortD [.lst (((List.range rows.length).map fun i => [Lp.hd rows i, (i : Int)]).map rowD)] S = some (.lst (((ordOf rows).map fun i => [Lp.hd rows i, (i : Int)]).map rowD)) := by
      rw [sortD_rows _ fun r hr => by
        obtain ⟨i, _, rfl⟩ := List.mem_map.mp hr
        simp, sort_ord]
    have l3 : ∀ y1, lcL (tgT 2 (tgsCons (tgN 4) (tgsCons (tgN 3) tgsNil))) mYes (mVar 3) [some (.loc p), y1, none, none, none, none, none, none, none, none] (((ordOf rows).map fun i => [Lp.hd rows i, (i : Int)]).map rowD) S = .ok ((ordOf rows).map natD) S := fun y1 => by
      rw [lc_map (fun d => match d with | .tup [_, i] => i | d => d) _ fun d hd => by
        rw [List.map_map] at hd
        obtain ⟨i, hi, rfl⟩ := List.mem_map.mp hd
        refine ⟨[some (.loc p), y1, none, some (.int i), some (.int (Lp.hd rows i)), none, none, none, none, none], by simp [rowD], ?_⟩
        simp
        rfl]
      congr 1
      rw [List.map_map, List.map_map]
      exact List.map_congr_left fun i hi => rfl
    have l4 : ∀ y1, lcG (gIs p (rows.map rowD)) (tgN 2) mYes (mCall lstD (mCons (mVar 2) mNil)) [some (.loc p), y1, none, none, none, none, none, none, none, none] (rows.map rowD) S = .ok (rows.map lstI) S := fun y1 => by
      rw [lcG_map (fun d => match d with | .tup xs => .lst xs | d => d) (gIs_ap hS) _ fun d hd => by
        obtain ⟨l, hl, rfl⟩ := List.mem_map.mp hd
        refine ⟨_, rfl, ?_⟩
        simp [rowD]
        rfl]
      congr 1
      rw [List.map_map]
      exact List.map_congr_left fun i hi => rfl
    obtain ⟨e, left', el⟩ := hand_loop (S0 := S) (s0 := S) (rows := rows) hrl fu (found := []) (y0 := some (.loc p)) (y2 := none) (y3 := none) (y4 := none) (y8 := none) (y9 := none) inv hrl (by simpa using ht) run1
    have eb : mHand fu [some (.loc p), none, none, none, none, none, none, none, none, none] S = .ok (.ret (.tup [rowD (leapF rows).1, .int (leapF rows).2])) e (S ++ [.lst left', .lst ((leapF rows).1.map D.int)]) := by
      rw [← el]
      unfold mHand
      have sq : ∀ xs : List D, seqD (.lst xs) = some xs := fun _ => rfl
      simp [sg1, l1, tr, en, l2, srt, l3, l4, -truD_lst, -List.map_map]
    rw [eb]
    exact fin_ret_app _ (fz_clo (clo_leap _ _ _))
end
end Dv
/-! sorted(set(tuple of ints)) -/
namespace Dv
open PySem PySem.Spec PyProof.Rows L2
section
variable {X : Cx}
def rSetTI (K : PySem.W.Frag) (w : World) : List V → Hp → VK → Prop := fun vs H Q => ∃ (l : Addr) (ns : List Int), vs = [.ref l] ∧ SqT K H l (ns.map V.int) ∧ ns.length ≤ 1000 ∧ ∀ (a : Addr) (c : Nat), H a = none → c ≤ ns.length → Q (.ref a) (upd H a (SetO w a (fun j => decide (j ∈ ns)) c))
theorem cr_setTI (hc : X.calm = true) : CallR X (.type "set") (rSetTI X.K X.w) := by
  intro pins s σ H vs us Q I r h
  obtain ⟨l, ns, rfl, hl, hz, q⟩ := h
  rw [Vals.ref1 r]
  obtain ⟨its, rv, pl, _⟩ := I.tuple hl
  have hn : H s.heap.objs.size = none := I.hok.fresh (Nat.le_refl _)
  refine call_set_tupI (P := X.prog) (w := X.w) ns (I.ok.hd hc) (show s.heap.IsTuple l its.toArray from pl) (by simpa using ints_of_vals rv) (by unfold scanBound; omega) fun h' tk c R hcn k => ?_
  exact ⟨.ref s.heap.objs.size, upd H s.heap.objs.size (SetO X.w s.heap.objs.size (fun j => decide (j ∈ ns)) c), I.laid (t' := tk) k (Nat.le_refl _) (setO_new R), rfl, q _ c hn hcn⟩
def rSetA (K : PySem.W.Frag) (w : World) : List V → Hp → VK → Prop := fun vs H Q => rSetI K w vs H Q ∨ rSetTI K w vs H Q
theorem cr_setA (hc : X.calm = true) : CallR X (.type "set") (rSetA X.K X.w) := fun pins s σ H vs us Q I r h => h.elim (cr_setI hc pins s σ H vs us Q I r) (cr_setTI hc pins s σ H vs us Q I r)
end
def sortSetTD (ds : List D) (S : Store) : Option D := match ds with
  | [.tup xs] => match intsOf xs with
    | some ns => if ns.length < 64 then some (.lst ((ssI ns).map D.int)) else none
    | none => none
  | ds => sortSetD ds S
theorem sortSetTD_lst {S : Store} {ns : List Int} (h : ns.length < 64) : sortSetTD [.lst (ns.map D.int)] S = some (.lst ((ssI ns).map D.int)) := sortSetD_ints (S := S) h
theorem sortSetTD_tup {S : Store} {ns : List Int} (h : ns.length < 64) : sortSetTD [.tup (ns.map D.int)] S = some (.lst ((ssI ns).map D.int)) := by
  show (match intsOf (ns.map D.int) with
    | some ns => if ns.length < 64 then some (D.lst ((ssI ns).map D.int)) else none
    | none => none) = _
  rw [intsOf_map]
  exact if_pos h
theorem pok_sortSetT {K : PySem.W.Frag} {mg : Str → Option Value} {w : World} : POk K mg (fun vs H Q => rSetA K w vs H fun v H1 => rSortedSet w [v] H1 Q) sortSetTD := fun T S H vs ds d Q sim rep e k => by
  unfold sortSetTD at e
  split at e
  · rename_i xs
    split at e
    · rename_i ns hi
      split at e
      · rename_i h64
        cases e
        have hx := intsOf_some hi
        subst hx
        cases rep with
        | cons r1 rt =>
          cases rt
          cases r1 with
          | @tup a vs' _ hH off rl =>
            have hv := rl.of_ints
            subst hv
            refine .inr ⟨a, ns, rfl, SqT.of hH, by omega, fun p c hp hc => ⟨p, _, c, rfl, upd_same .., by omega, fun ms q hs hm hl hq => ?_⟩⟩
            have em : ms = ssI ns := ssI_ext hs fun z => by rw [hm z, decide_eq_true_eq]
            subst em
            have st1 := sim.stepNew (o := SetO w p (fun j => decide (j ∈ ns)) c) hp
            have sim1 := sim.new (o := SetO w p (fun j => decide (j ∈ ns)) c) hp (hlen_oth sim.hl fun xs => ⟨(by intro z; cases z), (by intro z; cases z), (by intro x z; cases z), (by intro x z; cases z)⟩)
            have hlen : (List.map V.int (ssI ns)).length ≤ sizeLine := by rw [List.length_map, hl, sizeLine_eq]; omega
            exact k _ (.ref q) (st1.trans (sim1.stepNew hq)) (sim1.new hq (hlen_lst sim1.hl hlen)) (.lst (upd_same ..) (sim1.off hq) (RepL.ints _))
      · cases e
    · cases e
  · exact .inl (pok_sortSet T S H vs ds d Q sim rep e k)
end Dv
/-! more about leaping; things mixed -/
namespace Dv
open PySem L2
theorem maxI_eq {ns : List Int} {m : Int} (h1 : m ∈ ns) (h2 : ∀ y ∈ ns, y ≤ m) : maxI ns = some m := by
  obtain ⟨m', e⟩ := maxI_some (ns := ns) (fun q => by rw [q] at h1; cases h1)
  obtain ⟨a, b⟩ := maxI_ok e
  have := h2 m' a
  have := b m h1
  rw [e]
  congr 1
  omega
section
variable {rows : List (List Int)}
theorem head_moved (b : Int) {l : List Int} (h : l ≠ []) : (l.map (· + b)).headD 0 = l.headD 0 + b := by
  cases l with
  | nil => exact absurd rfl h
  | cons x l => rfl
theorem ord_move (b : Int) (hne : [] ∉ rows) : ordOf (rows.map (List.map (· + b))) = ordOf rows := by
  unfold ordOf
  rw [List.length_map]
  have k : ∀ i, i < rows.length → Lp.hd (rows.map (List.map (· + b))) i = Lp.hd rows i + b := fun i hi => by
    unfold Lp.hd
    rw [Lp.getD_move]
    exact head_moved b fun q => hne (q ▸ Lp.getD_mem hi)
  have := List.map_mergeSort (r := fun a c => decide (Lp.hd (rows.map (List.map (· + b))) a ≤ Lp.hd (rows.map (List.map (· + b))) c)) (s := fun a c => decide (Lp.hd rows a ≤ Lp.hd rows c)) (f := id) (l := List.range rows.length) (fun x hx y hy => by
    rw [List.mem_range] at hx hy
    rw [k x hx, k y hy]
    exact decide_eq_decide.mpr ⟨fun h => by simp only [id]; omega, fun h => by simp only [id] at h; omega⟩)
  rw [List.map_id, List.map_id] at this
  exact this
theorem g_move (b : Int) (h0 : rows ≠ []) (hne : [] ∉ rows) : gOf (rows.map (List.map (· + b))) = gOf rows + b := by
  obtain ⟨m, hm⟩ := maxI_some (ns := rows.map fun l => l.headD 0) (by simpa using h0)
  obtain ⟨m1, m2⟩ := maxI_ok hm
  have e : maxI ((rows.map (List.map (· + b))).map fun l => l.headD 0) = some (m + b) := by
    obtain ⟨l, hl, rfl⟩ := List.mem_map.mp m1
    refine maxI_eq (List.mem_map.mpr ⟨l.map (· + b), List.mem_map_of_mem hl, head_moved b fun q => hne (q ▸ hl)⟩) fun y hy => ?_
    obtain ⟨l', hl', rfl⟩ := List.mem_map.mp hy
    obtain ⟨l2, hl2, rfl⟩ := List.mem_map.mp hl'
    show (l2.map (· + b)).headD 0 ≤ _
    rw [head_moved b fun q => hne (q ▸ hl2)]
    have := m2 _ (List.mem_map_of_mem (f := fun l : List Int => l.headD 0) hl2)
    have : l2.headD 0 ≤ l.headD 0 := this
    omega
  unfold gOf
  rw [e, hm]
  rfl
theorem tot_move (b : Int) : ∀ rows : List (List Int), Lp.tot (rows.map (List.map (· + b))) = Lp.tot rows
  | [] => rfl
  | x :: rows => by
    have := tot_move b rows
    unfold Lp.tot at *
    rw [List.map_cons, List.map_cons, List.sum_cons, this, List.length_map, List.map_cons, List.sum_cons]
theorem leapF_move (b : Int) (h0 : rows ≠ []) (hup : ∀ r ∈ rows, r.Pairwise (· < ·)) (hne : [] ∉ rows) : leapF (rows.map (List.map (· + b))) = ((leapF rows).1.map (· + b), (leapF rows).2) := by
  have hne2 : [] ∉ rows.map (List.map (· + b)) := fun q => by
    obtain ⟨l, hl, e⟩ := List.mem_map.mp q
    rw [List.map_eq_nil_iff] at e
    exact hne (e ▸ hl)
  have this := leapF_some h0 hup hne
  have mv := Lp.run_move b (Lp.tot rows + 1) (ordOf rows) rows (gOf rows) [] 0
  rw [List.map_nil, this] at mv
  have e : leapF (rows.map (List.map (· + b))) = (Lp.run (Lp.tot (rows.map (List.map (· + b))) + 1) (ordOf (rows.map (List.map (· + b)))) (rows.map (List.map (· + b))) (gOf (rows.map (List.map (· + b)))) [] 0).getD ([], 0) := if_neg hne2
  rw [e, tot_move, ord_move b hne, g_move b h0 hne, mv]
  rfl
theorem leapF_one {row : List Int} (hn : row ≠ []) (hup : row.Pairwise (· < ·)) : leapF [row] = (row, row.length) := by
  have h1 : ∀ r ∈ [row], r.Pairwise (· < ·) := fun r hr => by rw [List.mem_singleton.mp hr]; exact hup
  have hne : [] ∉ [row] := fun q => hn (List.mem_singleton.mp q).symm
  obtain ⟨a1, a2, a3, a4, a5⟩ := leapF_spec (rows := [row]) (by simp) h1 hne
  have e : (leapF [row]).1 = row := up_ext a1 hup fun x => by
    rw [a2 x]
    constructor
    · intro h; exact h row (by simp)
    · intro h l hl; rw [List.mem_singleton.mp hl]; exact h
  have h5 := a5 row (by simp)
  rw [e] at a4
  have : [row].length * row.length = row.length := by simp
  refine Prod.ext e ?_
  show (leapF [row]).2 = row.length
  omega
/-- by what all have, whatever the order -/
theorem leapF_same {rows rows' : List (List Int)} (h0 : rows ≠ []) (h0' : rows' ≠ []) (hup : ∀ r ∈ rows, r.Pairwise (· < ·)) (hup' : ∀ r ∈ rows', r.Pairwise (· < ·)) (h : ∀ x, (∀ l ∈ rows, x ∈ l) ↔ ∀ l ∈ rows', x ∈ l) : (leapF rows).1 = (leapF rows').1 :=
  up_ext (leapF_up h0 hup) (leapF_up h0' hup') fun x => by rw [mem_leapF h0 hup, mem_leapF h0' hup', h x]
end
/-! ### mixed -/
noncomputable def mMixB : SM := (sDrop (mAppend (mVar 4) (mPopAt (mVar 3) (mApp 3 FDraw (mCons (mVar 0) (mCons (mVar 1) (mCons (mCall lenD (mCons (mVar 3) mNil)) mNil)))))))
noncomputable def mMix (fu : Nat) : SM :=
    (sSeq (sPar 3 4 (mCons (mCallN lstN (mCons (mVar 2) mNil)) (mCons (mNewL mNil) mNil)))
    (sSeq (sWhile (mTru (mVar 3)) mMixB fu)
    (sRet (mVar 4))))
noncomputable def FMix (fu : Nat) : List D → Store → R D := runT 5 (mMix fu)
section
variable {ns : List Int} {t n : Nat} {y2 : Option D}
theorem mix_loop (h63 : ns.length ≤ 63) {b c : Nat} (hbt : b ≠ t) (hct : c ≠ t) (hbc : b ≠ c) : ∀ (k : Nat) {n : Nat} {S : Store} (rest found : List D), rest.length < k → rest.length + found.length ≤ 1000 → n + 2 * rest.length < 90000 → Twn t n S → S[b]? = some (.lst rest) → S[c]? = some (.lst found) →
    ∃ (found' : List D) (S' : Store), sWhile (mTru (mVar 3)) mMixB k [some (.scr ns), some (.loc t), y2, some (.loc b), some (.loc c)] S = .ok .next [some (.scr ns), some (.loc t), y2, some (.loc b), some (.loc c)] S' ∧ found'.Perm (found ++ rest) ∧ Twn t (n + 2 * rest.length) S' ∧ S'[b]? = some (.lst []) ∧ S'[c]? = some (.lst found') ∧ S'.length = S.length ∧ ∀ i, i ≠ t → i ≠ b → i ≠ c → S'[i]? = S[i]?
  | 0, n, S, rest, found, hk, _, _, _, _, _ => by omega
  | k + 1, n, S, [], found, hk, hl, hn, tw, hb, hc => by
    refine ⟨found, S, ?_, by simp, tw.mono (by omega), hb, hc, rfl, fun i _ _ _ => rfl⟩
    unfold sWhile
    simp [hb]
  | k + 1, n, S, x :: rest, found, hk, hl, hn, tw, hb, hc => by
    obtain ⟨r, S1, hr, tw1, d1, e1⟩ := draw_tw (many := ((x :: rest).length : Int)) h63 tw (by omega) (by simp)
    have hr' : r < (x :: rest).length := by omega
    have hb1 : S1[b]? = some (.lst (x :: rest)) := by rw [d1.other hbt]; exact hb
    have hc1 : S1[c]? = some (.lst found) := by rw [d1.other hct]; exact hc
    obtain ⟨y, hy⟩ : ∃ y, (x :: rest)[r]? = some y := ⟨_, List.getElem?_eq_getElem hr'⟩
    have hlen : ((x :: rest).eraseIdx r).length = rest.length := by rw [List.length_eraseIdx, if_pos hr']; simp
    have hb2 : ((S1.set b (.lst ((x :: rest).eraseIdx r))).set c (.lst (found ++ [y])))[b]? = some (.lst ((x :: rest).eraseIdx r)) := by
      rw [List.getElem?_set_ne (fun q => hbc q.symm)]
      exact gs hb1 _
    have hc2' : (S1.set b (.lst ((x :: rest).eraseIdx r)))[c]? = some (.lst found) := by
      rw [List.getElem?_set_ne hbc]
      exact hc1
    have hc2 : ((S1.set b (.lst ((x :: rest).eraseIdx r))).set c (.lst (found ++ [y])))[c]? = some (.lst (found ++ [y])) := gs hc2' _
    have tw2 : Twn t (n + 2) ((S1.set b (.lst ((x :: rest).eraseIdx r))).set c (.lst (found ++ [y]))) := by
      obtain ⟨ts, a1, a2⟩ := tw1
      exact ⟨ts, a1, by rw [List.getElem?_set_ne hct, List.getElem?_set_ne hbt]; exact a2⟩
    obtain ⟨found', S', ee, pm, tw', hb', hc', sl, ot⟩ := mix_loop h63 hbt hct hbc k ((x :: rest).eraseIdx r) (found ++ [y]) (by rw [hlen]; simp at hk; omega) (by rw [hlen, List.length_append, List.length_singleton]; simp at hl; omega) (by rw [hlen]; simp at hn; omega) tw2 hb2 hc2
    refine ⟨found', S', ?_, ?_, tw'.mono (by rw [hlen, List.length_cons]; omega), hb', hc', ?_, fun i h1 h2 h3 => ?_⟩
    · rw [← ee]
      conv => lhs; unfold sWhile
      have hfl : found.length < 100000 := by simp at hl; omega
      have pa : popAtD (.loc b) (.int (r : Int)) S1 = .ok y (S1.set b (.lst ((x :: rest).eraseIdx r))) := by
        unfold popAtD
        simp only [hb1]
        rw [if_pos ⟨by omega, by simp at hl hr'; omega⟩, Int.toNat_natCast]
        simp only [hy]
      have e1' : FDraw [.scr ns, .loc t, .int ((rest.length : Int) + 1)] S = .ok (.int r) S1 := e1
      unfold mMixB
      simp [hb, hc, e1', hb1, hc1, mPopAt, pa, hc2', hfl]
    · refine pm.trans ?_
      have : (y :: (x :: rest).eraseIdx r).Perm (x :: rest) := by
        obtain ⟨q1, q2⟩ := List.getElem?_eq_some_iff.mp hy
        rw [List.eraseIdx_eq_take_drop_succ]
        refine List.perm_middle.symm.trans ?_
        rw [← q2, ← List.drop_eq_getElem_cons q1, List.take_append_drop]
      rw [List.append_assoc]
      exact List.Perm.append_left found this
    · rw [sl, List.length_set, List.length_set, d1.len]
    · rw [ot i h1 h2 h3, List.getElem?_set_ne (fun q => h3 q.symm), List.getElem?_set_ne (fun q => h2 q.symm), d1.other h1]
theorem rows_of {rows : List (List Int)} : ∀ {ds : List D}, (∀ d ∈ ds, d ∈ rows.map rowD) → ∃ m : List (List Int), ds = m.map rowD
  | [], _ => ⟨[], rfl⟩
  | d :: ds, h => by
    obtain ⟨l, _, rfl⟩ := List.mem_map.mp (h d List.mem_cons_self)
    obtain ⟨m, rfl⟩ := rows_of (rows := rows) fun e he => h e (List.mem_cons_of_mem _ he)
    exact ⟨l :: m, rfl⟩
theorem mix_ok (h63 : ns.length ≤ 63) {rows : List (List Int)} {S : Store} {p fu : Nat} (hrl : rows.length ≤ 500) (hfu : rows.length < fu) (hn : n ≤ 50000) (tw : Twn t n S) (hp : S[p]? = some (.lst (rows.map rowD))) :
    ∃ (m : List (List Int)) (S' : Store), FMix fu [.scr ns, .loc t, .loc p] S = .ok (.lst (m.map rowD)) S' ∧ (∀ r, r ∈ m ↔ r ∈ rows) ∧ m.length = rows.length ∧ Twn t (n + 2 * rows.length) S' ∧ Dif t S S' := by
  have ht : t < S.length := by
    obtain ⟨ts, a, b⟩ := tw
    exact (List.getElem?_eq_some_iff.mp b).1
  have twA : Twn t n (S ++ [.lst (rows.map rowD), .lst []]) := by
    obtain ⟨ts, a, b⟩ := tw
    exact ⟨ts, a, by rw [List.getElem?_append_left ht]; exact b⟩
  obtain ⟨found, S1, e1, pm, tw1, hb, hc, sl, ot⟩ := mix_loop (y2 := some (.loc p)) h63 (b := S.length) (c := S.length + 1) (by omega) (by omega) (by omega) fu (rows.map rowD) [] (by rw [List.length_map]; exact hfu) (by rw [List.length_map]; simp; omega) (by rw [List.length_map]; omega) twA (two_a _ _) (two_b _ _)
  rw [List.nil_append] at pm
  rw [List.length_map] at tw1
  obtain ⟨m, rfl⟩ := rows_of (rows := rows) fun d hd => pm.mem_iff.mp hd
  have hsl : S1.length = S.length + 2 := by rw [sl, List.length_append]; rfl
  have keep : ∀ i, i < S.length → i ≠ t → S1[i]? = S[i]? := fun i hi h => by
    rw [ot i h (by omega) (by omega), List.getElem?_append_left hi]
  obtain ⟨ts, t1, t2⟩ := tw1
  have tk : S1.take S.length = List.set S t (.lst (ts.map D.int)) := by
    refine List.ext_getElem? fun i => ?_
    rw [List.getElem?_take]
    by_cases hi : i < S.length
    · rw [if_pos hi]
      by_cases q : i = t
      · subst q
        rw [t2, List.getElem?_set_self hi]
      · rw [keep i hi q, List.getElem?_set_ne (fun z => q z.symm)]
    · rw [if_neg hi, List.getElem?_eq_none (by rw [List.length_set]; omega)]
  refine ⟨m, List.set S t (.lst (ts.map D.int)), ?_, fun r => ?_, by simpa using pm.length_eq, ⟨ts, t1, List.getElem?_set_self ht⟩, ⟨ts, rfl⟩⟩
  · show finT S (mMix fu (frame 5 _) S) = _
    have ef : frame 5 [.scr ns, .loc t, .loc p] = [some (.scr ns), some (.loc t), some (.loc p), none, none] := rfl
    have eb : mMix fu [some (.scr ns), some (.loc t), some (.loc p), none, none] S = .ok (.ret (.loc (S.length + 1))) [some (.scr ns), some (.loc t), some (.loc p), some (.loc S.length), some (.loc (S.length + 1))] S1 := by
      unfold mMix
      have el : lstN [.loc p] S = some (rows.map rowD) := by
        show lstAt (.loc p) S = _
        simp [hp]
      simp [el, e1]
    rw [ef, eb, ← tk]
    refine finT_ret ⟨by omega, fun i o hi ho => ?_⟩ ?_
    · by_cases q : i = t
      · subst q
        rw [t2] at ho
        cases ho
        exact .inr (cloL_ints _ _)
      · rw [keep i hi q] at ho
        exact .inl ho
    · unfold fzD
      simp only [show ¬ (S.length + 1 < S.length) by omega, if_false, hc]
      rw [if_pos (cloL_rows _ _)]
  · have := pm.mem_iff (a := rowD r)
    rw [mem_rowD, mem_rowD] at this
    exact this
end
end Dv
namespace Law
open PySem L2 Dv
/-! ### the text -/
def top (i : Nat) : Stmt := PySem.Challenge.pw_meetloft_k05_whole_leaps.main.body.getD i (.Pass ⟨0, 0, 0, 0⟩)
abbrev s_first_at : Stmt := top 1
abbrev N_first_at : List Str := ["row", "begin", "value", "low", "far", "mid"]
abbrev P_first_at : List Str := ["row", "begin", "value"]
theorem sc_first_at : FnScope N_first_at P_first_at (defScope s_first_at) := ⟨rfl, rfl, rfl, by decide +kernel, rfl, by decide +kernel, by decide +kernel⟩
abbrev s_leap : Stmt := top 2
abbrev N_leap : List Str := ["rows", "order", "greatest", "spots", "found", "looks", "turn", "at", "row"]
abbrev P_leap : List Str := ["rows"]
theorem sc_leap : FnScope N_leap P_leap (defScope s_leap) := ⟨rfl, rfl, rfl, by decide +kernel, rfl, by decide +kernel, by decide +kernel⟩
abbrev s__law_draw : Stmt := top 5
abbrev N__law_draw : List Str := ["script", "town", "many", "k", "cell", "digits", "number", "more"]
abbrev P__law_draw : List Str := ["script", "town", "many"]
theorem sc__law_draw : FnScope N__law_draw P__law_draw (defScope s__law_draw) := ⟨rfl, rfl, rfl, by decide +kernel, rfl, by decide +kernel, by decide +kernel⟩
abbrev s__law_pick : Stmt := top 6
abbrev N__law_pick : List Str := ["script", "town", "some"]
abbrev P__law_pick : List Str := ["script", "town", "some"]
theorem sc__law_pick : FnScope N__law_pick P__law_pick (defScope s__law_pick) := ⟨rfl, rfl, rfl, by decide +kernel, rfl, by decide +kernel, by decide +kernel⟩
abbrev s__law_same : Stmt := top 4
abbrev N__law_same : List Str := ["got", "due", "one", "other"]
abbrev P__law_same : List Str := ["got", "due"]
theorem sc__law_same : FnScope N__law_same P__law_same (defScope s__law_same) := ⟨rfl, rfl, rfl, by decide +kernel, rfl, by decide +kernel, by decide +kernel⟩
abbrev s__law_mixed : Stmt := top 7
abbrev N__law_mixed : List Str := ["script", "town", "things", "rest", "found"]
abbrev P__law_mixed : List Str := ["script", "town", "things"]
theorem sc__law_mixed : FnScope N__law_mixed P__law_mixed (defScope s__law_mixed) := ⟨rfl, rfl, rfl, by decide +kernel, rfl, by decide +kernel, by decide +kernel⟩
abbrev s_law : Stmt := top 8
abbrev N_law : List Str := ["script", "town", "k", "j", "due", "by", "moved", "one", "more", "extra", "rows", "far", "some", "values", "looks", "value", "i", "row"]
abbrev P_law : List Str := ["script"]
theorem sc_law : FnScope N_law P_law (defScope s_law) := ⟨rfl, rfl, rfl, by decide +kernel, rfl, by decide +kernel, by decide +kernel⟩
/-! ### what each def comes to -/
noncomputable def m_first_at (fu : Nat) : SM :=
    (sSeq (sPar 3 4 (mCons (mVar 1) (mCons (mCall lenD (mCons (mVar 0) mNil)) mNil)))
    (sSeq (sWhile (mT (mBin ltD (mVar 3) (mVar 4))) (sSeq (sSet 5 (mBin fdivD (mBin addD (mVar 3) (mVar 4)) (mC (.int 2))))
    (sIf (mT (mBin ltD (mBin ixD (mVar 0) (mVar 5)) (mVar 2))) (sSet 3 (mBin addD (mVar 5) (mC (.int 1)))) (sSet 4 (mVar 5)))) fu)
    (sRet (mVar 3))))
noncomputable def F_first_at (fu : Nat) : List D → Store → R D := runT 6 (m_first_at fu)
noncomputable def m_leap (fu : Nat) : SM :=
    (sSeq (sIf (mNotT (mTru (mCall allTD (mCons (mVar 0) mNil)))) (sRet (mTup (mCons (mTup mNil) (mCons (mC (.int 0)) mNil)))) sNil)
    (sSeq (sSet 1 (mSortLam "leap" "leap.<locals>.<lambda>" 0 (mCons (mCall lstRngD (mCons (mCall lenD (mCons (mVar 0) mNil)) mNil)) mNil)))
    (sSeq (sAsg (mTup (mCons (mBinN repN (mLst (mCons (mC (.int 0)) mNil)) (mCall lenD (mCons (mVar 0) mNil))) (mCons (mNewL mNil) (mCons (mC (.int 0)) (mCons (mC (.int 0)) mNil))))) (tgT 4 (tgsCons (tgN 3) (tgsCons (tgN 4) (tgsCons (tgN 5) (tgsCons (tgN 6) tgsNil))))))
    (sSeq (sSet 2 (mCall maxD (mCons (mLc (mIter (mVar 0)) [8] (tgN 8) mYes (mBin ixD (mVar 8) (mC (.int 0)))) mNil)))
    (sWhile (mTru (mC (.bl true))) (sSeq (sSet 7 (mBin ixD (mVar 1) (mBin modD (mVar 6) (mCall lenD (mCons (mVar 0) mNil)))))
    (sSeq (sSet 8 (mBin ixD (mVar 0) (mVar 7)))
    (sSeq (sIf (mT (mBin eqD (mBin ixD (mVar 8) (mBin ixD (mVar 3) (mVar 7))) (mVar 2))) (sSeq (sDrop (mAppend (mVar 4) (mVar 2)))
    (sAugIx (fun i j => i + j) (mVar 3) (mVar 7) (mC (.int 1)))) (sSetIx (mVar 3) (mVar 7) (mApp 3 (F_first_at fu) (mCons (mVar 8) (mCons (mBin ixD (mVar 3) (mVar 7)) (mCons (mVar 2) mNil))))))
    (sSeq (sAug 5 (fun i j => i + j) (mC (.int 1)))
    (sSeq (sIf (mT (mBin eqD (mBin ixD (mVar 3) (mVar 7)) (mCall lenD (mCons (mVar 8) mNil)))) (sRet (mTup (mCons (mCall tupD (mCons (mVar 4) mNil)) (mCons (mVar 5) mNil)))) sNil)
    (sSeq (sSet 2 (mBin ixD (mVar 8) (mBin ixD (mVar 3) (mVar 7))))
    (sAug 6 (fun i j => i + j) (mC (.int 1))))))))) fu)))))
noncomputable def F_leap (fu : Nat) : List D → Store → R D := runT 9 (m_leap fu)
noncomputable def m__law_draw (fu : Nat) : SM :=
    (sSeq (sIf (mNotT (mTru (mVar 1))) (sDrop (mAppend (mVar 1) (mCall maxD (mCons (mBin addD (mLc (mIter (mVar 0)) [4] (tgN 4) mYes (mCall absD (mCons (mVar 4) mNil))) (mLst (mCons (mC (.int 0)) mNil))) mNil)))) sNil)
    (sSeq (sDrop (mAppend (mVar 1) (mC (.int 0))))
    (sSeq (sSet 3 (mCall lenD (mCons (mVar 1) mNil)))
    (sSeq (sSet 4 (mIf (mTru (mVar 0)) (mBin ixD (mVar 0) (mBin modD (mVar 3) (mCall lenD (mCons (mVar 0) mNil)))) (mC (.int 0))))
    (sSeq (sSet 5 (mBin modD (mBin ixD (mVar 1) (mC (.int 0))) (mC (.int 65536))))
    (sSeq (sSetIx (mVar 1) (mC (.int 0)) (mBin fdivD (mBin ixD (mVar 1) (mC (.int 0))) (mC (.int 65536))))
    (sSeq (sSet 6 (mBin modD (mBin addD (mBin addD (mVar 4) (mBin mulD (mC (.int 40503)) (mVar 5))) (mBin mulD (mC (.int 104729)) (mVar 3))) (mC (.int 4294967291))))
    (sSeq (sSet 6 (mBin modD (mBin mulD (mBin modD (mBin mulD (mVar 6) (mVar 6)) (mC (.int 4294967279))) (mC (.int 48271))) (mC (.int 4294967291))))
    (sSeq (sSet 7 (mBin modD (mBin mulD (mBin modD (mBin mulD (mVar 6) (mVar 6)) (mC (.int 4294967279))) (mC (.int 69621))) (mC (.int 4294967291))))
    (sRet (mBin modD (mBin addD (mBin mulD (mBin fdivD (mVar 6) (mC (.int 64))) (mC (.int 67108864))) (mBin fdivD (mVar 7) (mC (.int 64)))) (mVar 2))))))))))))
noncomputable def F__law_draw (fu : Nat) : List D → Store → R D := runT 8 (m__law_draw fu)
noncomputable def m__law_pick (fu : Nat) : SM :=
    (sRet (mBin ixD (mVar 2) (mApp 3 (F__law_draw fu) (mCons (mVar 0) (mCons (mVar 1) (mCons (mCall lenD (mCons (mVar 2) mNil)) mNil))))))
noncomputable def F__law_pick (fu : Nat) : List D → Store → R D := runT 3 (m__law_pick fu)
noncomputable def m__law_same (fu : Nat) (self : List D → Store → R D) : SM :=
    (sSeq (sIf (mT (mBin isND (mVar 1) (mC .non))) (sRet (mBin isND (mVar 0) (mC .non))) sNil)
    (sSeq (sIf (mTru (mCall isiD (mCons (mVar 1) (mCons (mC (.ty "bool")) mNil)))) (sRet (mAnd (mCall isiD (mCons (mVar 0) (mCons (mC (.ty "bool")) mNil))) (mBin eqD (mVar 0) (mVar 1)))) sNil)
    (sSeq (sIf (mTru (mCall isiD (mCons (mVar 1) (mCons (mC (.ty "tuple")) mNil)))) (sSeq (sIf (mOrT (mNotT (mTru (mCall isiD (mCons (mVar 0) (mCons (mC (.ty "tuple")) mNil))))) (mT (mBin neD (mCall lenD (mCons (mVar 0) mNil)) (mCall lenD (mCons (mVar 1) mNil))))) (sRet (mC (.bl false))) sNil)
    (sRet (mCall allD (mCons (mLc (mZip (mCons (mVar 0) (mCons (mVar 1) mNil))) [2, 3] (tgT 2 (tgsCons (tgN 2) (tgsCons (tgN 3) tgsNil))) mYes (mApp 2 self (mCons (mVar 2) (mCons (mVar 3) mNil)))) mNil)))) sNil)
    (sSeq (sIf (mTru (mCall isiD (mCons (mVar 1) (mCons (mC (.ty "str")) mNil)))) (sRet (mAnd (mCall isiD (mCons (mVar 0) (mCons (mC (.ty "str")) mNil))) (mBin eqD (mVar 0) (mVar 1)))) sNil)
    (sRet (mAnd (mCall isiD (mCons (mVar 0) (mCons (mC (.ty "int")) mNil))) (mAnd (mNot (mCall isiD (mCons (mVar 0) (mCons (mC (.ty "bool")) mNil)))) (mBin eqD (mVar 0) (mVar 1)))))))))
noncomputable def F__law_same (fu : Nat) : Nat → List D → Store → R D
  | 0 => fun _ _ => .bad
  | n + 1 => runT 4 (m__law_same fu (F__law_same fu n))
noncomputable def m__law_mixed (fu : Nat) : SM :=
    (sSeq (sPar 3 4 (mCons (mCallN lstN (mCons (mVar 2) mNil)) (mCons (mNewL mNil) mNil)))
    (sSeq (sWhile (mTru (mVar 3)) (sDrop (mAppend (mVar 4) (mPopAt (mVar 3) (mApp 3 (F__law_draw fu) (mCons (mVar 0) (mCons (mVar 1) (mCons (mCall lenD (mCons (mVar 3) mNil)) mNil))))))) fu)
    (sRet (mVar 4))))
noncomputable def F__law_mixed (fu : Nat) : List D → Store → R D := runT 5 (m__law_mixed fu)
noncomputable def m_law (fu : Nat) : SM :=
    (sSeq (sSet 1 (mNewL mNil))
    (sSeq (sFor (mRng1 (mCons (mC (.int 10)) mNil)) (tgN 2) (sSeq (sAsg (mTup (mCons (mNewL mNil) (mCons (mApp 3 (F__law_pick fu) (mCons (mVar 0) (mCons (mVar 1) (mCons (mLst (mCons (mC (.int 4)) (mCons (mC (.int 9)) (mCons (mC (.int 40)) mNil)))) mNil)))) mNil))) (tgT 2 (tgsCons (tgN 10) (tgsCons (tgN 11) tgsNil))))
    (sSeq (sFor (mRng1 (mCons (mBin addD (mC (.int 1)) (mApp 3 (F__law_draw fu) (mCons (mVar 0) (mCons (mVar 1) (mCons (mC (.int 5)) mNil))))) mNil)) (tgN 3) (sSeq (sSet 12 (mLc (mRng1 (mCons (mApp 3 (F__law_pick fu) (mCons (mVar 0) (mCons (mVar 1) (mCons (mLst (mCons (mC (.int 1)) (mCons (mC (.int 3)) (mCons (mC (.int 8)) (mCons (mC (.int 25)) mNil))))) mNil)))) mNil)) [16] (tgN 16) mYes (mApp 3 (F__law_draw fu) (mCons (mVar 0) (mCons (mVar 1) (mCons (mVar 11) mNil))))))
    (sDrop (mAppend (mVar 10) (mCall tupD (mCons (mCall sortSetTD (mCons (mVar 12) mNil)) mNil))))))
    (sSeq (sAsg (mApp 1 (F_leap fu) (mCons (mCall tupD (mCons (mVar 10) mNil)) mNil)) (tgT 2 (tgsCons (tgN 13) (tgsCons (tgN 14) tgsNil))))
    (sSeq (sSet 4 (mLc (mIter (mBin ixD (mVar 10) (mC (.int 0)))) [15] (tgN 15) (mT (mBin eqD (mLcG false (mIterG (mVar 10)) [17] (tgN 17) (mT (mBin ninTD (mVar 15) (mVar 17))) (mC (.int 1))) (mLst mNil))) (mVar 15)))
    (sSeq (sIf (mNotT (mTru (mApp 2 (F__law_same fu 4) (mCons (mVar 13) (mCons (mCall tupD (mCons (mVar 4) mNil)) mNil))))) (sRet (mC (.bl false))) sNil)
    (sSeq (sIf (mNotT (mT (mChain leD leD (mC (.int 1)) (mVar 14) (mBin mulD (mCall lenD (mCons (mVar 10) mNil)) (mCall minD (mCons (mLcG false (mIterG (mVar 10)) [17] (tgN 17) mYes (mCall lenD (mCons (mVar 17) mNil))) mNil)))))) (sRet (mC (.bl false))) sNil)
    (sSeq (sIf (mNotT (mTru (mApp 2 (F__law_same fu 4) (mCons (mBin ixD (mApp 1 (F_leap fu) (mCons (mCall tupD (mCons (mApp 3 (F__law_mixed fu) (mCons (mVar 0) (mCons (mVar 1) (mCons (mVar 10) mNil)))) mNil)) mNil)) (mC (.int 0))) (mCons (mVar 13) mNil))))) (sRet (mC (.bl false))) sNil)
    (sSeq (sIf (mNotT (mTru (mApp 2 (F__law_same fu 4) (mCons (mApp 1 (F_leap fu) (mCons (mCall tupD (mCons (mSl (mVar 10) mNoP (mP (mC (.int 1)))) mNil)) mNil)) (mCons (mTup (mCons (mBin ixD (mVar 10) (mC (.int 0))) (mCons (mCall lenD (mCons (mBin ixD (mVar 10) (mC (.int 0))) mNil)) mNil))) mNil))))) (sRet (mC (.bl false))) sNil)
    (sSeq (sIf (mOrT (mT (mBin neD (mBin ixD (mApp 1 (F_leap fu) (mCons (mCall tupD (mCons (mBin addL (mVar 10) (mSl (mVar 10) (mP (mUn negD (mC (.int 1)))) mNoP)) mNil)) mNil)) (mC (.int 0))) (mVar 13))) (mT (mBin neD (mApp 1 (F_leap fu) (mCons (mBin addD (mCall tupD (mCons (mVar 10) mNil)) (mTup (mCons (mTup mNil) mNil))) mNil)) (mTup (mCons (mTup mNil) (mCons (mC (.int 0)) mNil)))))) (sRet (mC (.bl false))) sNil)
    (sSeq (sSet 5 (mBin subD (mApp 3 (F__law_draw fu) (mCons (mVar 0) (mCons (mVar 1) (mCons (mC (.int 99)) mNil)))) (mC (.int 50))))
    (sSeq (sSet 6 (mCall tupD (mCons (mLcG false (mIterG (mVar 10)) [17] (tgN 17) mYes (mCall tupD (mCons (mLc (mIter (mVar 17)) [15] (tgN 15) mYes (mBin addD (mVar 15) (mVar 5))) mNil))) mNil)))
    (sSeq (sIf (mNotT (mTru (mApp 2 (F__law_same fu 4) (mCons (mApp 1 (F_leap fu) (mCons (mVar 6) mNil)) (mCons (mTup (mCons (mCall tupD (mCons (mLc (mIter (mVar 13)) [15] (tgN 15) mYes (mBin addD (mVar 15) (mVar 5))) mNil)) (mCons (mVar 14) mNil))) mNil))))) (sRet (mC (.bl false))) sNil)
    (sSeq (sSet 7 (mApp 3 (F__law_draw fu) (mCons (mVar 0) (mCons (mVar 1) (mCons (mVar 11) mNil)))))
    (sSeq (sSet 8 (mCall tupD (mCons (mLcG false (mIterG (mVar 10)) [17] (tgN 17) mYes (mCall tupD (mCons (mCall sortSetTD (mCons (mBin addD (mVar 17) (mTup (mCons (mVar 7) mNil))) mNil)) mNil))) mNil)))
    (sSeq (sIf (mNotT (mTru (mApp 2 (F__law_same fu 4) (mCons (mBin ixD (mApp 1 (F_leap fu) (mCons (mVar 8) mNil)) (mC (.int 0))) (mCons (mCall tupD (mCons (mCall sortSetTD (mCons (mBin addD (mVar 13) (mTup (mCons (mVar 7) mNil))) mNil)) mNil)) mNil))))) (sRet (mC (.bl false))) sNil)
    (sSeq (sSet 9 (mCall tupD (mCons (mCall sortSetTD (mCons (mLc (mRng1 (mCons (mC (.int 5)) mNil)) [16] (tgN 16) mYes (mApp 3 (F__law_draw fu) (mCons (mVar 0) (mCons (mVar 1) (mCons (mVar 11) mNil))))) mNil)) mNil)))
    (sIf (mNotT (mTru (mApp 2 (F__law_same fu 4) (mCons (mBin ixD (mApp 1 (F_leap fu) (mCons (mBin addD (mCall tupD (mCons (mVar 10) mNil)) (mTup (mCons (mVar 9) mNil))) mNil)) (mC (.int 0))) (mCons (mCall tupD (mCons (mLc (mIter (mVar 13)) [15] (tgN 15) (mT (mBin inTD (mVar 15) (mVar 9))) (mVar 15)) mNil)) mNil))))) (sRet (mC (.bl false))) sNil))))))))))))))))))
    (sRet (mC (.bl true)))))
noncomputable def F_law (fu : Nat) : List D → Store → R D := runT 18 (m_law fu)
end Law
namespace Law
open PySem L2 Dv
abbrev tq : Str := "leap.<locals>.<lambda>"
noncomputable def lawR : SM := (sSeq (sSet 12 (mLc (mRng1 (mCons (mApp 3 FPick (mCons (mVar 0) (mCons (mVar 1) (mCons (mLst (mCons (mC (.int 1)) (mCons (mC (.int 3)) (mCons (mC (.int 8)) (mCons (mC (.int 25)) mNil))))) mNil)))) mNil)) [16] (tgN 16) mYes (mApp 3 FDraw (mCons (mVar 0) (mCons (mVar 1) (mCons (mVar 11) mNil))))))
    (sDrop (mAppend (mVar 10) (mCall tupD (mCons (mCall sortSetTD (mCons (mVar 12) mNil)) mNil)))))
noncomputable def law0 (fu : Nat) : SM := (sAsg (mTup (mCons (mNewL mNil) (mCons (mApp 3 FPick (mCons (mVar 0) (mCons (mVar 1) (mCons (mLst (mCons (mC (.int 4)) (mCons (mC (.int 9)) (mCons (mC (.int 40)) mNil)))) mNil)))) mNil))) (tgT 2 (tgsCons (tgN 10) (tgsCons (tgN 11) tgsNil))))
noncomputable def law1 (fu : Nat) : SM := (sFor (mRng1 (mCons (mBin addD (mC (.int 1)) (mApp 3 FDraw (mCons (mVar 0) (mCons (mVar 1) (mCons (mC (.int 5)) mNil))))) mNil)) (tgN 3) lawR)
noncomputable def law2 (fu : Nat) : SM := (sAsg (mApp 1 (FLeap "leap" tq fu) (mCons (mCall tupD (mCons (mVar 10) mNil)) mNil)) (tgT 2 (tgsCons (tgN 13) (tgsCons (tgN 14) tgsNil))))
noncomputable def law3 (fu : Nat) : SM := (sSet 4 (mLc (mIter (mBin ixD (mVar 10) (mC (.int 0)))) [15] (tgN 15) (mT (mBin eqD (mLcG false (mIterG (mVar 10)) [17] (tgN 17) (mT (mBin ninTD (mVar 15) (mVar 17))) (mC (.int 1))) (mLst mNil))) (mVar 15)))
noncomputable def law4 (fu : Nat) : SM := (sIf (mNotT (mTru (mApp 2 (FSame 4) (mCons (mVar 13) (mCons (mCall tupD (mCons (mVar 4) mNil)) mNil))))) (sRet (mC (.bl false))) sNil)
noncomputable def law5 (fu : Nat) : SM := (sIf (mNotT (mT (mChain leD leD (mC (.int 1)) (mVar 14) (mBin mulD (mCall lenD (mCons (mVar 10) mNil)) (mCall minD (mCons (mLcG false (mIterG (mVar 10)) [17] (tgN 17) mYes (mCall lenD (mCons (mVar 17) mNil))) mNil)))))) (sRet (mC (.bl false))) sNil)
noncomputable def law6 (fu : Nat) : SM := (sIf (mNotT (mTru (mApp 2 (FSame 4) (mCons (mBin ixD (mApp 1 (FLeap "leap" tq fu) (mCons (mCall tupD (mCons (mApp 3 (FMix fu) (mCons (mVar 0) (mCons (mVar 1) (mCons (mVar 10) mNil)))) mNil)) mNil)) (mC (.int 0))) (mCons (mVar 13) mNil))))) (sRet (mC (.bl false))) sNil)
noncomputable def law7 (fu : Nat) : SM := (sIf (mNotT (mTru (mApp 2 (FSame 4) (mCons (mApp 1 (FLeap "leap" tq fu) (mCons (mCall tupD (mCons (mSl (mVar 10) mNoP (mP (mC (.int 1)))) mNil)) mNil)) (mCons (mTup (mCons (mBin ixD (mVar 10) (mC (.int 0))) (mCons (mCall lenD (mCons (mBin ixD (mVar 10) (mC (.int 0))) mNil)) mNil))) mNil))))) (sRet (mC (.bl false))) sNil)
noncomputable def law8 (fu : Nat) : SM := (sIf (mOrT (mT (mBin neD (mBin ixD (mApp 1 (FLeap "leap" tq fu) (mCons (mCall tupD (mCons (mBin addL (mVar 10) (mSl (mVar 10) (mP (mUn negD (mC (.int 1)))) mNoP)) mNil)) mNil)) (mC (.int 0))) (mVar 13))) (mT (mBin neD (mApp 1 (FLeap "leap" tq fu) (mCons (mBin addD (mCall tupD (mCons (mVar 10) mNil)) (mTup (mCons (mTup mNil) mNil))) mNil)) (mTup (mCons (mTup mNil) (mCons (mC (.int 0)) mNil)))))) (sRet (mC (.bl false))) sNil)
noncomputable def law9 (fu : Nat) : SM := (sSet 5 (mBin subD (mApp 3 FDraw (mCons (mVar 0) (mCons (mVar 1) (mCons (mC (.int 99)) mNil)))) (mC (.int 50))))
noncomputable def law10 (fu : Nat) : SM := (sSet 6 (mCall tupD (mCons (mLcG false (mIterG (mVar 10)) [17] (tgN 17) mYes (mCall tupD (mCons (mLc (mIter (mVar 17)) [15] (tgN 15) mYes (mBin addD (mVar 15) (mVar 5))) mNil))) mNil)))
noncomputable def law11 (fu : Nat) : SM := (sIf (mNotT (mTru (mApp 2 (FSame 4) (mCons (mApp 1 (FLeap "leap" tq fu) (mCons (mVar 6) mNil)) (mCons (mTup (mCons (mCall tupD (mCons (mLc (mIter (mVar 13)) [15] (tgN 15) mYes (mBin addD (mVar 15) (mVar 5))) mNil)) (mCons (mVar 14) mNil))) mNil))))) (sRet (mC (.bl false))) sNil)
noncomputable def law12 (fu : Nat) : SM := (sSet 7 (mApp 3 FDraw (mCons (mVar 0) (mCons (mVar 1) (mCons (mVar 11) mNil)))))
noncomputable def law13 (fu : Nat) : SM := (sSet 8 (mCall tupD (mCons (mLcG false (mIterG (mVar 10)) [17] (tgN 17) mYes (mCall tupD (mCons (mCall sortSetTD (mCons (mBin addD (mVar 17) (mTup (mCons (mVar 7) mNil))) mNil)) mNil))) mNil)))
noncomputable def law14 (fu : Nat) : SM := (sIf (mNotT (mTru (mApp 2 (FSame 4) (mCons (mBin ixD (mApp 1 (FLeap "leap" tq fu) (mCons (mVar 8) mNil)) (mC (.int 0))) (mCons (mCall tupD (mCons (mCall sortSetTD (mCons (mBin addD (mVar 13) (mTup (mCons (mVar 7) mNil))) mNil)) mNil)) mNil))))) (sRet (mC (.bl false))) sNil)
noncomputable def law15 (fu : Nat) : SM := (sSet 9 (mCall tupD (mCons (mCall sortSetTD (mCons (mLc (mRng1 (mCons (mC (.int 5)) mNil)) [16] (tgN 16) mYes (mApp 3 FDraw (mCons (mVar 0) (mCons (mVar 1) (mCons (mVar 11) mNil))))) mNil)) mNil)))
noncomputable def law16 (fu : Nat) : SM := (sIf (mNotT (mTru (mApp 2 (FSame 4) (mCons (mBin ixD (mApp 1 (FLeap "leap" tq fu) (mCons (mBin addD (mCall tupD (mCons (mVar 10) mNil)) (mTup (mCons (mVar 9) mNil))) mNil)) (mC (.int 0))) (mCons (mCall tupD (mCons (mLc (mIter (mVar 13)) [15] (tgN 15) (mT (mBin inTD (mVar 15) (mVar 9))) (mVar 15)) mNil)) mNil))))) (sRet (mC (.bl false))) sNil)
noncomputable def lawB (fu : Nat) : SM := (sSeq (law0 fu) (sSeq (law1 fu) (sSeq (law2 fu) (sSeq (law3 fu) (sSeq (law4 fu) (sSeq (law5 fu) (sSeq (law6 fu) (sSeq (law7 fu) (sSeq (law8 fu) (sSeq (law9 fu) (sSeq (law10 fu) (sSeq (law11 fu) (sSeq (law12 fu) (sSeq (law13 fu) (sSeq (law14 fu) (sSeq (law15 fu) (law16 fu)))))))))))))))))
theorem law_eq (fu : Nat) : m_law fu = (sSeq (sSet 1 (mNewL mNil)) (sSeq (sFor (mRng1 (mCons (mC (.int 10)) mNil)) (tgN 2) (lawB fu)) (sRet (mC (.bl true))))) := rfl
abbrev ev (ns : List Int) (p far : Nat) (y2 y3 y4 y5 y6 y7 y8 y9 y12 y13 y14 y15 y16 y17 : Option D) : Dv.Env := [some (.scr ns), some (.loc 1), y2, y3, y4, y5, y6, y7, y8, y9, some (.loc p), some (.int far), y12, y13, y14, y15, y16, y17]
section
variable {S : Store} {n fu p far : Nat} {ns : List Int} {rows : List (List Int)} {y2 y3 y4 y5 y6 y7 y8 y9 y10 y11 y12 y13 y14 y15 y16 y17 : Option D}
/-- the rows as they are made -/
structure Rw (p : Nat) (rows : List (List Int)) (n : Nat) (S : Store) : Prop where
  tb : S[0]? = some (.tbl "leap" tq)
  tw : Twn 1 n S
  at' : S[p]? = some (.lst (rows.map rowD))
  up : ∀ r ∈ rows, r.Pairwise (· < ·)
  len : ∀ r ∈ rows, r.length ≤ 25
  ne : [] ∉ rows
theorem Rw.dif {p m : Nat} {rows : List (List Int)} {S S' : Store} (h : Rw p rows n S) (hp : p ≠ 1) (d : Dif 1 S S') (tw : Twn 1 m S') : Rw p rows m S' :=
  ⟨by rw [d.other (by decide)]; exact h.tb, tw, by rw [d.other hp]; exact h.at', h.up, h.len, h.ne⟩
theorem Rw.add {p : Nat} {rows : List (List Int)} {S : Store} (h : Rw p rows n S) (hp : p ≠ 1) (hp0 : p ≠ 0) {r : List Int} (hr : r.Pairwise (· < ·)) (hl : r.length ≤ 25) (hn : r ≠ []) : Rw p (rows ++ [r]) n (List.set S p (.lst ((rows ++ [r]).map rowD))) := by
  obtain ⟨ts, a, b⟩ := h.tw
  refine ⟨by rw [List.getElem?_set_ne hp0]; exact h.tb, ⟨ts, a, by rw [List.getElem?_set_ne hp]; exact b⟩, gs h.at' _, fun q hq => ?_, fun q hq => ?_, fun q => ?_⟩
  · rcases List.mem_append.mp hq with q1 | q1
    · exact h.up q q1
    · rw [List.mem_singleton.mp q1]; exact hr
  · rcases List.mem_append.mp hq with q1 | q1
    · exact h.len q q1
    · rw [List.mem_singleton.mp q1]; exact hl
  · rcases List.mem_append.mp q with q1 | q1
    · exact h.ne q1
    · exact hn (List.mem_singleton.mp q1).symm
theorem lawR_ok (h63 : ns.length ≤ 63) (hf : 0 < far) (hp0 : p ≠ 0) (hp : p ≠ 1) (h : Rw p rows n S) (hn : n ≤ 8000) (hr : rows.length < 1000) :
    ∃ S' y12' row, lawR (ev ns p far y2 y3 y4 y5 y6 y7 y8 y9 y12 y13 y14 y15 y16 y17) S = .ok .next (ev ns p far y2 y3 y4 y5 y6 y7 y8 y9 y12' y13 y14 y15 y16 y17) S' ∧ Rw p (rows ++ [row]) (n + 52) S' := by
  obtain ⟨i, d, S1, hd, tw1, d1, e1⟩ := pick_tw (seq := .lst [.int 1, .int 3, .int 8, .int 25]) h63 h.tw (by omega) (.inl rfl) (by simp) (fun m => rfl)
  obtain ⟨k, hk0, hk, rfl⟩ : ∃ k : Nat, 0 < k ∧ k ≤ 25 ∧ d = .int k := by
    match i, hd with
    | 0, hd => cases hd; exact ⟨1, by omega, by omega, rfl⟩
    | 1, hd => cases hd; exact ⟨3, by omega, by omega, rfl⟩
    | 2, hd => cases hd; exact ⟨8, by omega, by omega, rfl⟩
    | 3, hd => cases hd; exact ⟨25, by omega, by omega, rfl⟩
    | i + 4, hd => cases hd
  obtain ⟨zs, S2, hz, _, tw2, d2, e2⟩ := lc_draws (k := k) (j := 16) (m := far) (r0 := ev ns p far y2 y3 y4 y5 y6 y7 y8 y9 y12 y13 y14 y15 none y17) (te := mApp 3 FDraw (mCons (mVar 0) (mCons (mVar 1) (mCons (mVar 11) mNil)))) id h63 (by omega) tw1 (by omega) (fun d S z S1 e => by simp [e])
  have h2 := h.dif hp (d1.trans d2) (tw2.mono (m := n + 52) (by omega))
  have hlen : (ssI zs).length ≤ 25 := by
    have := ssI_len zs
    omega
  have hne : ssI zs ≠ [] := fun q => by
    cases zs with
    | nil => simp at hz; omega
    | cons z zs =>
      have : z ∈ ssI (z :: zs) := mem_ssI.mpr List.mem_cons_self
      rw [q] at this
      cases this
  have h3 := h2.add hp hp0 (ssI_strict zs) hlen hne
  refine ⟨_, some (.lst (zs.map D.int)), ssI zs, ?_, h3⟩
  have hs : sortSetTD [.lst (zs.map D.int)] S2 = some (.lst ((ssI zs).map D.int)) := sortSetTD_lst (by omega)
  have hk1 : -100000 ≤ (k : Int) := by omega
  have hk2 : (k : Int) ≤ 100000 := by omega
  have hr2 : rows.length < 100000 := by omega
  unfold lawR
  simp [e1, hk1, hk2, e2, hs, h2.at', hr2, rowD]
theorem rows_loop (h63 : ns.length ≤ 63) {m : Nat} (hf : 0 < far) (hm : m ≤ 5) (hp0 : p ≠ 0) (hp : p ≠ 1) (h : Rw p [] n S) (hn : n ≤ 7000) :
    ∃ S' y3' y12' rows, sLoop (tgN 3) lawR (rng 0 m) (ev ns p far y2 y3 y4 y5 y6 y7 y8 y9 y12 y13 y14 y15 y16 y17) S = .ok .next (ev ns p far y2 y3' y4 y5 y6 y7 y8 y9 y12' y13 y14 y15 y16 y17) S' ∧ rows.length = m ∧ Rw p rows (n + 52 * m) S' := by
  obtain ⟨r1, S1, ea, rows, ⟨y3, y12, rfl⟩, hl, h⟩ := loop_inv (gm := tgN 3) (b := lawR)
    (fun i r S' => ∃ rows : List (List Int), (∃ y3 y12, r = ev ns p far y2 y3 y4 y5 y6 y7 y8 y9 y12 y13 y14 y15 y16 y17) ∧ rows.length = i ∧ Rw p rows (n + 52 * i) S') (rng 0 m) 0 (ev ns p far y2 y3 y4 y5 y6 y7 y8 y9 y12 y13 y14 y15 y16 y17) S (fun i d r S1 hd hi => by
      obtain ⟨hi2, rfl⟩ := rng0_get hd
      obtain ⟨rows, ⟨y3, y12, rfl⟩, hl, h⟩ := hi
      obtain ⟨S', y12', row, e, h'⟩ := lawR_ok h63 (y2 := y2) (y3 := some (.int i)) (y4 := y4) (y5 := y5) (y6 := y6) (y7 := y7) (y8 := y8) (y9 := y9) (y12 := y12) (y13 := y13) (y14 := y14) (y15 := y15) (y16 := y16) (y17 := y17) hf hp0 hp h (by omega) (by omega)
      exact ⟨_, _, S', rfl, .inl e, rows ++ [row], ⟨_, _, rfl⟩, by simp [hl], by rw [show 52 * (0 + i + 1) = 52 * (0 + i) + 52 by omega, ← Nat.add_assoc]; exact h'⟩) ⟨[], ⟨_, _, rfl⟩, rfl, h⟩
  rw [rng_len, Nat.zero_add] at hl h
  exact ⟨S1, y3, y12, rows, ea, hl, h⟩
theorem pt_pair (k : Nat) (r : List Int) (L : Int) : pt (k + 2) (.tup [rowD r, .int L]) = true := by
  have := pt_rowD k r
  show ([rowD r, D.int L].all (pt (k + 1))) = true
  simp [this]
  rfl
theorem tot_le : ∀ {rows : List (List Int)} {k : Nat}, (∀ r ∈ rows, r.length ≤ k) → Lp.tot rows ≤ k * rows.length
  | [], k, _ => Nat.zero_le _
  | x :: rows, k, h => by
    have := tot_le (rows := rows) fun r hr => h r (List.mem_cons_of_mem _ hr)
    have := h x List.mem_cons_self
    unfold Lp.tot at *
    rw [List.map_cons, List.sum_cons, List.length_cons, Nat.mul_succ]
    omega
theorem leap_at {rows : List (List Int)} (hb : S[0]? = some (.tbl "leap" tq)) (h0 : rows ≠ []) (hl : rows.length ≤ 10) (hup : ∀ r ∈ rows, r.Pairwise (· < ·)) (hle : ∀ r ∈ rows, r.length ≤ 40) (hfu : 1000 < fu) : FLeap "leap" tq fu [.tup (rows.map rowD)] S = .ok (.tup [rowD (leapF rows).1, .int (leapF rows).2]) S := by
  have := tot_le hle
  exact leap_ok hb h0 (by omega) hup (by omega) (by omega)
theorem same_rows {a b : List Int} (h : a = b) : FSame 4 [rowD a, rowD b] S = .ok (.bl true) S := by
  have := same_ok (S := S) 4 1 (by decide) (rowD a) (rowD b) (pt_rowD 0 a) (pt_rowD 0 b)
  rw [this, h, decide_eq_true rfl]
theorem same_pair {a b : List Int} {k l : Int} (h : a = b) (h2 : k = l) : FSame 4 [.tup [rowD a, .int k], .tup [rowD b, .int l]] S = .ok (.bl true) S := by
  subst h
  subst h2
  have := same_ok (S := S) 4 2 (by decide) _ _ (pt_pair 0 a k) (pt_pair 0 a k)
  rw [this, decide_eq_true rfl]
theorem law2_ok (h : Rw p rows n S) (h0 : rows ≠ []) (hl : rows.length ≤ 5) (hfu : 1000 < fu) :
    law2 fu (ev ns p far y2 y3 y4 y5 y6 y7 y8 y9 y12 y13 y14 y15 y16 y17) S = .ok .next (ev ns p far y2 y3 y4 y5 y6 y7 y8 y9 y12 (some (rowD (leapF rows).1)) (some (.int (leapF rows).2)) y15 y16 y17) S := by
  have e1 := leap_at (fu := fu) h.tb h0 (by omega) h.up (fun r hr => by have := h.len r hr; omega) hfu
  unfold law2
  simp [h.at', e1]
theorem seqG_at (h : S[p]? = some (.lst (rows.map rowD))) : seqG (.loc p) S = some (rows.map rowD, gIs p (rows.map rowD)) := by
  unfold seqG
  simp only [h]
theorem due_eq {row : List Int} {rest : List (List Int)} (h0 : rows = row :: rest) (hup : ∀ r ∈ rows, r.Pairwise (· < ·)) : (leapF rows).1 = row.filter fun x => decide (∀ l ∈ rows, x ∈ l) := by
  have hne : rows ≠ [] := by rw [h0]; simp
  have hr : row ∈ rows := by rw [h0]; exact List.mem_cons_self
  refine up_ext (leapF_up hne hup) ((hup row hr).filter _) fun x => ?_
  rw [mem_leapF hne hup, List.mem_filter, decide_eq_true_eq]
  exact ⟨fun q => ⟨q row hr, q⟩, fun q => q.2⟩
theorem law3_ok {row : List Int} {rest : List (List Int)} (hrr : rows = row :: rest) (h : Rw p rows n S) :
    law3 fu (ev ns p far y2 y3 y4 y5 y6 y7 y8 y9 y12 y13 y14 y15 y16 y17) S = .ok .next (ev ns p far y2 y3 (some (.lst ((leapF rows).1.map D.int))) y5 y6 y7 y8 y9 y12 y13 y14 y15 y16 y17) S := by
  have inner : ∀ x : Int, lcG (gIs p (rows.map rowD)) (tgN 17) (mT (mBin ninTD (mVar 15) (mVar 17))) (mC (.int 1)) (ev ns p far y2 y3 y4 y5 y6 y7 y8 y9 y12 y13 y14 (some (.int x)) y16 none) (rows.map rowD) S = .ok ((rows.filter fun l => !decide (x ∈ l)).map fun _ => D.int 1) S := fun x => by
    rw [lcG_pure (fun d => match d with | .tup xs => !decide (D.int x ∈ xs) | _ => false) (fun _ => .int 1) (gIs_ap h.at') (rows.map rowD) fun d hd => by
      obtain ⟨l, hl, rfl⟩ := List.mem_map.mp hd
      refine ⟨_, rfl, ?_, fun _ => by simp⟩
      have : (match rowD l with | .tup xs => !decide (D.int x ∈ xs) | _ => false) = !decide (x ∈ l) := by
        show (!decide (D.int x ∈ l.map D.int)) = _
        congr 1
        refine decide_eq_decide.mpr ?_
        simp
      rw [this]
      simp [ninTD_row]]
    congr 1
    rw [List.filter_map, List.map_map]
    have : rows.filter ((fun d => match d with | .tup xs => !decide (D.int x ∈ xs) | _ => false) ∘ rowD) = rows.filter fun l => !decide (x ∈ l) := by
      refine List.filter_congr fun l _ => ?_
      show (!decide (D.int x ∈ l.map D.int)) = _
      congr 1
      refine decide_eq_decide.mpr ?_
      simp
    rw [this]
    rfl
  have eqE : ∀ x : Int, eqD (.lst ((rows.filter fun l => !decide (x ∈ l)).map fun _ => D.int 1)) (.lst []) S = some (.bl (decide (∀ l ∈ rows, x ∈ l))) := fun x => by
    rw [eqD_pl (k := 1) (by show (List.map _ _).all _ = true; simp [pl]) (by rfl) (by decide)]
    congr 2
    refine decide_eq_decide.mpr ?_
    show D.lst _ = D.lst [] ↔ _
    rw [D.lst.injEq, List.map_eq_nil_iff, List.filter_eq_nil_iff]
    simp
  have out : lcL (tgN 15) (mT (mBin eqD (mLcG false (mIterG (mVar 10)) [17] (tgN 17) (mT (mBin ninTD (mVar 15) (mVar 17))) (mC (.int 1))) (mLst mNil))) (mVar 15) (ev ns p far y2 y3 y4 y5 y6 y7 y8 y9 y12 y13 y14 none y16 y17) (row.map D.int) S = .ok ((leapF rows).1.map D.int) S := by
    rw [lc_pure (fun d => match d with | .int x => decide (∀ l ∈ rows, x ∈ l) | _ => false) id (row.map D.int) fun d hd => by
      obtain ⟨x, hx, rfl⟩ := List.mem_map.mp hd
      refine ⟨_, rfl, ?_, fun _ => by simp⟩
      have i1 := inner x
      have e1 := eqE x
      simp [seqG_at h.at', i1, e1]]
    congr 1
    rw [List.map_id, List.filter_map, due_eq hrr h.up]
    rfl
  have a1 : ixD (.loc p) (.int 0) S = some (rowD row) := by
    rw [ixD_loc, h.at', hrr]
    exact atI_zero _ _
  have sq : seqD (rowD row) = some (row.map D.int) := rfl
  unfold law3
  simp [a1, sq, out, -ixD_loc]
theorem law4_ok : law4 fu (ev ns p far y2 y3 (some (.lst ((leapF rows).1.map D.int))) y5 y6 y7 y8 y9 y12 (some (rowD (leapF rows).1)) y14 y15 y16 y17) S = .ok .next (ev ns p far y2 y3 (some (.lst ((leapF rows).1.map D.int))) y5 y6 y7 y8 y9 y12 (some (rowD (leapF rows).1)) y14 y15 y16 y17) S := by
  have t1 : tupD [.lst ((leapF rows).1.map D.int)] S = some (rowD (leapF rows).1) := rfl
  have s1 := same_rows (S := S) (rfl : (leapF rows).1 = (leapF rows).1)
  unfold law4
  simp [t1, s1, -tupD_lst]
theorem ml_ok {S : Store} (a b : Nat) (h : a ≤ 5) : mulD (.int (a : Int)) (.int (b : Int)) S = some (.int ((a : Int) * (b : Int))) := by
  have b2 : -(2 ^ 64) < (a : Int) ∧ (a : Int) < 2 ^ 64 := by
    have h1 : (a : Int) ≤ 5 := by omega
    have h2 : (0 : Int) ≤ a := Int.natCast_nonneg a
    have e : (2 : Int) ^ 64 = 18446744073709551616 := by decide
    rw [e]
    omega
  rw [mulD_int]
  exact if_pos (.inl b2)
theorem law5_ok (h : Rw p rows n S) (h0 : rows ≠ []) (hl : rows.length ≤ 5) :
    law5 fu (ev ns p far y2 y3 y4 y5 y6 y7 y8 y9 y12 y13 (some (.int (leapF rows).2)) y15 y16 y17) S = .ok .next (ev ns p far y2 y3 y4 y5 y6 y7 y8 y9 y12 y13 (some (.int (leapF rows).2)) y15 y16 y17) S := by
  have lens : lcG (gIs p (rows.map rowD)) (tgN 17) mYes (mCall lenD (mCons (mVar 17) mNil)) (ev ns p far y2 y3 y4 y5 y6 y7 y8 y9 y12 y13 (some (.int (leapF rows).2)) y15 y16 none) (rows.map rowD) S = .ok ((rows.map fun l => (l.length : Int)).map D.int) S := by
    rw [lcG_map (fun d => match d with | .tup xs => .int xs.length | d => d) (gIs_ap h.at') _ fun d hd => by
      obtain ⟨l, hl, rfl⟩ := List.mem_map.mp hd
      exact ⟨_, rfl, by simp [rowD]⟩]
    congr 1
    rw [List.map_map, List.map_map]
    refine List.map_congr_left fun l _ => ?_
    show D.int ((l.map D.int).length : Int) = _
    rw [List.length_map]
    rfl
  obtain ⟨m, hm⟩ : ∃ m, minI (rows.map fun l => (l.length : Int)) = some m := by
    cases q : minI (rows.map fun l => (l.length : Int)) with
    | some m => exact ⟨m, rfl⟩
    | none => exact absurd (minI_nil q) (by simpa using h0)
  obtain ⟨m1, m2⟩ := minI_ok hm
  obtain ⟨l, hll, rfl⟩ := List.mem_map.mp m1
  obtain ⟨_, _, s3, _, s5⟩ := leapF_spec h0 h.up h.ne
  have hb := s5 l hll
  have hle := h.len l hll
  have md : minD [.lst ((rows.map fun l => (l.length : Int)).map D.int)] S = some (.int (l.length : Int)) := by
    show ((intsOf ((rows.map fun l => (l.length : Int)).map D.int)).bind minI).map D.int = _
    rw [intsOf_map]
    show (minI _).map D.int = _
    rw [hm]
    rfl
  have c1 : (1 : Int) ≤ ((leapF rows).2 : Int) := by omega
  have c2 : ((leapF rows).2 : Int) ≤ (rows.length : Int) * (l.length : Int) := by
    rw [← Int.natCast_mul]
    omega
  have ml : mulD (.int (rows.length : Int)) (.int (l.length : Int)) S = some (.int ((rows.length : Int) * (l.length : Int))) := by
    exact ml_ok rows.length l.length hl
  have le1 : leD (.int 1) (.int ((leapF rows).2 : Int)) S = some (.bl true) := by rw [leD_int, decide_eq_true c1]
  have le2 : leD (.int ((leapF rows).2 : Int)) (.int ((rows.length : Int) * (l.length : Int))) S = some (.bl true) := by rw [leD_int, decide_eq_true c2]
  have k1 : (mCall minD (mCons (mLcG false (mIterG (mVar 10)) [17] (tgN 17) mYes (mCall lenD (mCons (mVar 17) mNil))) mNil)) (ev ns p far y2 y3 y4 y5 y6 y7 y8 y9 y12 y13 (some (.int (leapF rows).2)) y15 y16 y17) S = .ok (.int (l.length : Int)) S := by
    simp [seqG_at h.at', lens, md, -List.map_map]
  have k2 : (mBin mulD (mCall lenD (mCons (mVar 10) mNil)) (mCall minD (mCons (mLcG false (mIterG (mVar 10)) [17] (tgN 17) mYes (mCall lenD (mCons (mVar 17) mNil))) mNil))) (ev ns p far y2 y3 y4 y5 y6 y7 y8 y9 y12 y13 (some (.int (leapF rows).2)) y15 y16 y17) S = .ok (.int ((rows.length : Int) * (l.length : Int))) S := by
    have k0 : mCall lenD (mCons (mVar 10) mNil) (ev ns p far y2 y3 y4 y5 y6 y7 y8 y9 y12 y13 (some (.int (leapF rows).2)) y15 y16 y17) S = .ok (.int (rows.length : Int)) S := by
      simp [h.at']
    rw [mBin_ap, k0, rb_ok, k1, rb_ok, ml]
    rfl
  have k3 : (mChain leD leD (mC (.int 1)) (mVar 14) (mBin mulD (mCall lenD (mCons (mVar 10) mNil)) (mCall minD (mCons (mLcG false (mIterG (mVar 10)) [17] (tgN 17) mYes (mCall lenD (mCons (mVar 17) mNil))) mNil)))) (ev ns p far y2 y3 y4 y5 y6 y7 y8 y9 y12 y13 (some (.int (leapF rows).2)) y15 y16 y17) S = .ok (.bl true) S := by
    rw [mChain_ap]
    have v : mVar 14 (ev ns p far y2 y3 y4 y5 y6 y7 y8 y9 y12 y13 (some (.int (leapF rows).2)) y15 y16 y17) S = .ok (.int (leapF rows).2) S := rfl
    rw [mC_ap, rb_ok, v, rb_ok, le1, ofO_some, rb_ok]
    show (mBin mulD _ _ _ S).bind _ = _
    rw [k2]
    show ofO (leD (.int ((leapF rows).2 : Int)) (.int ((rows.length : Int) * (l.length : Int))) S) S = _
    rw [le2]
    rfl
  unfold law5
  rw [sIf_ap, mNotT_ap, mT_ap, k3]
  rfl
theorem law6_ok (h63 : ns.length ≤ 63) (h : Rw p rows n S) (hp : p ≠ 1) (hn : n ≤ 8000) (h0 : rows ≠ []) (hl : rows.length ≤ 5) (hfu : 1000 < fu) :
    ∃ S', law6 fu (ev ns p far y2 y3 y4 y5 y6 y7 y8 y9 y12 (some (rowD (leapF rows).1)) y14 y15 y16 y17) S = .ok .next (ev ns p far y2 y3 y4 y5 y6 y7 y8 y9 y12 (some (rowD (leapF rows).1)) y14 y15 y16 y17) S' ∧ Rw p rows (n + 10) S' := by
  obtain ⟨m, S1, e1, hm, hml, tw1, d1⟩ := mix_ok (fu := fu) h63 (by omega) (by omega) (by omega) h.tw h.at'
  have h1 := h.dif hp d1 (tw1.mono (m := n + 10) (by omega))
  have m0 : m ≠ [] := fun q => by
    rw [q] at hml
    exact h0 (List.eq_nil_of_length_eq_zero hml.symm)
  have mup : ∀ r ∈ m, r.Pairwise (· < ·) := fun r hr => h.up r ((hm r).mp hr)
  have e2 := leap_at (fu := fu) (S := S1) h1.tb m0 (by omega) mup (fun r hr => by have := h.len r ((hm r).mp hr); omega) hfu
  have s1 := same_rows (S := S1) (leapF_same m0 h0 mup h.up fun x => ⟨fun q l hl => q l ((hm l).mpr hl), fun q l hl => q l ((hm l).mp hl)⟩)
  refine ⟨S1, ?_, h1⟩
  unfold law6
  simp [e1, e2, atI_zero, s1]
theorem law7_ok {row : List Int} {rest : List (List Int)} (hrr : rows = row :: rest) (h : Rw p rows n S) (hfu : 1000 < fu) :
    law7 fu (ev ns p far y2 y3 y4 y5 y6 y7 y8 y9 y12 y13 y14 y15 y16 y17) S = .ok .next (ev ns p far y2 y3 y4 y5 y6 y7 y8 y9 y12 y13 y14 y15 y16 y17) S := by
  have hr : row ∈ rows := by rw [hrr]; exact List.mem_cons_self
  have a1 : ixD (.loc p) (.int 0) S = some (rowD row) := by
    rw [ixD_loc, h.at', hrr]
    exact atI_zero _ _
  have sl : slD (.loc p) none (some 1) S = some (.lst [rowD row]) := by
    unfold slD
    simp only [h.at', cut_take1, hrr]
    rfl
  have e1 := leap_at (fu := fu) (rows := [row]) h.tb (by simp) (by simp) (fun r hr' => by rw [List.mem_singleton.mp hr']; exact h.up row hr) (fun r hr' => by rw [List.mem_singleton.mp hr']; have := h.len row hr; omega) hfu
  have e1' : FLeap "leap" tq fu [.tup [rowD row]] S = _ := e1
  have ne : row ≠ [] := fun q => h.ne (q ▸ hr)
  rw [leapF_one ne (h.up row hr)] at e1'
  have ln : lenD [rowD row] S = some (.int row.length) := by
    show some (D.int ((row.map D.int).length : Int)) = _
    rw [List.length_map]
  have s1 := same_pair (S := S) (a := row) (b := row) (k := (row.length : Int)) rfl rfl
  unfold law7
  simp [a1, sl, e1', ln, s1, -ixD_loc]
theorem cut_last {α : Type} (xs : List α) (h : xs ≠ []) : ∃ y, cutL xs (some (-1)) none = [y] ∧ y ∈ xs := by
  rcases List.eq_nil_or_concat xs with rfl | ⟨ys, y, rfl⟩
  · exact absurd rfl h
  · refine ⟨y, ?_, by simp⟩
    have e : HT.sIx (ys.concat y).length 0 (some (-1)) = ys.length := by
      unfold HT.sIx
      simp
      omega
    unfold cutL
    rw [e, HT.sIx_none, List.concat_eq_append, List.drop_left]
    simp
theorem law8_ok (h : Rw p rows n S) (h0 : rows ≠ []) (hl : rows.length ≤ 5) (hfu : 1000 < fu) :
    law8 fu (ev ns p far y2 y3 y4 y5 y6 y7 y8 y9 y12 (some (rowD (leapF rows).1)) y14 y15 y16 y17) S = .ok .next (ev ns p far y2 y3 y4 y5 y6 y7 y8 y9 y12 (some (rowD (leapF rows).1)) y14 y15 y16 y17) S := by
  obtain ⟨d, ec, hd⟩ := cut_last (rows.map rowD) (by simpa using h0)
  obtain ⟨l, hll, rfl⟩ := List.mem_map.mp hd
  have sl : slD (.loc p) (some (-1)) none S = some (.lst [rowD l]) := by
    unfold slD
    simp only [h.at', ec]
  have ad : addL (.loc p) (.lst [rowD l]) S = some (.lst ((rows ++ [l]).map rowD)) := by
    unfold addL catN
    simp only [lstAt, h.at']
    rw [if_pos (by simp; omega)]
    simp
  have up2 : ∀ r ∈ rows ++ [l], r.Pairwise (· < ·) := fun r hr => by
    rcases List.mem_append.mp hr with q | q
    · exact h.up r q
    · rw [List.mem_singleton.mp q]; exact h.up l hll
  have e1 := leap_at (fu := fu) (S := S) (rows := rows ++ [l]) h.tb (by simp) (by simp; omega) up2 (fun r hr => by
    rcases List.mem_append.mp hr with q | q
    · have := h.len r q; omega
    · rw [List.mem_singleton.mp q]; have := h.len l hll; omega) hfu
  have v1 : (leapF (rows ++ [l])).1 = (leapF rows).1 := leapF_same (by simp) h0 up2 h.up fun x => ⟨fun q r hr => q r (List.mem_append_left _ hr), fun q r hr => by
    rcases List.mem_append.mp hr with z | z
    · exact q r z
    · rw [List.mem_singleton.mp z]; exact q l hll⟩
  have n1 : neD (rowD (leapF (rows ++ [l])).1) (rowD (leapF rows).1) S = some (.bl false) := by
    rw [neD_row, v1, decide_eq_true rfl]
    rfl
  have up3 : ∀ r ∈ rows ++ [[]], r.Pairwise (· < ·) := fun r hr => by
    rcases List.mem_append.mp hr with q | q
    · exact h.up r q
    · rw [List.mem_singleton.mp q]; exact .nil
  have e2 := leap_at (fu := fu) (S := S) (rows := rows ++ [[]]) h.tb (by simp) (by simp; omega) up3 (fun r hr => by
    rcases List.mem_append.mp hr with q | q
    · have := h.len r q; omega
    · rw [List.mem_singleton.mp q]; simp) hfu
  rw [leapF_nil (List.mem_append_right _ (by simp))] at e2
  have e2' : FLeap "leap" tq fu [.tup ((rows ++ [[]]).map rowD)] S = .ok (.tup [rowD [], .int 0]) S := e2
  have ad2 : addD (.tup (rows.map rowD)) (.tup [.tup []]) S = some (.tup ((rows ++ [[]]).map rowD)) := by
    rw [addD_tup, if_pos (by simp; omega), List.map_append]
    rfl
  have n2 : neD (.tup [rowD [], .int 0]) (.tup [.tup [], .int 0]) S = some (.bl false) := by
    have e : now (.tup [rowD [], .int 0]) S = now (.tup [.tup [], .int 0]) S := rfl
    rw [neD_pl (k := 2) (by rfl) (by rfl) (by decide), decide_eq_true e]
    rfl
  unfold law8
  simp [sl, ad, h.at', e1, atI_zero, n1, ad2, e2', n2, -addD_tup, -List.map_append]
theorem law9_ok (h63 : ns.length ≤ 63) (h : Rw p rows n S) (hp : p ≠ 1) (hn : n ≤ 8000) :
    ∃ S' b, law9 fu (ev ns p far y2 y3 y4 y5 y6 y7 y8 y9 y12 y13 y14 y15 y16 y17) S = .ok .next (ev ns p far y2 y3 y4 (some (.int b)) y6 y7 y8 y9 y12 y13 y14 y15 y16 y17) S' ∧ Rw p rows (n + 2) S' := by
  obtain ⟨x, S1, hx, tw1, d1, e1⟩ := draw_tw (many := 99) h63 h.tw (by omega) (by decide)
  refine ⟨S1, (x : Int) - 50, ?_, h.dif hp d1 tw1⟩
  unfold law9
  simp [e1]
theorem lc_plus {b : Int} {r0 : Dv.Env} (h15 : 15 < r0.length) (h5 : r0[5]? = some (some (.int b))) (l : List Int) : lcL (tgN 15) mYes (mBin addD (mVar 15) (mVar 5)) r0 (l.map D.int) S = .ok ((l.map (· + b)).map D.int) S := by
  rw [lc_map (fun d => match d with | .int x => .int (x + b) | d => d) _ fun d hd => by
    obtain ⟨x, hx, rfl⟩ := List.mem_map.mp hd
    refine ⟨_, rfl, ?_⟩
    have e1 : (r0.set 15 (some (.int x)))[15]? = some (some (.int x)) := List.getElem?_set_self h15
    have e2 : (r0.set 15 (some (.int x)))[5]? = some (some (.int b)) := by rw [List.getElem?_set_ne (by decide)]; exact h5
    simp only [mBin_ap, mVar_ap, e1, e2, rb_ok]
    simp]
  congr 1
  rw [List.map_map, List.map_map]
  rfl
theorem law10_ok {b : Int} (h : Rw p rows n S) :
    law10 fu (ev ns p far y2 y3 y4 (some (.int b)) y6 y7 y8 y9 y12 y13 y14 y15 y16 y17) S = .ok .next (ev ns p far y2 y3 y4 (some (.int b)) (some (.tup ((rows.map (List.map (· + b))).map rowD))) y7 y8 y9 y12 y13 y14 y15 y16 y17) S := by
  have out : lcG (gIs p (rows.map rowD)) (tgN 17) mYes (mCall tupD (mCons (mLc (mIter (mVar 17)) [15] (tgN 15) mYes (mBin addD (mVar 15) (mVar 5))) mNil)) (ev ns p far y2 y3 y4 (some (.int b)) y6 y7 y8 y9 y12 y13 y14 y15 y16 none) (rows.map rowD) S = .ok ((rows.map (List.map (· + b))).map rowD) S := by
    rw [lcG_map (fun d => match d with | .tup xs => .tup (xs.map fun x => match x with | .int z => .int (z + b) | x => x) | d => d) (gIs_ap h.at') _ fun d hd => by
      obtain ⟨l, hl, rfl⟩ := List.mem_map.mp hd
      refine ⟨_, rfl, ?_⟩
      have sq : seqD (rowD l) = some (l.map D.int) := rfl
      have lp := fun y16 y17 => lc_plus (S := S) (b := b) (r0 := ev ns p far y2 y3 y4 (some (.int b)) y6 y7 y8 y9 y12 y13 y14 none y16 y17) (by simp) rfl l
      simp [sq, lp, -List.map_map]
      simp [rowD]]
    congr 1
    rw [List.map_map, List.map_map]
    refine List.map_congr_left fun l _ => ?_
    show D.tup ((l.map D.int).map _) = D.tup ((l.map (· + b)).map D.int)
    rw [List.map_map, List.map_map]
    rfl
  unfold law10
  simp [seqG_at h.at', out, -List.map_map]
theorem law11_ok {b : Int} (h : Rw p rows n S) (h0 : rows ≠ []) (hl : rows.length ≤ 5) (hfu : 1000 < fu) :
    law11 fu (ev ns p far y2 y3 y4 (some (.int b)) (some (.tup ((rows.map (List.map (· + b))).map rowD))) y7 y8 y9 y12 (some (rowD (leapF rows).1)) (some (.int (leapF rows).2)) y15 y16 y17) S = .ok .next (ev ns p far y2 y3 y4 (some (.int b)) (some (.tup ((rows.map (List.map (· + b))).map rowD))) y7 y8 y9 y12 (some (rowD (leapF rows).1)) (some (.int (leapF rows).2)) y15 y16 y17) S := by
  have e1 := leap_at (fu := fu) (S := S) (rows := rows.map (List.map (· + b))) h.tb (by simpa using h0) (by simp; omega) (fun r hr => by
    obtain ⟨l, hl, rfl⟩ := List.mem_map.mp hr
    rw [List.pairwise_map]
    exact (h.up l hl).imp fun {a b} q => by omega) (fun r hr => by
    obtain ⟨l, hl, rfl⟩ := List.mem_map.mp hr
    rw [List.length_map]
    have := h.len l hl
    omega) hfu
  rw [leapF_move b h0 h.up h.ne] at e1
  have sq : seqD (rowD (leapF rows).1) = some ((leapF rows).1.map D.int) := rfl
  have lp := fun y16 y17 => lc_plus (S := S) (b := b) (r0 := ev ns p far y2 y3 y4 (some (.int b)) (some (.tup ((rows.map (List.map (· + b))).map rowD))) y7 y8 y9 y12 (some (rowD (leapF rows).1)) (some (.int (leapF rows).2)) none y16 y17) (by simp) rfl (leapF rows).1
  have tt : tupD [.lst (((leapF rows).1.map (· + b)).map D.int)] S = some (rowD ((leapF rows).1.map (· + b))) := rfl
  have s1 := same_pair (S := S) (a := (leapF rows).1.map (· + b)) (b := (leapF rows).1.map (· + b)) (k := ((leapF rows).2 : Int)) rfl rfl
  unfold law11
  simp [e1, sq, lp, tt, s1, -List.map_map, -tupD_lst]
theorem law12_ok (h63 : ns.length ≤ 63) (hf : 0 < far) (h : Rw p rows n S) (hp : p ≠ 1) (hn : n ≤ 8000) :
    ∃ S' z, law12 fu (ev ns p far y2 y3 y4 y5 y6 y7 y8 y9 y12 y13 y14 y15 y16 y17) S = .ok .next (ev ns p far y2 y3 y4 y5 y6 (some (.int z)) y8 y9 y12 y13 y14 y15 y16 y17) S' ∧ Rw p rows (n + 2) S' := by
  obtain ⟨x, S1, hx, tw1, d1, e1⟩ := draw_tw (many := far) h63 h.tw (by omega) (by omega)
  refine ⟨S1, (x : Int), ?_, h.dif hp d1 tw1⟩
  unfold law12
  simp [e1]
theorem add_more {z : Int} (l : List Int) (h : l.length ≤ 25) : addD (rowD l) (.tup [.int z]) S = some (.tup ((l ++ [z]).map D.int)) := by
  show addD (.tup (l.map D.int)) (.tup [.int z]) S = _
  rw [addD_tup, if_pos (by simp; omega), List.map_append]
  rfl
theorem law13_ok {z : Int} (h : Rw p rows n S) :
    law13 fu (ev ns p far y2 y3 y4 y5 y6 (some (.int z)) y8 y9 y12 y13 y14 y15 y16 y17) S = .ok .next (ev ns p far y2 y3 y4 y5 y6 (some (.int z)) (some (.tup ((rows.map fun l => ssI (l ++ [z])).map rowD))) y9 y12 y13 y14 y15 y16 y17) S := by
  have out : lcG (gIs p (rows.map rowD)) (tgN 17) mYes (mCall tupD (mCons (mCall sortSetTD (mCons (mBin addD (mVar 17) (mTup (mCons (mVar 7) mNil))) mNil)) mNil)) (ev ns p far y2 y3 y4 y5 y6 (some (.int z)) y8 y9 y12 y13 y14 y15 y16 none) (rows.map rowD) S = .ok ((rows.map fun l => ssI (l ++ [z])).map rowD) S := by
    rw [lcG_map (fun d => match d with | .tup xs => (match intsOf xs with | some l => rowD (ssI (l ++ [z])) | none => d) | d => d) (gIs_ap h.at') _ fun d hd => by
      obtain ⟨l, hl, rfl⟩ := List.mem_map.mp hd
      refine ⟨_, rfl, ?_⟩
      have a1 := add_more (S := S) (z := z) l (h.len l hl)
      have a2 : sortSetTD [.tup ((l ++ [z]).map D.int)] S = some (.lst ((ssI (l ++ [z])).map D.int)) := sortSetTD_tup (by rw [List.length_append, List.length_singleton]; have := h.len l hl; omega)
      have e : (match rowD l with | .tup xs => (match intsOf xs with | some l => rowD (ssI (l ++ [z])) | none => rowD l) | d => d) = rowD (ssI (l ++ [z])) := by
        show (match intsOf (l.map D.int) with | some l => rowD (ssI (l ++ [z])) | none => rowD l) = _
        rw [intsOf_map]
      rw [e]
      simp [a1, a2, -List.map_append, -addD_tup]
      rfl]
    congr 1
    rw [List.map_map, List.map_map]
    refine List.map_congr_left fun l _ => ?_
    show (match intsOf (l.map D.int) with | some l => rowD (ssI (l ++ [z])) | none => rowD l) = _
    rw [intsOf_map]
    rfl
  unfold law13
  simp [seqG_at h.at', out, -List.map_map]
theorem law14_ok {z : Int} {row : List Int} {rest : List (List Int)} (hrr : rows = row :: rest) (h : Rw p rows n S) (hl : rows.length ≤ 5) (hfu : 1000 < fu) :
    law14 fu (ev ns p far y2 y3 y4 y5 y6 (some (.int z)) (some (.tup ((rows.map fun l => ssI (l ++ [z])).map rowD))) y9 y12 (some (rowD (leapF rows).1)) y14 y15 y16 y17) S = .ok .next (ev ns p far y2 y3 y4 y5 y6 (some (.int z)) (some (.tup ((rows.map fun l => ssI (l ++ [z])).map rowD))) y9 y12 (some (rowD (leapF rows).1)) y14 y15 y16 y17) S := by
  have h0 : rows ≠ [] := by rw [hrr]; simp
  have hv : (leapF rows).1.length ≤ 25 := by
    rw [due_eq hrr h.up]
    have := List.length_filter_le (fun x => decide (∀ l ∈ rows, x ∈ l)) row
    have := h.len row (by rw [hrr]; exact List.mem_cons_self)
    omega
  have up2 : ∀ r ∈ rows.map fun l => ssI (l ++ [z]), r.Pairwise (· < ·) := fun r hr => by
    obtain ⟨l, hl, rfl⟩ := List.mem_map.mp hr
    exact ssI_strict _
  have e1 := leap_at (fu := fu) (S := S) (rows := rows.map fun l => ssI (l ++ [z])) h.tb (by simpa using h0) (by simp; omega) up2 (fun r hr => by
    obtain ⟨l, hl, rfl⟩ := List.mem_map.mp hr
    have := ssI_len (l ++ [z])
    rw [List.length_append, List.length_singleton] at this
    have := h.len l hl
    omega) hfu
  have v1 : (leapF (rows.map fun l => ssI (l ++ [z]))).1 = ssI ((leapF rows).1 ++ [z]) := by
    refine up_ext (leapF_up (by simpa using h0) up2) (ssI_strict _) fun x => ?_
    rw [mem_leapF (by simpa using h0) up2, mem_ssI, List.mem_append, List.mem_singleton, mem_leapF h0 h.up]
    constructor
    · intro q
      by_cases c : x = z
      · exact .inr c
      · refine .inl fun l hl => ?_
        have := q _ (List.mem_map_of_mem (f := fun l : List Int => ssI (l ++ [z])) hl)
        rw [mem_ssI, List.mem_append, List.mem_singleton] at this
        exact this.resolve_right c
    · rintro (q | rfl) r hr
      · obtain ⟨l, hl, rfl⟩ := List.mem_map.mp hr
        rw [mem_ssI]
        exact List.mem_append_left _ (q l hl)
      · obtain ⟨l, hl, rfl⟩ := List.mem_map.mp hr
        rw [mem_ssI]
        simp
  have a1 := add_more (S := S) (z := z) (leapF rows).1 hv
  have a2 : sortSetTD [.tup (((leapF rows).1 ++ [z]).map D.int)] S = some (.lst ((ssI ((leapF rows).1 ++ [z])).map D.int)) := sortSetTD_tup (by rw [List.length_append, List.length_singleton]; omega)
  have a3 : tupD [.lst ((ssI ((leapF rows).1 ++ [z])).map D.int)] S = some (rowD (ssI ((leapF rows).1 ++ [z]))) := rfl
  have s1 := same_rows (S := S) v1
  unfold law14
  simp [e1, atI_zero, a1, a2, a3, s1, -List.map_append, -addD_tup, -tupD_lst, -List.map_map]
theorem law15_ok (h63 : ns.length ≤ 63) (hf : 0 < far) (h : Rw p rows n S) (hp : p ≠ 1) (hn : n ≤ 8000) :
    ∃ S' ex, law15 fu (ev ns p far y2 y3 y4 y5 y6 y7 y8 y9 y12 y13 y14 y15 y16 y17) S = .ok .next (ev ns p far y2 y3 y4 y5 y6 y7 y8 (some (rowD ex)) y12 y13 y14 y15 y16 y17) S' ∧ ex.Pairwise (· < ·) ∧ ex.length ≤ 5 ∧ Rw p rows (n + 10) S' := by
  obtain ⟨zs, S2, hz, _, tw2, d2, e2⟩ := lc_draws (k := 5) (j := 16) (m := far) (r0 := ev ns p far y2 y3 y4 y5 y6 y7 y8 y9 y12 y13 y14 y15 none y17) (te := mApp 3 FDraw (mCons (mVar 0) (mCons (mVar 1) (mCons (mVar 11) mNil)))) id h63 (by omega) h.tw (by omega) (fun d S z S1 e => by simp [e])
  refine ⟨S2, ssI zs, ?_, ssI_strict zs, by have := ssI_len zs; omega, h.dif hp d2 tw2⟩
  have hs : sortSetTD [.lst (zs.map D.int)] S2 = some (.lst ((ssI zs).map D.int)) := sortSetTD_lst (by omega)
  unfold law15
  simp [e2, hs, rowD]
theorem law16_ok {ex : List Int} (h : Rw p rows n S) (h0 : rows ≠ []) (hl : rows.length ≤ 5) (hx : ex.Pairwise (· < ·)) (hxl : ex.length ≤ 5) (hfu : 1000 < fu) :
    law16 fu (ev ns p far y2 y3 y4 y5 y6 y7 y8 (some (rowD ex)) y12 (some (rowD (leapF rows).1)) y14 y15 y16 y17) S = .ok .next (ev ns p far y2 y3 y4 y5 y6 y7 y8 (some (rowD ex)) y12 (some (rowD (leapF rows).1)) y14 y15 y16 y17) S := by
  have up2 : ∀ r ∈ rows ++ [ex], r.Pairwise (· < ·) := fun r hr => by
    rcases List.mem_append.mp hr with q | q
    · exact h.up r q
    · rw [List.mem_singleton.mp q]; exact hx
  have e1 := leap_at (fu := fu) (S := S) (rows := rows ++ [ex]) h.tb (by simp) (by simp; omega) up2 (fun r hr => by
    rcases List.mem_append.mp hr with q | q
    · have := h.len r q; omega
    · rw [List.mem_singleton.mp q]; omega) hfu
  have ad2 : addD (.tup (rows.map rowD)) (.tup [rowD ex]) S = some (.tup ((rows ++ [ex]).map rowD)) := by
    rw [addD_tup, if_pos (by simp; omega), List.map_append]
    rfl
  have v1 : (leapF (rows ++ [ex])).1 = (leapF rows).1.filter fun x => decide (x ∈ ex) := by
    refine up_ext (leapF_up (by simp) up2) ((leapF_up h0 h.up).filter _) fun x => ?_
    rw [mem_leapF (by simp) up2, List.mem_filter, mem_leapF h0 h.up, decide_eq_true_eq]
    constructor
    · intro q
      exact ⟨fun l hl => q l (List.mem_append_left _ hl), q ex (by simp)⟩
    · rintro ⟨q1, q2⟩ l hl
      rcases List.mem_append.mp hl with z | z
      · exact q1 l z
      · rw [List.mem_singleton.mp z]; exact q2
  have lc : lcL (tgN 15) (mT (mBin inTD (mVar 15) (mVar 9))) (mVar 15) (ev ns p far y2 y3 y4 y5 y6 y7 y8 (some (rowD ex)) y12 (some (rowD (leapF rows).1)) y14 none y16 y17) ((leapF rows).1.map D.int) S = .ok (((leapF rows).1.filter fun x => decide (x ∈ ex)).map D.int) S := by
    rw [lc_pure (fun d => decide (d ∈ ex.map D.int)) id ((leapF rows).1.map D.int) (fun d hd => by
      obtain ⟨x, hx, rfl⟩ := List.mem_map.mp hd
      refine ⟨_, rfl, ?_, fun _ => ?_⟩
      · simp [inTD_row]
      · simp)]
    congr 1
    rw [List.map_id, List.filter_map]
    congr 1
    refine List.filter_congr fun x _ => ?_
    simp [D.int.injEq]
  have sq : seqD (rowD (leapF rows).1) = some ((leapF rows).1.map D.int) := rfl
  have tr : tupD [.lst (((leapF rows).1.filter fun x => decide (x ∈ ex)).map D.int)] S = some (rowD ((leapF rows).1.filter fun x => decide (x ∈ ex))) := rfl
  have s1 := same_rows (S := S) v1
  unfold law16
  simp [h.at', ad2, e1, atI_zero, sq, lc, tr, s1, -addD_tup, -tupD_lst, -List.map_append]
theorem lawB_ok (h63 : ns.length ≤ 63) {y : Option D} {r : Dv.Env} (hr : r = [some (.scr ns), some (.loc 1), y2, y3, y4, y5, y6, y7, y8, y9, y10, y11, y12, y13, y14, y15, y16, y17]) (h0 : S[0]? = some (.tbl "leap" tq)) (tw : Twn 1 n S) (hn : n ≤ 5000) (hfu : 1000 < fu) :
    ∃ S' p far y3' y4' y5' y6' y7' y8' y9' y12' y13' y14', lawB fu r S = .ok .next (ev ns p far y2 y3' y4' y5' y6' y7' y8' y9' y12' y13' y14' y15 y16 y17) S' ∧ S'[0]? = some (.tbl "leap" tq) ∧ Twn 1 (n + 300) S' := by
  subst hr
  have hlS : 1 < S.length := by
    obtain ⟨ts, a, b⟩ := tw
    exact (List.getElem?_eq_some_iff.mp b).1
  have twA : Twn 1 n (S ++ [.lst []]) := by
    obtain ⟨ts, a, b⟩ := tw
    exact ⟨ts, a, by rw [List.getElem?_append_left hlS]; exact b⟩
  obtain ⟨i, d, S1, hd, tw1, d1, e1⟩ := pick_tw (seq := .lst [.int 4, .int 9, .int 40]) h63 twA (by omega) (.inl rfl) (by simp) (fun m => rfl)
  obtain ⟨far, hf, rfl⟩ : ∃ k : Nat, 0 < k ∧ d = .int k := by
    match i, hd with
    | 0, hd => cases hd; exact ⟨4, by omega, rfl⟩
    | 1, hd => cases hd; exact ⟨9, by omega, rfl⟩
    | 2, hd => cases hd; exact ⟨40, by omega, rfl⟩
    | i + 3, hd => cases hd
  have hp0 : S.length ≠ 0 := by omega
  have hp1 : S.length ≠ 1 := by omega
  have r1 : Rw S.length [] (n + 2) S1 := ⟨by rw [d1.other (by decide), List.getElem?_append_left (by omega)]; exact h0, tw1, by rw [d1.other (by omega), List.getElem?_append_right (Nat.le_refl _), Nat.sub_self]; rfl, by simp, by simp, by simp⟩
  obtain ⟨m, S2, hm, tw2, d2, e2⟩ := draw_tw (many := 5) h63 tw1 (by omega) (by decide)
  have r2 := r1.dif hp1 d2 tw2
  have q0 : law0 fu [some (.scr ns), some (.loc 1), y2, y3, y4, y5, y6, y7, y8, y9, y10, y11, y12, y13, y14, y15, y16, y17] S = .ok .next (ev ns S.length far y2 y3 y4 y5 y6 y7 y8 y9 y12 y13 y14 y15 y16 y17) S1 := by
    unfold law0
    simp [e1]
  obtain ⟨S3, y3', y12', rows, e3, hrl, r3⟩ := rows_loop h63 (y2 := y2) (y3 := y3) (y4 := y4) (y5 := y5) (y6 := y6) (y7 := y7) (y8 := y8) (y9 := y9) (y12 := y12) (y13 := y13) (y14 := y14) (y15 := y15) (y16 := y16) (y17 := y17) (m := m + 1) hf (by omega) hp0 hp1 r2 (by omega)
  have q1 : law1 fu (ev ns S.length far y2 y3 y4 y5 y6 y7 y8 y9 y12 y13 y14 y15 y16 y17) S1 = .ok .next (ev ns S.length far y2 y3' y4 y5 y6 y7 y8 y9 y12' y13 y14 y15 y16 y17) S3 := by
    have hm2 : 1 + (m : Int) = ((m + 1 : Nat) : Int) := by omega
    have hm3 : -100000 ≤ ((m + 1 : Nat) : Int) := by omega
    have hm4 : ((m + 1 : Nat) : Int) ≤ 100000 := by omega
    have rg : rng1 [.int (1 + (m : Int))] = some (rng 0 (m + 1)) := by
      rw [rng1_int, hm2, if_pos ⟨hm3, hm4⟩]
      rfl
    unfold law1
    simp [e2, rg, e3, -rng1_int]
  obtain ⟨row, rest, hrr⟩ : ∃ row rest, rows = row :: rest := by
    cases rows with
    | nil => simp at hrl
    | cons a b => exact ⟨a, b, rfl⟩
  have hr0 : rows ≠ [] := by rw [hrr]; simp
  have hr5 : rows.length ≤ 5 := by omega
  have r3' : Rw S.length rows (n + 264) S3 := ⟨r3.tb, r3.tw.mono (by omega), r3.at', r3.up, r3.len, r3.ne⟩
  have q2 := law2_ok (ns := ns) (far := far) (fu := fu) (y2 := y2) (y3 := y3') (y4 := y4) (y5 := y5) (y6 := y6) (y7 := y7) (y8 := y8) (y9 := y9) (y12 := y12') (y13 := y13) (y14 := y14) (y15 := y15) (y16 := y16) (y17 := y17) r3' hr0 hr5 hfu
  have q3 := fun y13 y14 => law3_ok (ns := ns) (far := far) (fu := fu) (y2 := y2) (y3 := y3') (y4 := y4) (y5 := y5) (y6 := y6) (y7 := y7) (y8 := y8) (y9 := y9) (y12 := y12') (y13 := y13) (y14 := y14) (y15 := y15) (y16 := y16) (y17 := y17) hrr r3'
  have q4 := fun y14 => law4_ok (S := S3) (rows := rows) (p := S.length) (ns := ns) (far := far) (fu := fu) (y2 := y2) (y3 := y3') (y5 := y5) (y6 := y6) (y7 := y7) (y8 := y8) (y9 := y9) (y12 := y12') (y14 := y14) (y15 := y15) (y16 := y16) (y17 := y17)
  have q5 := fun y4 y13 => law5_ok (ns := ns) (far := far) (fu := fu) (y2 := y2) (y3 := y3') (y4 := y4) (y5 := y5) (y6 := y6) (y7 := y7) (y8 := y8) (y9 := y9) (y12 := y12') (y13 := y13) (y15 := y15) (y16 := y16) (y17 := y17) r3' hr0 hr5
  obtain ⟨S6, q6, r6⟩ := law6_ok (ns := ns) (far := far) (fu := fu) (y2 := y2) (y3 := y3') (y4 := some (.lst ((leapF rows).1.map D.int))) (y5 := y5) (y6 := y6) (y7 := y7) (y8 := y8) (y9 := y9) (y12 := y12') (y14 := some (.int (leapF rows).2)) (y15 := y15) (y16 := y16) (y17 := y17) h63 r3' hp1 (by omega) hr0 hr5 hfu
  have q7 := fun y4 y13 y14 => law7_ok (ns := ns) (far := far) (fu := fu) (y2 := y2) (y3 := y3') (y4 := y4) (y5 := y5) (y6 := y6) (y7 := y7) (y8 := y8) (y9 := y9) (y12 := y12') (y13 := y13) (y14 := y14) (y15 := y15) (y16 := y16) (y17 := y17) hrr r6 hfu
  have q8 := fun y4 y14 => law8_ok (ns := ns) (far := far) (fu := fu) (y2 := y2) (y3 := y3') (y4 := y4) (y5 := y5) (y6 := y6) (y7 := y7) (y8 := y8) (y9 := y9) (y12 := y12') (y14 := y14) (y15 := y15) (y16 := y16) (y17 := y17) r6 hr0 hr5 hfu
  obtain ⟨S9, b, q9, r9⟩ := law9_ok (ns := ns) (far := far) (fu := fu) (y2 := y2) (y3 := y3') (y4 := some (.lst ((leapF rows).1.map D.int))) (y5 := y5) (y6 := y6) (y7 := y7) (y8 := y8) (y9 := y9) (y12 := y12') (y13 := some (rowD (leapF rows).1)) (y14 := some (.int (leapF rows).2)) (y15 := y15) (y16 := y16) (y17 := y17) h63 r6 hp1 (by omega)
  have q10 := fun y4 y13 y14 => law10_ok (ns := ns) (far := far) (fu := fu) (b := b) (y2 := y2) (y3 := y3') (y4 := y4) (y6 := y6) (y7 := y7) (y8 := y8) (y9 := y9) (y12 := y12') (y13 := y13) (y14 := y14) (y15 := y15) (y16 := y16) (y17 := y17) r9
  have q11 := fun y4 => law11_ok (ns := ns) (far := far) (fu := fu) (b := b) (y2 := y2) (y3 := y3') (y4 := y4) (y7 := y7) (y8 := y8) (y9 := y9) (y12 := y12') (y15 := y15) (y16 := y16) (y17 := y17) r9 hr0 hr5 hfu
  obtain ⟨S12, z, q12, r12⟩ := law12_ok (ns := ns) (fu := fu) (y2 := y2) (y3 := y3') (y4 := some (.lst ((leapF rows).1.map D.int))) (y5 := some (.int b)) (y6 := some (.tup ((rows.map (List.map (· + b))).map rowD))) (y7 := y7) (y8 := y8) (y9 := y9) (y12 := y12') (y13 := some (rowD (leapF rows).1)) (y14 := some (.int (leapF rows).2)) (y15 := y15) (y16 := y16) (y17 := y17) h63 hf r9 hp1 (by omega)
  have q13 := fun y4 y5 y6 y13 y14 => law13_ok (ns := ns) (far := far) (fu := fu) (z := z) (y2 := y2) (y3 := y3') (y4 := y4) (y5 := y5) (y6 := y6) (y8 := y8) (y9 := y9) (y12 := y12') (y13 := y13) (y14 := y14) (y15 := y15) (y16 := y16) (y17 := y17) r12
  have q14 := fun y4 y5 y6 y14 => law14_ok (ns := ns) (far := far) (fu := fu) (z := z) (y2 := y2) (y3 := y3') (y4 := y4) (y5 := y5) (y6 := y6) (y9 := y9) (y12 := y12') (y14 := y14) (y15 := y15) (y16 := y16) (y17 := y17) hrr r12 hr5 hfu
  obtain ⟨S15, ex, q15, x1, x2, r15⟩ := law15_ok (ns := ns) (fu := fu) (y2 := y2) (y3 := y3') (y4 := some (.lst ((leapF rows).1.map D.int))) (y5 := some (.int b)) (y6 := some (.tup ((rows.map (List.map (· + b))).map rowD))) (y7 := some (.int z)) (y8 := some (.tup ((rows.map fun l => ssI (l ++ [z])).map rowD))) (y9 := y9) (y12 := y12') (y13 := some (rowD (leapF rows).1)) (y14 := some (.int (leapF rows).2)) (y15 := y15) (y16 := y16) (y17 := y17) h63 hf r12 hp1 (by omega)
  have q16 := fun y4 y5 y6 y7 y8 y14 => law16_ok (ns := ns) (far := far) (fu := fu) (y2 := y2) (y3 := y3') (y4 := y4) (y5 := y5) (y6 := y6) (y7 := y7) (y8 := y8) (y12 := y12') (y14 := y14) (y15 := y15) (y16 := y16) (y17 := y17) r15 hr0 hr5 x1 x2 hfu
  refine ⟨S15, S.length, far, y3', some (.lst ((leapF rows).1.map D.int)), some (.int b), some (.tup ((rows.map (List.map (· + b))).map rowD)), some (.int z), some (.tup ((rows.map fun l => ssI (l ++ [z])).map rowD)), some (rowD ex), y12', some (rowD (leapF rows).1), some (.int (leapF rows).2), ?_, r15.tb, r15.tw.mono (by omega)⟩
  · unfold lawB
    simp only [sSeq_ap]
    rw [q0]
    simp only []
    rw [q1]
    simp only []
    rw [q2]
    simp only []
    rw [q3]
    simp only []
    rw [q4]
    simp only []
    rw [q5]
    simp only []
    rw [q6]
    simp only []
    rw [q7]
    simp only []
    rw [q8]
    simp only []
    rw [q9]
    simp only []
    rw [q10]
    simp only []
    rw [q11]
    simp only []
    rw [q12]
    simp only []
    rw [q13]
    simp only []
    rw [q14]
    simp only []
    rw [q15]
    simp only []
    exact q16 _ _ _ _ _ _
theorem law_true (ns : List Int) (h : ns.length ≤ 63) : ∃ fu S, F_law fu [.scr ns] [.tbl "leap" tq] = .ok (.bl true) S := by
  obtain ⟨r1, S1, ea, ⟨y2, y3, y4, y5, y6, y7, y8, y9, y10, y11, y12, y13, y14, y15, y16, y17, rfl⟩, h0, tw⟩ := loop_inv (gm := tgN 2) (b := lawB 2000)
    (fun i r S' => (∃ y2 y3 y4 y5 y6 y7 y8 y9 y10 y11 y12 y13 y14 y15 y16 y17, r = [some (.scr ns), some (.loc 1), y2, y3, y4, y5, y6, y7, y8, y9, y10, y11, y12, y13, y14, y15, y16, y17]) ∧ S'[0]? = some (.tbl "leap" tq) ∧ Twn 1 (300 * i) S') (rng 0 10) 0 [some (.scr ns), some (.loc 1), none, none, none, none, none, none, none, none, none, none, none, none, none, none, none, none] [.tbl "leap" tq, .lst []] (fun i d r S1 hd hi => by
      obtain ⟨hi2, rfl⟩ := rng0_get hd
      obtain ⟨⟨y2, y3, y4, y5, y6, y7, y8, y9, y10, y11, y12, y13, y14, y15, y16, y17, rfl⟩, h0, tw⟩ := hi
      obtain ⟨S', p, far, y3', y4', y5', y6', y7', y8', y9', y12', y13', y14', e, h0', tw'⟩ := lawB_ok (fu := 2000) (y := none) h (y2 := some (.int i)) rfl h0 tw (by omega) (by omega)
      exact ⟨_, _, S', rfl, .inl e, ⟨_, _, _, _, _, _, _, _, _, _, _, _, _, _, _, _, rfl⟩, h0', tw'.mono (by omega)⟩) ⟨⟨_, _, _, _, _, _, _, _, _, _, _, _, _, _, _, _, rfl⟩, rfl, ⟨[], by simp, rfl⟩⟩
  have hb : m_law 2000 (frame 18 [.scr ns]) [.tbl "leap" tq] = .ok (.ret (.bl true)) [some (.scr ns), some (.loc 1), y2, y3, y4, y5, y6, y7, y8, y9, y10, y11, y12, y13, y14, y15, y16, y17] S1 := by
    rw [law_eq]
    have ef : frame 18 [.scr ns] = [some (.scr ns), none, none, none, none, none, none, none, none, none, none, none, none, none, none, none, none, none] := rfl
    rw [ef]
    simp [ea]
  obtain ⟨S, e⟩ := fin_tbl (rho := [some (.scr ns), some (.loc 1), y2, y3, y4, y5, y6, y7, y8, y9, y10, y11, y12, y13, y14, y15, y16, y17]) (d := .bl true) h0 rfl
  refine ⟨2000, S, ?_⟩
  show finT _ (m_law 2000 _ _) = _
  rw [hb]
  exact e
end
end Law
namespace Law
open PySem L2 Dv
/-! ### what the top has left -/
structure Tx (K : PySem.W.Frag) (mg : Str → Option Value) (base : Heap) (a_first_at a_leap a__law_draw a__law_pick a__law_same a__law_mixed a_law tC_leap tP_leap : Addr) (d_first_at d_leap d__law_draw d__law_pick d__law_same d__law_mixed d_law : FuncData) : Prop where
  t_leap : LamX.TabB base mg tC_leap tP_leap
  u_leap : TblAt K mg "leap" tP_leap
  c_leap : d_leap.code = .ref tC_leap
  z_abs : mg "abs" = none
  z_all : mg "all" = none
  z_bool : mg "bool" = none
  z_int : mg "int" = none
  z_isinstance : mg "isinstance" = none
  z_len : mg "len" = none
  z_list : mg "list" = none
  z_max : mg "max" = none
  z_min : mg "min" = none
  z_range : mg "range" = none
  z_set : mg "set" = none
  z_sorted : mg "sorted" = none
  z_str : mg "str" = none
  z_tuple : mg "tuple" = none
  z_zip : mg "zip" = none
  F_first_at : Fun K "first_at" "first_at" s_first_at a_first_at d_first_at
  b_first_at : Binds K d_first_at P_first_at []
  g_first_at : mg "first_at" = some (.ref a_first_at)
  F_leap : Fun K "leap" "leap" s_leap a_leap d_leap
  b_leap : Binds K d_leap P_leap []
  g_leap : mg "leap" = some (.ref a_leap)
  F__law_draw : Fun K "_law_draw" "_law_draw" s__law_draw a__law_draw d__law_draw
  b__law_draw : Binds K d__law_draw P__law_draw []
  g__law_draw : mg "_law_draw" = some (.ref a__law_draw)
  F__law_pick : Fun K "_law_pick" "_law_pick" s__law_pick a__law_pick d__law_pick
  b__law_pick : Binds K d__law_pick P__law_pick []
  g__law_pick : mg "_law_pick" = some (.ref a__law_pick)
  F__law_same : Fun K "_law_same" "_law_same" s__law_same a__law_same d__law_same
  b__law_same : Binds K d__law_same P__law_same []
  g__law_same : mg "_law_same" = some (.ref a__law_same)
  F__law_mixed : Fun K "_law_mixed" "_law_mixed" s__law_mixed a__law_mixed d__law_mixed
  b__law_mixed : Binds K d__law_mixed P__law_mixed []
  g__law_mixed : mg "_law_mixed" = some (.ref a__law_mixed)
  F_law : Fun K "law" "law" s_law a_law d_law
  b_law : Binds K d_law P_law []
  g_law : mg "law" = some (.ref a_law)
section
variable {P : Program} {w : World} {K : PySem.W.Frag} {mg : Str → Option Value} {base : Heap} {a_first_at a_leap a__law_draw a__law_pick a__law_same a__law_mixed a_law tC_leap tP_leap : Addr} {d_first_at d_leap d__law_draw d__law_pick d__law_same d__law_mixed d_law : FuncData}
theorem ok_first_at (T : Tx K mg base a_first_at a_leap a__law_draw a__law_pick a__law_same a__law_mixed a_law tC_leap tP_leap d_first_at d_leap d__law_draw d__law_pick d__law_same d__law_mixed d_law) (fu : Nat) : FnOk P w K mg base (L2.CX P w) 1 a_first_at d_first_at P_first_at (spD K mg 3 (F_first_at fu)) := by
  refine fnT (N := N_first_at) (b := m_first_at fu) T.F_first_at sc_first_at fun cdv A outer s H E hr => ?_
  have tk : Takes (cxOf (L2.CX P w) P w K mg base N_first_at "first_at" (defScope s_first_at) a_first_at cdv A outer s H E) (fun c d _ H => E c d H) := takes_of rfl rfl rfl rfl
  exact (js_cons (js_par (i := 3) (j := 4) rfl sc_first_at.nd rfl rfl (by decide) rfl rfl (ja_cons (jv 1) (ja_cons (j_callB call_len pok_len (by rfl) T.z_len (by decide +kernel) (ja_cons (jv 0) ja_nil)) ja_nil)) (by rfl))
    (js_cons (js_while fu (passes_of rfl) (jt_cmp op_ltA pok_lt (nomark _) (jv 3) (jv 4)) (js_cons (js_set (i := 5) sc_first_at.nd rfl (by first | exact Or.inl rfl | exact Or.inr rfl) (j_bin op_fdiv pok_fdiv (j_bin op_addA pok_add (jv 3) (jv 4)) j_int))
    (js_one (js_if (jt_cmp op_ltA pok_lt (nomark _) (j_ix ix_seq pok_ix (fun _ _ => rfl) (jv 0) (jv 5)) (jv 2)) (js_one (js_set (i := 3) sc_first_at.nd rfl (by first | exact Or.inl rfl | exact Or.inr rfl) (j_bin op_addA pok_add (jv 5) j_int))) (js_one (js_set (i := 4) sc_first_at.nd rfl (by first | exact Or.inl rfl | exact Or.inr rfl) (jv 5)))))))
    (js_one (js_ret (jv 3)))))
theorem ok_leap (T : Tx K mg base a_first_at a_leap a__law_draw a__law_pick a__law_same a__law_mixed a_law tC_leap tP_leap d_first_at d_leap d__law_draw d__law_pick d__law_same d__law_mixed d_law) (fu : Nat) : FnOk P w K mg base (L2.CX P w) 2 a_leap d_leap P_leap (spD K mg 1 (F_leap fu)) := by
  refine fnTC (N := N_leap) (b := m_leap fu) T.F_leap sc_leap fun A outer s H E hr => ?_
  have tk : Takes (cxOf (L2.CX P w) P w K mg base N_leap "leap" (defScope s_leap) a_leap d_leap.code A outer s H E) (fun c d _ H => E c d H) := takes_of rfl rfl rfl rfl
  exact (js_cons (js_if (jt_not (jt_tru (j_callB (cr_allA rfl) pok_allA (by rfl) T.z_all (by decide +kernel) (ja_cons (jv 0) ja_nil)))) (js_one (js_ret (j_tup (ja_cons (j_tup ja_nil) (ja_cons j_int ja_nil))))) js_nil)
    (js_cons (js_set (i := 1) sc_leap.nd rfl (by first | exact Or.inl rfl | exact Or.inr rfl) (j_sortLam T.t_leap T.u_leap T.c_leap rfl hr (by rfl) T.z_sorted (by decide +kernel) (ja_cons (j_lstRng rfl (by rfl) T.z_list (by decide +kernel) (by rfl) T.z_range (by decide +kernel) (ja_cons (j_callB call_len pok_len (by rfl) T.z_len (by decide +kernel) (ja_cons (jv 0) ja_nil)) ja_nil)) ja_nil) rfl rfl rfl rfl rfl rfl (by decide +kernel) rfl rfl (by show ∀ n ∈ (_ : List (Str × NameKind)), n.2 = .free → (defScope s_leap).names.lookup n.1 = some .cell; decide +kernel) (fun _ _ _ _ _ => rfl)))
    (js_cons (js_asg (j_tup (ja_cons (j_binN op_mulA pok_repN (j_lst (ja_cons j_int ja_nil)) (j_callB call_len pok_len (by rfl) T.z_len (by decide +kernel) (ja_cons (jv 0) ja_nil))) (ja_cons (j_newL ja_nil) (ja_cons j_int (ja_cons j_int ja_nil))))) (jg_tup rfl (jgs_cons (jg_name (i := 3) sc_leap.nd rfl (by first | exact Or.inl rfl | exact Or.inr rfl)) (jgs_cons (jg_name (i := 4) sc_leap.nd rfl (by first | exact Or.inl rfl | exact Or.inr rfl)) (jgs_cons (jg_name (i := 5) sc_leap.nd rfl (by first | exact Or.inl rfl | exact Or.inr rfl)) (jgs_cons (jg_name (i := 6) sc_leap.nd rfl (by first | exact Or.inl rfl | exact Or.inr rfl)) jgs_nil))))))
    (js_cons (js_set (i := 2) sc_leap.nd rfl (by first | exact Or.inl rfl | exact Or.inr rfl) (j_callB (cr_max rfl) pok_max (by rfl) T.z_max (by decide +kernel) (ja_cons (j_lc (own := [("row", 8)]) (sl := [8]) (by decide) rfl sc_leap.nd (ji_seq (jv 0)) (blkOk_by (own := [("row", 8)]) (N := N_leap) (sc := defScope s_leap) (by decide +kernel)) (fun _ _ _ _ _ => (jg_name (i := 8) sc_leap.nd rfl (by first | exact Or.inl rfl | exact Or.inr rfl))) (fun _ _ _ _ _ => jts_nil) (fun _ _ _ _ _ => (j_ix ix_seq pok_ix (fun _ _ => rfl) (jv 8) j_int))) ja_nil)))
    (js_one (js_while fu (passes_of rfl) (jt_tru j_bl) (js_cons (js_set (i := 7) sc_leap.nd rfl (by first | exact Or.inl rfl | exact Or.inr rfl) (j_ix ix_seq pok_ix (fun _ _ => rfl) (jv 1) (j_bin op_mod pok_mod (jv 6) (j_callB call_len pok_len (by rfl) T.z_len (by decide +kernel) (ja_cons (jv 0) ja_nil)))))
    (js_cons (js_set (i := 8) sc_leap.nd rfl (by first | exact Or.inl rfl | exact Or.inr rfl) (j_ix ix_seq pok_ix (fun _ _ => rfl) (jv 0) (jv 7)))
    (js_cons (js_if (jt_cmp (op_eqA hr.units) pok_eq (nomark _) (j_ix ix_seq pok_ix (fun _ _ => rfl) (jv 8) (j_ix ix_seq pok_ix (fun _ _ => rfl) (jv 3) (jv 7))) (jv 2)) (js_cons (js_drop (j_append (jv 4) (jv 2)))
    (js_one (js_augIx ip_add (jv 3) (jv 7) j_int))) (js_one (js_setIx (j_call (ok_first_at T fu) (hr.mono (by decide)) (by rfl) T.g_first_at T.F_first_at.kp T.b_first_at tk (ja_cons (jv 8) (ja_cons (j_ix ix_seq pok_ix (fun _ _ => rfl) (jv 3) (jv 7)) (ja_cons (jv 2) ja_nil)))) (jv 3) (jv 7))))
    (js_cons (js_augI (i := 5) sc_leap.nd rfl (by first | exact Or.inl rfl | exact Or.inr rfl) ip_add j_int)
    (js_cons (js_if (jt_cmp (op_eqA hr.units) pok_eq (nomark _) (j_ix ix_seq pok_ix (fun _ _ => rfl) (jv 3) (jv 7)) (j_callB call_len pok_len (by rfl) T.z_len (by decide +kernel) (ja_cons (jv 8) ja_nil))) (js_one (js_ret (j_tup (ja_cons (j_callT call_tuple_of pok_tup (by rfl) T.z_tuple (by decide +kernel) (ja_cons (jv 4) ja_nil)) (ja_cons (jv 5) ja_nil))))) js_nil)
    (js_cons (js_set (i := 2) sc_leap.nd rfl (by first | exact Or.inl rfl | exact Or.inr rfl) (j_ix ix_seq pok_ix (fun _ _ => rfl) (jv 8) (j_ix ix_seq pok_ix (fun _ _ => rfl) (jv 3) (jv 7))))
    (js_one (js_augI (i := 6) sc_leap.nd rfl (by first | exact Or.inl rfl | exact Or.inr rfl) ip_add j_int))))))))))))))
theorem ok__law_draw (T : Tx K mg base a_first_at a_leap a__law_draw a__law_pick a__law_same a__law_mixed a_law tC_leap tP_leap d_first_at d_leap d__law_draw d__law_pick d__law_same d__law_mixed d_law) (fu : Nat) : FnOk P w K mg base (L2.CX P w) 1 a__law_draw d__law_draw P__law_draw (spD K mg 3 (F__law_draw fu)) := by
  refine fnT (N := N__law_draw) (b := m__law_draw fu) T.F__law_draw sc__law_draw fun cdv A outer s H E hr => ?_
  have tk : Takes (cxOf (L2.CX P w) P w K mg base N__law_draw "_law_draw" (defScope s__law_draw) a__law_draw cdv A outer s H E) (fun c d _ H => E c d H) := takes_of rfl rfl rfl rfl
  exact (js_cons (js_if (jt_not (jt_tru (jv 1))) (js_one (js_drop (j_append (jv 1) (j_callB (cr_max rfl) pok_max (by rfl) T.z_max (by decide +kernel) (ja_cons (j_bin op_addA pok_add (j_lc (own := [("cell", 4)]) (sl := [4]) (by decide) rfl sc__law_draw.nd (ji_seq (jv 0)) (blkOk_by (own := [("cell", 4)]) (N := N__law_draw) (sc := defScope s__law_draw) (by decide +kernel)) (fun _ _ _ _ _ => (jg_name (i := 4) sc__law_draw.nd rfl (by first | exact Or.inl rfl | exact Or.inr rfl))) (fun _ _ _ _ _ => jts_nil) (fun _ _ _ _ _ => (j_callB call_abs pok_abs (by rfl) T.z_abs (by decide +kernel) (ja_cons (jv 4) ja_nil)))) (j_lst (ja_cons j_int ja_nil))) ja_nil))))) js_nil)
    (js_cons (js_drop (j_append (jv 1) j_int))
    (js_cons (js_set (i := 3) sc__law_draw.nd rfl (by first | exact Or.inl rfl | exact Or.inr rfl) (j_callB call_len pok_len (by rfl) T.z_len (by decide +kernel) (ja_cons (jv 1) ja_nil)))
    (js_cons (js_set (i := 4) sc__law_draw.nd rfl (by first | exact Or.inl rfl | exact Or.inr rfl) (j_if (jt_tru (jv 0)) (j_ix ix_seq pok_ix (fun _ _ => rfl) (jv 0) (j_bin op_mod pok_mod (jv 3) (j_callB call_len pok_len (by rfl) T.z_len (by decide +kernel) (ja_cons (jv 0) ja_nil)))) j_int))
    (js_cons (js_set (i := 5) sc__law_draw.nd rfl (by first | exact Or.inl rfl | exact Or.inr rfl) (j_bin op_mod pok_mod (j_ix ix_seq pok_ix (fun _ _ => rfl) (jv 1) j_int) j_int))
    (js_cons (js_setIx (j_bin op_fdiv pok_fdiv (j_ix ix_seq pok_ix (fun _ _ => rfl) (jv 1) j_int) j_int) (jv 1) j_int)
    (js_cons (js_set (i := 6) sc__law_draw.nd rfl (by first | exact Or.inl rfl | exact Or.inr rfl) (j_bin op_mod pok_mod (j_bin op_addA pok_add (j_bin op_addA pok_add (jv 4) (j_bin op_mulA pok_mul j_int (jv 5))) (j_bin op_mulA pok_mul j_int (jv 3))) j_int))
    (js_cons (js_set (i := 6) sc__law_draw.nd rfl (by first | exact Or.inl rfl | exact Or.inr rfl) (j_bin op_mod pok_mod (j_bin op_mulA pok_mul (j_bin op_mod pok_mod (j_bin op_mulA pok_mul (jv 6) (jv 6)) j_int) j_int) j_int))
    (js_cons (js_set (i := 7) sc__law_draw.nd rfl (by first | exact Or.inl rfl | exact Or.inr rfl) (j_bin op_mod pok_mod (j_bin op_mulA pok_mul (j_bin op_mod pok_mod (j_bin op_mulA pok_mul (jv 6) (jv 6)) j_int) j_int) j_int))
    (js_one (js_ret (j_bin op_mod pok_mod (j_bin op_addA pok_add (j_bin op_mulA pok_mul (j_bin op_fdiv pok_fdiv (jv 6) j_int) j_int) (j_bin op_fdiv pok_fdiv (jv 7) j_int)) (jv 2)))))))))))))
theorem ok__law_pick (T : Tx K mg base a_first_at a_leap a__law_draw a__law_pick a__law_same a__law_mixed a_law tC_leap tP_leap d_first_at d_leap d__law_draw d__law_pick d__law_same d__law_mixed d_law) (fu : Nat) : FnOk P w K mg base (L2.CX P w) 2 a__law_pick d__law_pick P__law_pick (spD K mg 3 (F__law_pick fu)) := by
  refine fnT (N := N__law_pick) (b := m__law_pick fu) T.F__law_pick sc__law_pick fun cdv A outer s H E hr => ?_
  have tk : Takes (cxOf (L2.CX P w) P w K mg base N__law_pick "_law_pick" (defScope s__law_pick) a__law_pick cdv A outer s H E) (fun c d _ H => E c d H) := takes_of rfl rfl rfl rfl
  exact (js_one (js_ret (j_ix ix_seq pok_ix (fun _ _ => rfl) (jv 2) (j_call (ok__law_draw T fu) (hr.mono (by decide)) (by rfl) T.g__law_draw T.F__law_draw.kp T.b__law_draw tk (ja_cons (jv 0) (ja_cons (jv 1) (ja_cons (j_callB call_len pok_len (by rfl) T.z_len (by decide +kernel) (ja_cons (jv 2) ja_nil)) ja_nil)))))))
theorem ok__law_same (T : Tx K mg base a_first_at a_leap a__law_draw a__law_pick a__law_same a__law_mixed a_law tC_leap tP_leap d_first_at d_leap d__law_draw d__law_pick d__law_same d__law_mixed d_law) (fu : Nat) : ∀ n : Nat, FnOk P w K mg base (L2.CX P w) (1 + n) a__law_same d__law_same P__law_same (spD K mg 2 (F__law_same fu n))
  | 0 => fn_bad
  | n + 1 => by
    have ih := ok__law_same T fu n
    refine fnT (k := 1 + n) (N := N__law_same) (b := m__law_same fu (F__law_same fu n)) T.F__law_same sc__law_same fun cdv A outer s H E hr => ?_
    have tk : Takes (cxOf (L2.CX P w) P w K mg base N__law_same "_law_same" (defScope s__law_same) a__law_same cdv A outer s H E) (fun c d _ H => E c d H) := takes_of rfl rfl rfl rfl
    exact (js_cons (js_if (jt_cmp op_isN pok_isN (nomark _) (jv 1) j_non) (js_one (js_ret (j_cmp op_isN pok_isN (nomark _) (jv 0) j_non))) js_nil)
    (js_cons (js_if (jt_tru (j_callB call_isi pok_isi (by rfl) T.z_isinstance (by decide +kernel) (ja_cons (jv 1) (ja_cons (j_ty (by rfl) T.z_bool (by decide +kernel)) ja_nil)))) (js_one (js_ret (j_and (j_callB call_isi pok_isi (by rfl) T.z_isinstance (by decide +kernel) (ja_cons (jv 0) (ja_cons (j_ty (by rfl) T.z_bool (by decide +kernel)) ja_nil))) (j_one (j_cmp (op_eqA hr.units) pok_eq (nomark _) (jv 0) (jv 1)))))) js_nil)
    (js_cons (js_if (jt_tru (j_callB call_isi pok_isi (by rfl) T.z_isinstance (by decide +kernel) (ja_cons (jv 1) (ja_cons (j_ty (by rfl) T.z_tuple (by decide +kernel)) ja_nil)))) (js_cons (js_if (jw_pt (jw_or (jt_not (jt_tru (j_callB call_isi pok_isi (by rfl) T.z_isinstance (by decide +kernel) (ja_cons (jv 0) (ja_cons (j_ty (by rfl) T.z_tuple (by decide +kernel)) ja_nil))))) (jw_or1 (jt_cmp (op_neA hr.units) pok_ne (nomark _) (j_callB call_len pok_len (by rfl) T.z_len (by decide +kernel) (ja_cons (jv 0) ja_nil)) (j_callB call_len pok_len (by rfl) T.z_len (by decide +kernel) (ja_cons (jv 1) ja_nil)))))) (js_one (js_ret j_bl)) js_nil)
    (js_one (js_ret (j_callB (cr_all rfl) pok_all (by rfl) T.z_all (by decide +kernel) (ja_cons (j_lc (own := [("one", 2), ("other", 3)]) (sl := [2, 3]) (by decide) rfl sc__law_same.nd (ji_zip (by rfl) T.z_zip (ja_cons (jv 0) (ja_cons (jv 1) ja_nil))) (blkOk_by (own := [("one", 2), ("other", 3)]) (N := N__law_same) (sc := defScope s__law_same) (by decide +kernel)) (fun _ _ _ _ _ => (jg_tup rfl (jgs_cons (jg_name (i := 2) sc__law_same.nd rfl (by first | exact Or.inl rfl | exact Or.inr rfl)) (jgs_cons (jg_name (i := 3) sc__law_same.nd rfl (by first | exact Or.inl rfl | exact Or.inr rfl)) jgs_nil)))) (fun _ _ _ _ _ => jts_nil) (fun _ _ _ _ _ => (j_call ih (hr.mono (by omega)) (by rfl) T.g__law_same T.F__law_same.kp T.b__law_same takes0 (ja_cons (jv 2) (ja_cons (jv 3) ja_nil))))) ja_nil))))) js_nil)
    (js_cons (js_if (jt_tru (j_callB call_isi pok_isi (by rfl) T.z_isinstance (by decide +kernel) (ja_cons (jv 1) (ja_cons (j_ty (by rfl) T.z_str (by decide +kernel)) ja_nil)))) (js_one (js_ret (j_and (j_callB call_isi pok_isi (by rfl) T.z_isinstance (by decide +kernel) (ja_cons (jv 0) (ja_cons (j_ty (by rfl) T.z_str (by decide +kernel)) ja_nil))) (j_one (j_cmp (op_eqA hr.units) pok_eq (nomark _) (jv 0) (jv 1)))))) js_nil)
    (js_one (js_ret (j_and (j_callB call_isi pok_isi (by rfl) T.z_isinstance (by decide +kernel) (ja_cons (jv 0) (ja_cons (j_ty (by rfl) T.z_int (by decide +kernel)) ja_nil))) (j_and (j_not (j_callB call_isi pok_isi (by rfl) T.z_isinstance (by decide +kernel) (ja_cons (jv 0) (ja_cons (j_ty (by rfl) T.z_bool (by decide +kernel)) ja_nil)))) (j_one (j_cmp (op_eqA hr.units) pok_eq (nomark _) (jv 0) (jv 1)))))))))))
theorem ok__law_mixed (T : Tx K mg base a_first_at a_leap a__law_draw a__law_pick a__law_same a__law_mixed a_law tC_leap tP_leap d_first_at d_leap d__law_draw d__law_pick d__law_same d__law_mixed d_law) (fu : Nat) : FnOk P w K mg base (L2.CX P w) 2 a__law_mixed d__law_mixed P__law_mixed (spD K mg 3 (F__law_mixed fu)) := by
  refine fnT (N := N__law_mixed) (b := m__law_mixed fu) T.F__law_mixed sc__law_mixed fun cdv A outer s H E hr => ?_
  have tk : Takes (cxOf (L2.CX P w) P w K mg base N__law_mixed "_law_mixed" (defScope s__law_mixed) a__law_mixed cdv A outer s H E) (fun c d _ H => E c d H) := takes_of rfl rfl rfl rfl
  exact (js_cons (js_par (i := 3) (j := 4) rfl sc__law_mixed.nd rfl rfl (by decide) rfl rfl (ja_cons (j_callTN call_list_of pok_lstN (by rfl) T.z_list (by decide +kernel) (ja_cons (jv 2) ja_nil)) (ja_cons (j_newL ja_nil) ja_nil)) (by rfl))
    (js_cons (js_while fu (passes_of rfl) (jt_tru (jv 3)) (js_one (js_drop (j_append (jv 4) (j_popAt (jv 3) (j_call (ok__law_draw T fu) (hr.mono (by decide)) (by rfl) T.g__law_draw T.F__law_draw.kp T.b__law_draw tk (ja_cons (jv 0) (ja_cons (jv 1) (ja_cons (j_callB call_len pok_len (by rfl) T.z_len (by decide +kernel) (ja_cons (jv 3) ja_nil)) ja_nil)))))))))
    (js_one (js_ret (jv 4)))))
theorem ok_law (T : Tx K mg base a_first_at a_leap a__law_draw a__law_pick a__law_same a__law_mixed a_law tC_leap tP_leap d_first_at d_leap d__law_draw d__law_pick d__law_same d__law_mixed d_law) (fu : Nat) : FnOk P w K mg base (L2.CX P w) 6 a_law d_law P_law (spD K mg 1 (F_law fu)) := by
  refine fnT (N := N_law) (b := m_law fu) T.F_law sc_law fun cdv A outer s H E hr => ?_
  have tk : Takes (cxOf (L2.CX P w) P w K mg base N_law "law" (defScope s_law) a_law cdv A outer s H E) (fun c d _ H => E c d H) := takes_of rfl rfl rfl rfl
  exact (js_cons (js_set (i := 1) sc_law.nd rfl (by first | exact Or.inl rfl | exact Or.inr rfl) (j_newL ja_nil))
    (js_cons (js_for (passes_of rfl) rfl (ji_rng1 (by rfl) T.z_range (ja_cons j_int ja_nil)) (jg_name (i := 2) sc_law.nd rfl (by first | exact Or.inl rfl | exact Or.inr rfl)) (js_cons (js_asg (j_tup (ja_cons (j_newL ja_nil) (ja_cons (j_call (ok__law_pick T fu) (hr.mono (by decide)) (by rfl) T.g__law_pick T.F__law_pick.kp T.b__law_pick tk (ja_cons (jv 0) (ja_cons (jv 1) (ja_cons (j_lst (ja_cons j_int (ja_cons j_int (ja_cons j_int ja_nil)))) ja_nil)))) ja_nil))) (jg_tup rfl (jgs_cons (jg_name (i := 10) sc_law.nd rfl (by first | exact Or.inl rfl | exact Or.inr rfl)) (jgs_cons (jg_name (i := 11) sc_law.nd rfl (by first | exact Or.inl rfl | exact Or.inr rfl)) jgs_nil))))
    (js_cons (js_for (passes_of rfl) rfl (ji_rng1 (by rfl) T.z_range (ja_cons (j_bin op_addA pok_add j_int (j_call (ok__law_draw T fu) (hr.mono (by decide)) (by rfl) T.g__law_draw T.F__law_draw.kp T.b__law_draw tk (ja_cons (jv 0) (ja_cons (jv 1) (ja_cons j_int ja_nil))))) ja_nil)) (jg_name (i := 3) sc_law.nd rfl (by first | exact Or.inl rfl | exact Or.inr rfl)) (js_cons (js_setLc (i := 12) (own := [("i", 16)]) (sl := [16]) (by decide) rfl sc_law.nd rfl rfl (sw_true rfl rfl rfl (by decide +kernel)) (ji_rng1 (by rfl) T.z_range (ja_cons (j_call (ok__law_pick T fu) (hr.mono (by decide)) (by rfl) T.g__law_pick T.F__law_pick.kp T.b__law_pick tk (ja_cons (jv 0) (ja_cons (jv 1) (ja_cons (j_lst (ja_cons j_int (ja_cons j_int (ja_cons j_int (ja_cons j_int ja_nil))))) ja_nil)))) ja_nil)) (blkOk_by (own := [("i", 16)]) (N := N_law) (sc := defScope s_law) (by decide +kernel)) (fun _ _ _ _ _ => (jg_name (i := 16) sc_law.nd rfl (by first | exact Or.inl rfl | exact Or.inr rfl))) (fun _ _ _ _ _ => jts_nil) (fun _ _ _ _ _ => (j_call (ok__law_draw T fu) (hr.mono (by decide)) (by rfl) T.g__law_draw T.F__law_draw.kp T.b__law_draw takes0 (ja_cons (jv 0) (ja_cons (jv 1) (ja_cons (jv 11) ja_nil))))))
    (js_one (js_drop (j_append (jv 10) (j_callT call_tuple_of pok_tup (by rfl) T.z_tuple (by decide +kernel) (ja_cons (j_callBT (cr_sortedSet rfl) (cr_setA rfl) pok_sortSetT (by rfl) T.z_sorted (by decide +kernel) (by rfl) T.z_set (by decide +kernel) (ja_cons (jv 12) ja_nil)) ja_nil)))))))
    (js_cons (js_asg (j_call (ok_leap T fu) (hr.mono (by decide)) (by rfl) T.g_leap T.F_leap.kp T.b_leap tk (ja_cons (j_callT call_tuple_of pok_tup (by rfl) T.z_tuple (by decide +kernel) (ja_cons (jv 10) ja_nil)) ja_nil)) (jg_tup rfl (jgs_cons (jg_name (i := 13) sc_law.nd rfl (by first | exact Or.inl rfl | exact Or.inr rfl)) (jgs_cons (jg_name (i := 14) sc_law.nd rfl (by first | exact Or.inl rfl | exact Or.inr rfl)) jgs_nil))))
    (js_cons (js_setLc (i := 4) (own := [("value", 15)]) (sl := [15]) (by decide) rfl sc_law.nd rfl rfl (sw_true rfl rfl rfl (by decide +kernel)) (ji_seq (j_ix ix_seq pok_ix (fun _ _ => rfl) (jv 10) j_int)) (blkOk_by (own := [("value", 15)]) (N := N_law) (sc := defScope s_law) (by decide +kernel)) (fun _ _ _ _ _ => (jg_name (i := 15) sc_law.nd rfl (by first | exact Or.inl rfl | exact Or.inr rfl))) (fun _ _ _ _ _ => (jts_one (jt_cmp (op_eqA hr.units) pok_eq (nomark _) (j_lcG (own := [("row", 17)]) (sl := [17]) (by decide) rfl sc_law.nd (ji_seqG (jv 10)) (blkOk_by (own := [("row", 17)]) (by kernel_rfl)) (fun _ _ _ _ _ => (jg_name (i := 17) sc_law.nd rfl (by first | exact Or.inl rfl | exact Or.inr rfl))) (fun _ _ _ _ _ => (jts_one (jt_cmp (op_ninT (room65 hr)) pok_ninT (by rfl) (jv 15) (jv 17)))) (fun _ _ _ _ _ => j_int)) (j_lst ja_nil)))) (fun _ _ _ _ _ => (jv 15)))
    (js_cons (js_if (jt_not (jt_tru (j_call (ok__law_same T fu 4) (hr.mono (by decide)) (by rfl) T.g__law_same T.F__law_same.kp T.b__law_same tk (ja_cons (jv 13) (ja_cons (j_callT call_tuple_of pok_tup (by rfl) T.z_tuple (by decide +kernel) (ja_cons (jv 4) ja_nil)) ja_nil))))) (js_one (js_ret j_bl)) js_nil)
    (js_cons (js_if (jt_not (jt_chain op_leA pok_le op_leA pok_le j_int (jv 14) (j_bin op_mulA pok_mul (j_callB call_len pok_len (by rfl) T.z_len (by decide +kernel) (ja_cons (jv 10) ja_nil)) (j_callB (cr_min rfl) pok_min (by rfl) T.z_min (by decide +kernel) (ja_cons (j_lcG (own := [("row", 17)]) (sl := [17]) (by decide) rfl sc_law.nd (ji_seqG (jv 10)) (blkOk_by (own := [("row", 17)]) (N := N_law) (sc := defScope s_law) (by decide +kernel)) (fun _ _ _ _ _ => (jg_name (i := 17) sc_law.nd rfl (by first | exact Or.inl rfl | exact Or.inr rfl))) (fun _ _ _ _ _ => jts_nil) (fun _ _ _ _ _ => (j_callB call_len pok_len (by rfl) T.z_len (by decide +kernel) (ja_cons (jv 17) ja_nil)))) ja_nil))))) (js_one (js_ret j_bl)) js_nil)
    (js_cons (js_if (jt_not (jt_tru (j_call (ok__law_same T fu 4) (hr.mono (by decide)) (by rfl) T.g__law_same T.F__law_same.kp T.b__law_same tk (ja_cons (j_ix ix_seq pok_ix (fun _ _ => rfl) (j_call (ok_leap T fu) (hr.mono (by decide)) (by rfl) T.g_leap T.F_leap.kp T.b_leap tk (ja_cons (j_callT call_tuple_of pok_tup (by rfl) T.z_tuple (by decide +kernel) (ja_cons (j_call (ok__law_mixed T fu) (hr.mono (by decide)) (by rfl) T.g__law_mixed T.F__law_mixed.kp T.b__law_mixed tk (ja_cons (jv 0) (ja_cons (jv 1) (ja_cons (jv 10) ja_nil)))) ja_nil)) ja_nil)) j_int) (ja_cons (jv 13) ja_nil))))) (js_one (js_ret j_bl)) js_nil)
    (js_cons (js_if (jt_not (jt_tru (j_call (ok__law_same T fu 4) (hr.mono (by decide)) (by rfl) T.g__law_same T.F__law_same.kp T.b__law_same tk (ja_cons (j_call (ok_leap T fu) (hr.mono (by decide)) (by rfl) T.g_leap T.F_leap.kp T.b_leap tk (ja_cons (j_callT call_tuple_of pok_tup (by rfl) T.z_tuple (by decide +kernel) (ja_cons (j_slice (jv 10) jo_none (jo_some j_int)) ja_nil)) ja_nil)) (ja_cons (j_tup (ja_cons (j_ix ix_seq pok_ix (fun _ _ => rfl) (jv 10) j_int) (ja_cons (j_callB call_len pok_len (by rfl) T.z_len (by decide +kernel) (ja_cons (j_ix ix_seq pok_ix (fun _ _ => rfl) (jv 10) j_int) ja_nil)) ja_nil))) ja_nil))))) (js_one (js_ret j_bl)) js_nil)
    (js_cons (js_if (jw_pt (jw_or (jt_cmp (op_neA hr.units) pok_ne (nomark _) (j_ix ix_seq pok_ix (fun _ _ => rfl) (j_call (ok_leap T fu) (hr.mono (by decide)) (by rfl) T.g_leap T.F_leap.kp T.b_leap tk (ja_cons (j_callT call_tuple_of pok_tup (by rfl) T.z_tuple (by decide +kernel) (ja_cons (j_bin op_addA pok_addL (jv 10) (j_slice (jv 10) (jo_some (j_un un_neg pok_neg j_int)) jo_none)) ja_nil)) ja_nil)) j_int) (jv 13)) (jw_or1 (jt_cmp (op_neA hr.units) pok_ne (nomark _) (j_call (ok_leap T fu) (hr.mono (by decide)) (by rfl) T.g_leap T.F_leap.kp T.b_leap tk (ja_cons (j_bin op_addA pok_add (j_callT call_tuple_of pok_tup (by rfl) T.z_tuple (by decide +kernel) (ja_cons (jv 10) ja_nil)) (j_tup (ja_cons (j_tup ja_nil) ja_nil))) ja_nil)) (j_tup (ja_cons (j_tup ja_nil) (ja_cons j_int ja_nil))))))) (js_one (js_ret j_bl)) js_nil)
    (js_cons (js_set (i := 5) sc_law.nd rfl (by first | exact Or.inl rfl | exact Or.inr rfl) (j_bin op_sub pok_sub (j_call (ok__law_draw T fu) (hr.mono (by decide)) (by rfl) T.g__law_draw T.F__law_draw.kp T.b__law_draw tk (ja_cons (jv 0) (ja_cons (jv 1) (ja_cons j_int ja_nil)))) j_int))
    (js_cons (js_set (i := 6) sc_law.nd rfl (by first | exact Or.inl rfl | exact Or.inr rfl) (j_callT call_tuple_of pok_tup (by rfl) T.z_tuple (by decide +kernel) (ja_cons (j_lcG (own := [("row", 17)]) (sl := [17]) (by decide) rfl sc_law.nd (ji_seqG (jv 10)) (blkOk_by (own := [("row", 17)]) (N := N_law) (sc := defScope s_law) (by decide +kernel)) (fun _ _ _ _ _ => (jg_name (i := 17) sc_law.nd rfl (by first | exact Or.inl rfl | exact Or.inr rfl))) (fun _ _ _ _ _ => jts_nil) (fun _ _ _ _ _ => (j_callT call_tuple_of pok_tup (by rfl) T.z_tuple (by decide +kernel) (ja_cons (j_lc (own := [("value", 15)]) (sl := [15]) (by decide) rfl sc_law.nd (ji_seq (jv 17)) (blkOk_by (own := [("value", 15)]) (by kernel_rfl)) (fun _ _ _ _ _ => (jg_name (i := 15) sc_law.nd rfl (by first | exact Or.inl rfl | exact Or.inr rfl))) (fun _ _ _ _ _ => jts_nil) (fun _ _ _ _ _ => (j_bin op_addA pok_add (jv 15) (jv 5)))) ja_nil)))) ja_nil)))
    (js_cons (js_if (jt_not (jt_tru (j_call (ok__law_same T fu 4) (hr.mono (by decide)) (by rfl) T.g__law_same T.F__law_same.kp T.b__law_same tk (ja_cons (j_call (ok_leap T fu) (hr.mono (by decide)) (by rfl) T.g_leap T.F_leap.kp T.b_leap tk (ja_cons (jv 6) ja_nil)) (ja_cons (j_tup (ja_cons (j_callT call_tuple_of pok_tup (by rfl) T.z_tuple (by decide +kernel) (ja_cons (j_lc (own := [("value", 15)]) (sl := [15]) (by decide) rfl sc_law.nd (ji_seq (jv 13)) (blkOk_by (own := [("value", 15)]) (N := N_law) (sc := defScope s_law) (by decide +kernel)) (fun _ _ _ _ _ => (jg_name (i := 15) sc_law.nd rfl (by first | exact Or.inl rfl | exact Or.inr rfl))) (fun _ _ _ _ _ => jts_nil) (fun _ _ _ _ _ => (j_bin op_addA pok_add (jv 15) (jv 5)))) ja_nil)) (ja_cons (jv 14) ja_nil))) ja_nil))))) (js_one (js_ret j_bl)) js_nil)
    (js_cons (js_set (i := 7) sc_law.nd rfl (by first | exact Or.inl rfl | exact Or.inr rfl) (j_call (ok__law_draw T fu) (hr.mono (by decide)) (by rfl) T.g__law_draw T.F__law_draw.kp T.b__law_draw tk (ja_cons (jv 0) (ja_cons (jv 1) (ja_cons (jv 11) ja_nil)))))
    (js_cons (js_set (i := 8) sc_law.nd rfl (by first | exact Or.inl rfl | exact Or.inr rfl) (j_callT call_tuple_of pok_tup (by rfl) T.z_tuple (by decide +kernel) (ja_cons (j_lcG (own := [("row", 17)]) (sl := [17]) (by decide) rfl sc_law.nd (ji_seqG (jv 10)) (blkOk_by (own := [("row", 17)]) (N := N_law) (sc := defScope s_law) (by decide +kernel)) (fun _ _ _ _ _ => (jg_name (i := 17) sc_law.nd rfl (by first | exact Or.inl rfl | exact Or.inr rfl))) (fun _ _ _ _ _ => jts_nil) (fun _ _ _ _ _ => (j_callT call_tuple_of pok_tup (by rfl) T.z_tuple (by decide +kernel) (ja_cons (j_callBT (cr_sortedSet rfl) (cr_setA rfl) pok_sortSetT (by rfl) T.z_sorted (by decide +kernel) (by rfl) T.z_set (by decide +kernel) (ja_cons (j_bin op_addA pok_add (jv 17) (j_tup (ja_cons (jv 7) ja_nil))) ja_nil)) ja_nil)))) ja_nil)))
    (js_cons (js_if (jt_not (jt_tru (j_call (ok__law_same T fu 4) (hr.mono (by decide)) (by rfl) T.g__law_same T.F__law_same.kp T.b__law_same tk (ja_cons (j_ix ix_seq pok_ix (fun _ _ => rfl) (j_call (ok_leap T fu) (hr.mono (by decide)) (by rfl) T.g_leap T.F_leap.kp T.b_leap tk (ja_cons (jv 8) ja_nil)) j_int) (ja_cons (j_callT call_tuple_of pok_tup (by rfl) T.z_tuple (by decide +kernel) (ja_cons (j_callBT (cr_sortedSet rfl) (cr_setA rfl) pok_sortSetT (by rfl) T.z_sorted (by decide +kernel) (by rfl) T.z_set (by decide +kernel) (ja_cons (j_bin op_addA pok_add (jv 13) (j_tup (ja_cons (jv 7) ja_nil))) ja_nil)) ja_nil)) ja_nil))))) (js_one (js_ret j_bl)) js_nil)
    (js_cons (js_set (i := 9) sc_law.nd rfl (by first | exact Or.inl rfl | exact Or.inr rfl) (j_callT call_tuple_of pok_tup (by rfl) T.z_tuple (by decide +kernel) (ja_cons (j_callBT (cr_sortedSet rfl) (cr_setA rfl) pok_sortSetT (by rfl) T.z_sorted (by decide +kernel) (by rfl) T.z_set (by decide +kernel) (ja_cons (j_lc (own := [("i", 16)]) (sl := [16]) (by decide) rfl sc_law.nd (ji_rng1 (by rfl) T.z_range (ja_cons j_int ja_nil)) (blkOk_by (own := [("i", 16)]) (N := N_law) (sc := defScope s_law) (by decide +kernel)) (fun _ _ _ _ _ => (jg_name (i := 16) sc_law.nd rfl (by first | exact Or.inl rfl | exact Or.inr rfl))) (fun _ _ _ _ _ => jts_nil) (fun _ _ _ _ _ => (j_call (ok__law_draw T fu) (hr.mono (by decide)) (by rfl) T.g__law_draw T.F__law_draw.kp T.b__law_draw takes0 (ja_cons (jv 0) (ja_cons (jv 1) (ja_cons (jv 11) ja_nil)))))) ja_nil)) ja_nil)))
    (js_one (js_if (jt_not (jt_tru (j_call (ok__law_same T fu 4) (hr.mono (by decide)) (by rfl) T.g__law_same T.F__law_same.kp T.b__law_same tk (ja_cons (j_ix ix_seq pok_ix (fun _ _ => rfl) (j_call (ok_leap T fu) (hr.mono (by decide)) (by rfl) T.g_leap T.F_leap.kp T.b_leap tk (ja_cons (j_bin op_addA pok_add (j_callT call_tuple_of pok_tup (by rfl) T.z_tuple (by decide +kernel) (ja_cons (jv 10) ja_nil)) (j_tup (ja_cons (jv 9) ja_nil))) ja_nil)) j_int) (ja_cons (j_callT call_tuple_of pok_tup (by rfl) T.z_tuple (by decide +kernel) (ja_cons (j_lc (own := [("value", 15)]) (sl := [15]) (by decide) rfl sc_law.nd (ji_seq (jv 13)) (blkOk_by (own := [("value", 15)]) (N := N_law) (sc := defScope s_law) (by decide +kernel)) (fun _ _ _ _ _ => (jg_name (i := 15) sc_law.nd rfl (by first | exact Or.inl rfl | exact Or.inr rfl))) (fun _ _ _ _ _ => (jts_one (jt_cmp (op_inT (room65 hr)) pok_inT (by rfl) (jv 15) (jv 9)))) (fun _ _ _ _ _ => (jv 15))) ja_nil)) ja_nil))))) (js_one (js_ret j_bl)) js_nil)))))))))))))))))))
    (js_one (js_ret j_bl))))
end
end Law
namespace Law
open PySem L2 Dv
/-! ### the end -/
theorem all_mk {l : PySem.W.OpenLaw} {w : World} {K : PySem.W.Frag} {h : Heap} {mg : Str → Option Value} {fa a_first_at a_leap a__law_draw a__law_pick a__law_same a__law_mixed a_law tC_leap tP_leap : Addr} (X : K.In h) (G : h.Ns mainGlobals mg) (hfa : mg "law" = some (.ref fa))
    {oc_first_at kV_first_at dc_first_at pm_first_at cd_first_at ct_first_at : Value} {od_first_at an_first_at : Option Addr} {sl_first_at : Array (Option Value)}
    {oc_leap kV_leap dc_leap pm_leap ct_leap : Value} {od_leap an_leap : Option Addr} {sl_leap : Array (Option Value)}
    {co_leap : Value} {cp_leap : Option Addr} {cv_leap : Array Value} {cs_leap : Array (Option Value)}
    {oc__law_draw kV__law_draw dc__law_draw pm__law_draw cd__law_draw ct__law_draw : Value} {od__law_draw an__law_draw : Option Addr} {sl__law_draw : Array (Option Value)}
    {oc__law_pick kV__law_pick dc__law_pick pm__law_pick cd__law_pick ct__law_pick : Value} {od__law_pick an__law_pick : Option Addr} {sl__law_pick : Array (Option Value)}
    {oc__law_same kV__law_same dc__law_same pm__law_same cd__law_same ct__law_same : Value} {od__law_same an__law_same : Option Addr} {sl__law_same : Array (Option Value)}
    {oc__law_mixed kV__law_mixed dc__law_mixed pm__law_mixed cd__law_mixed ct__law_mixed : Value} {od__law_mixed an__law_mixed : Option Addr} {sl__law_mixed : Array (Option Value)}
    {oc_law kV_law dc_law pm_law cd_law ct_law : Value} {od_law an_law : Option Addr} {sl_law : Array (Option Value)}
    (a1_first_at : PySem.W.nsIn K mainGlobals "first_at" = some (some (.ref a_first_at)))
    (l1_first_at : K.lookup a_first_at = some ⟨oc_first_at, od_first_at, .func (PySem.W.fnOf "first_at" "first_at" (defArgs s_first_at) (defBody s_first_at) (defScope s_first_at) .none kV_first_at dc_first_at pm_first_at an_first_at cd_first_at ct_first_at), sl_first_at⟩)
    (c1_first_at : PySem.W.codeIn K cd_first_at "first_at" = true)
    (k1_first_at : PySem.W.keepIn K (.ref a_first_at) = true)
    (a1_leap : PySem.W.nsIn K mainGlobals "leap" = some (some (.ref a_leap)))
    (l1_leap : K.lookup a_leap = some ⟨oc_leap, od_leap, .func (PySem.W.fnOf "leap" "leap" (defArgs s_leap) (defBody s_leap) (defScope s_leap) .none kV_leap dc_leap pm_leap an_leap (.ref tC_leap) ct_leap), sl_leap⟩)
    (c1_leap : PySem.W.codeIn K (.ref tC_leap) "leap" = true)
    (y1_leap : K.lookup tC_leap = some ⟨co_leap, cp_leap, .fields cv_leap, cs_leap⟩)
    (y2_leap : cv_leap[11]? = some (.ref tP_leap))
    (y3_leap : PySem.W.codeHdIn K tC_leap tP_leap = true)
    (y4_leap : K.lookup tP_leap = none)
    (y5_leap : h.get? tP_leap = some (PySem.W.tabObj #[]))
    (k1_leap : PySem.W.keepIn K (.ref a_leap) = true)
    (a1__law_draw : PySem.W.nsIn K mainGlobals "_law_draw" = some (some (.ref a__law_draw)))
    (l1__law_draw : K.lookup a__law_draw = some ⟨oc__law_draw, od__law_draw, .func (PySem.W.fnOf "_law_draw" "_law_draw" (defArgs s__law_draw) (defBody s__law_draw) (defScope s__law_draw) .none kV__law_draw dc__law_draw pm__law_draw an__law_draw cd__law_draw ct__law_draw), sl__law_draw⟩)
    (c1__law_draw : PySem.W.codeIn K cd__law_draw "_law_draw" = true)
    (k1__law_draw : PySem.W.keepIn K (.ref a__law_draw) = true)
    (a1__law_pick : PySem.W.nsIn K mainGlobals "_law_pick" = some (some (.ref a__law_pick)))
    (l1__law_pick : K.lookup a__law_pick = some ⟨oc__law_pick, od__law_pick, .func (PySem.W.fnOf "_law_pick" "_law_pick" (defArgs s__law_pick) (defBody s__law_pick) (defScope s__law_pick) .none kV__law_pick dc__law_pick pm__law_pick an__law_pick cd__law_pick ct__law_pick), sl__law_pick⟩)
    (c1__law_pick : PySem.W.codeIn K cd__law_pick "_law_pick" = true)
    (k1__law_pick : PySem.W.keepIn K (.ref a__law_pick) = true)
    (a1__law_same : PySem.W.nsIn K mainGlobals "_law_same" = some (some (.ref a__law_same)))
    (l1__law_same : K.lookup a__law_same = some ⟨oc__law_same, od__law_same, .func (PySem.W.fnOf "_law_same" "_law_same" (defArgs s__law_same) (defBody s__law_same) (defScope s__law_same) .none kV__law_same dc__law_same pm__law_same an__law_same cd__law_same ct__law_same), sl__law_same⟩)
    (c1__law_same : PySem.W.codeIn K cd__law_same "_law_same" = true)
    (k1__law_same : PySem.W.keepIn K (.ref a__law_same) = true)
    (a1__law_mixed : PySem.W.nsIn K mainGlobals "_law_mixed" = some (some (.ref a__law_mixed)))
    (l1__law_mixed : K.lookup a__law_mixed = some ⟨oc__law_mixed, od__law_mixed, .func (PySem.W.fnOf "_law_mixed" "_law_mixed" (defArgs s__law_mixed) (defBody s__law_mixed) (defScope s__law_mixed) .none kV__law_mixed dc__law_mixed pm__law_mixed an__law_mixed cd__law_mixed ct__law_mixed), sl__law_mixed⟩)
    (c1__law_mixed : PySem.W.codeIn K cd__law_mixed "_law_mixed" = true)
    (k1__law_mixed : PySem.W.keepIn K (.ref a__law_mixed) = true)
    (a1_law : PySem.W.nsIn K mainGlobals "law" = some (some (.ref a_law)))
    (l1_law : K.lookup a_law = some ⟨oc_law, od_law, .func (PySem.W.fnOf "law" "law" (defArgs s_law) (defBody s_law) (defScope s_law) .none kV_law dc_law pm_law an_law cd_law ct_law), sl_law⟩)
    (c1_law : PySem.W.codeIn K cd_law "law" = true)
    (k1_law : PySem.W.keepIn K (.ref a_law) = true)
    (z1_abs : PySem.W.nsIn K mainGlobals "abs" = some none)
    (z1_all : PySem.W.nsIn K mainGlobals "all" = some none)
    (z1_bool : PySem.W.nsIn K mainGlobals "bool" = some none)
    (z1_int : PySem.W.nsIn K mainGlobals "int" = some none)
    (z1_isinstance : PySem.W.nsIn K mainGlobals "isinstance" = some none)
    (z1_len : PySem.W.nsIn K mainGlobals "len" = some none)
    (z1_list : PySem.W.nsIn K mainGlobals "list" = some none)
    (z1_max : PySem.W.nsIn K mainGlobals "max" = some none)
    (z1_min : PySem.W.nsIn K mainGlobals "min" = some none)
    (z1_range : PySem.W.nsIn K mainGlobals "range" = some none)
    (z1_set : PySem.W.nsIn K mainGlobals "set" = some none)
    (z1_sorted : PySem.W.nsIn K mainGlobals "sorted" = some none)
    (z1_str : PySem.W.nsIn K mainGlobals "str" = some none)
    (z1_tuple : PySem.W.nsIn K mainGlobals "tuple" = some none)
    (z1_zip : PySem.W.nsIn K mainGlobals "zip" = some none)
    : LamX.LawAtS l w K (L2.CX l.prog w) 6 63 "script" mg fa h := by
  have e := hfa.symm.trans (PySem.W.mg_of X G a1_law)
  cases e
  have F_first_at := fun_mk (st := s_first_at) l1_first_at c1_first_at k1_first_at
  have b_first_at : Binds K _ P_first_at [] := F_first_at.binds (ps := P_first_at) fun _ _ _ _ _ _ us hl => match us, hl with | [_, _, _], _ => rfl
  have F_leap := fun_mk (st := s_leap) l1_leap c1_leap k1_leap
  have b_leap : Binds K _ P_leap [] := F_leap.binds (ps := P_leap) fun _ _ _ _ _ _ us hl => match us, hl with | [_], _ => rfl
  have F__law_draw := fun_mk (st := s__law_draw) l1__law_draw c1__law_draw k1__law_draw
  have b__law_draw : Binds K _ P__law_draw [] := F__law_draw.binds (ps := P__law_draw) fun _ _ _ _ _ _ us hl => match us, hl with | [_, _, _], _ => rfl
  have F__law_pick := fun_mk (st := s__law_pick) l1__law_pick c1__law_pick k1__law_pick
  have b__law_pick : Binds K _ P__law_pick [] := F__law_pick.binds (ps := P__law_pick) fun _ _ _ _ _ _ us hl => match us, hl with | [_, _, _], _ => rfl
  have F__law_same := fun_mk (st := s__law_same) l1__law_same c1__law_same k1__law_same
  have b__law_same : Binds K _ P__law_same [] := F__law_same.binds (ps := P__law_same) fun _ _ _ _ _ _ us hl => match us, hl with | [_, _], _ => rfl
  have F__law_mixed := fun_mk (st := s__law_mixed) l1__law_mixed c1__law_mixed k1__law_mixed
  have b__law_mixed : Binds K _ P__law_mixed [] := F__law_mixed.binds (ps := P__law_mixed) fun _ _ _ _ _ _ us hl => match us, hl with | [_, _, _], _ => rfl
  have F_law := fun_mk (st := s_law) l1_law c1_law k1_law
  have b_law : Binds K _ P_law [] := F_law.binds (ps := P_law) fun _ _ _ _ _ _ us hl => match us, hl with | [_], _ => rfl
  refine ⟨PySem.W.fnOf "law" "law" (defArgs s_law) (defBody s_law) (defScope s_law) .none kV_law dc_law pm_law an_law cd_law ct_law, [(tC_leap, tP_leap)], (fun vs H Q E => H tP_leap = some (.tbl #[]) ∧ spLaw K vs H Q E), ?_, ?_, ?_, fun s v => .of_eq rfl, ?_, fun base _ _ TBs => ?_⟩
  · intro p hp; rw [List.mem_singleton.mp hp]; exact y5_leap
  · intro p hp; rw [List.mem_singleton.mp hp]; exact y4_leap
  · intro p hp; rw [List.mem_singleton.mp hp]; exact PySem.W.codeHd_of_K X y3_leap
  · intro H a ns hl _ hH hS; exact ⟨hH (tC_leap, tP_leap) List.mem_cons_self, sp_start hl hS⟩
  · have TB_leap := TBs (tC_leap, tP_leap) List.mem_cons_self
    have T : Tx K mg base a_first_at a_leap a__law_draw a__law_pick a__law_same a__law_mixed fa tC_leap tP_leap _ _ _ _ _ _ _ := ⟨TB_leap,
    tblAt_mk (PySem.W.mg_of X G a1_leap) l1_leap rfl y3_leap,
    rfl,
    PySem.W.mg_none_of X G z1_abs,
    PySem.W.mg_none_of X G z1_all,
    PySem.W.mg_none_of X G z1_bool,
    PySem.W.mg_none_of X G z1_int,
    PySem.W.mg_none_of X G z1_isinstance,
    PySem.W.mg_none_of X G z1_len,
    PySem.W.mg_none_of X G z1_list,
    PySem.W.mg_none_of X G z1_max,
    PySem.W.mg_none_of X G z1_min,
    PySem.W.mg_none_of X G z1_range,
    PySem.W.mg_none_of X G z1_set,
    PySem.W.mg_none_of X G z1_sorted,
    PySem.W.mg_none_of X G z1_str,
    PySem.W.mg_none_of X G z1_tuple,
    PySem.W.mg_none_of X G z1_zip,
    F_first_at,
    b_first_at,
    PySem.W.mg_of X G a1_first_at,
    F_leap,
    b_leap,
    PySem.W.mg_of X G a1_leap,
    F__law_draw,
    b__law_draw,
    PySem.W.mg_of X G a1__law_draw,
    F__law_pick,
    b__law_pick,
    PySem.W.mg_of X G a1__law_pick,
    F__law_same,
    b__law_same,
    PySem.W.mg_of X G a1__law_same,
    F__law_mixed,
    b__law_mixed,
    PySem.W.mg_of X G a1__law_mixed,
    F_law,
    b_law,
    PySem.W.mg_of X G a1_law⟩
    exact law_fnT T.u_leap (fun fu => ok_law T fu) law_true
end Law
open PySem PySem.W PyProof.Rows in
set_option maxRecDepth 100000 in
set_option maxHeartbeats 0 in
theorem PySem.Challenge.cw_meetloft_k05_whole_leaps_holds : PySem.Challenge.rw_meetloft_k05_whole_leaps.Holds := by
  w_on; o_law; k_head; (case hw => w_witness2)
  k_fill
  refine LamX.walk_ofTs (l := PySem.Challenge.rw_meetloft_k05_whole_leaps) (n := 63) (k := 6) (x := "script") (CX := fun w => L2.CX PySem.Challenge.pw_meetloft_k05_whole_leaps w) rfl (by decide) rfl ⟨rfl, by decide, by decide⟩ (fun w h Y => PySem.W.km_in_of Y) ?F (fun w H s e s' z => Dv.no_exc z)
  case F =>
    intro w mg fa h Y KX G hmg
    refine' Law.all_mk KX G hmg ?a1_first_at ?l1_first_at ?c1_first_at ?k1_first_at ?a1_leap ?l1_leap ?c1_leap ?y1_leap ?y2_leap ?y3_leap ?y4_leap ?y5_leap ?k1_leap ?a1__law_draw ?l1__law_draw ?c1__law_draw ?k1__law_draw ?a1__law_pick ?l1__law_pick ?c1__law_pick ?k1__law_pick ?a1__law_same ?l1__law_same ?c1__law_same ?k1__law_same ?a1__law_mixed ?l1__law_mixed ?c1__law_mixed ?k1__law_mixed ?a1_law ?l1_law ?c1_law ?k1_law ?z1_abs ?z1_all ?z1_bool ?z1_int ?z1_isinstance ?z1_len ?z1_list ?z1_max ?z1_min ?z1_range ?z1_set ?z1_sorted ?z1_str ?z1_tuple ?z1_zip
    (case a1_first_at => k_is)
    (case l1_first_at => k_is)
    (case c1_first_at => k_is)
    (case k1_first_at => k_is)
    (case a1_leap => k_is)
    (case l1_leap => k_is)
    (case c1_leap => k_is)
    (case y1_leap => k_is)
    (case y2_leap => rfl)
    (case y3_leap => kernel_rfl)
    (case y4_leap => kernel_rfl)
    (case y5_leap => exact PySem.W.km_tabs_of Y _ (by k_mem))
    (case k1_leap => k_is)
    (case a1__law_draw => k_is)
    (case l1__law_draw => k_is)
    (case c1__law_draw => k_is)
    (case k1__law_draw => k_is)
    (case a1__law_pick => k_is)
    (case l1__law_pick => k_is)
    (case c1__law_pick => k_is)
    (case k1__law_pick => k_is)
    (case a1__law_same => k_is)
    (case l1__law_same => k_is)
    (case c1__law_same => k_is)
    (case k1__law_same => k_is)
    (case a1__law_mixed => k_is)
    (case l1__law_mixed => k_is)
    (case c1__law_mixed => k_is)
    (case k1__law_mixed => k_is)
    (case a1_law => k_is)
    (case l1_law => k_is)
    (case c1_law => k_is)
    (case k1_law => k_is)
    (case z1_abs => k_is)
    (case z1_all => k_is)
    (case z1_bool => k_is)
    (case z1_int => k_is)
    (case z1_isinstance => k_is)
    (case z1_len => k_is)
    (case z1_list => k_is)
    (case z1_max => k_is)
    (case z1_min => k_is)
    (case z1_range => k_is)
    (case z1_set => k_is)
    (case z1_sorted => k_is)
    (case z1_str => k_is)
    (case z1_tuple => k_is)
    (case z1_zip => k_is)
