import PyProof.Rows.All
import Wide.All
import OpenK.AllK
import Wide.FinOn
import HandS.ForMost
import HandS.ForExc
import HandS.CallSlots
import HandS.Walk
import HandS.Lambda
import KE.KeyNested
import HandS.TupAny
import HandS.Deep
import HandS.IsInst
import HandS.Zip
import HandS.SortInts
import HandS.TupSets
import HandS.SetFor
import HandS.Strs
import HandS.Dict
import HandS.DictComp
import HandS.Iter
import HandS.Sort
import PyProof.ListRange
import PyProof.ConsumeWalk
import PyProof.Rows.TupMore
import KE.KLam
import KE.SortKeyHeap
import PyProof.Cells
import PyProof.Rows.TupSub
import PyProof.Rows.SeqItemCall
import KE.KSortKey
import KE.GoesSet
import HandS.Comp
import HandS.DictTup
import HandS.Conv
import KE.KDictZip
import HandS.Flow
import KE.KDictWalk
import HandS.TryOnly
import HandS.RaiseMore
import HandS.HotCalls
import HandS.ExcIs
import PyProof.DictUpdate
import PySem.Challenge.RW_meetloft_k06_lookers_by_hand
set_option Elab.async false
set_option linter.all false
set_option maxRecDepth 100000
namespace Dv
open PySem L2

abbrev Pr := Str × List Int
def nkP (p : Pr) : NestedKey := .tup [.text p.1, .tup (p.2.map .num)]

inductive D where
  | non : D
  | bl (b : Bool) : D
  | int (i : Int) : D
  | str (x : Str) : D
  | tup (xs : List D) : D
  | lst (xs : List D) : D
  | scr (xs : List Int) : D
  | dct (kvs : List (Key × D)) : D
  | loc (n : Nat) : D
  | ty (n : String) : D
  | tux (xs : List D) : D
  | dtt (kvs : List (List Key × D)) : D
  | dpr (w : World) (kvs : List (Pr × D)) : D
  | adr (a : Addr) : D

inductive O where
  | lst (xs : List D)
  | dct (kvs : List (Key × D))
  | ins (c : Str) (fs : List (Str × D))
  | tbl (x q : Str)
  | dtt (kvs : List (List Key × D))
  | dpr (w : World) (kvs : List (Pr × D))

abbrev Store := List O
abbrev Env := List (Option D)

def KLst (K : PySem.W.Frag) (a : Addr) (xs : List V) : Prop := SqL K (fun _ => none) a xs
theorem rd_none {a : Addr} {u : HO} (h : Rd (fun _ => none) a u) : False := by
  rcases h with h | ⟨o, h⟩
  · cases h
  · cases h
theorem KLst.sq {K : PySem.W.Frag} {a : Addr} {xs : List V} (h : KLst K a xs) (H : Hp) : SqL K H a xs := by
  rcases h with h | h
  · exact (rd_none h).elim
  · exact .inr h
theorem KLst.len {K : PySem.W.Frag} {a : Addr} {xs : List V} (h : KLst K a xs) : xs.length ≤ sizeLine := by
  rcases h with h | ⟨o, its, n, _, _, _, _, hz, r⟩
  · exact (rd_none h).elim
  · rw [r.length, Array.length_toList]
    exact hz

structure Tb where
  loc : List Addr
  hid : List Addr
def Tb.off (T : Tb) (a : Addr) : Prop := a ∉ T.loc ∧ a ∉ T.hid

def LAt (K : PySem.W.Frag) (T : Tb) (H : Hp) (a : Addr) (xs : List V) : Prop := (Rd H a (.lst xs) ∧ T.off a) ∨ KLst K a xs

def DprH (w : World) (a : Addr) (xs : List (Pr × Addr × V)) (h : Heap) : Prop := (a == sysModules) = false ∧ xs.length ≤ sizeLine ∧ (xs.map (·.1)).Nodup ∧ ∃ (ys : List (Pr × Addr × Value)) (ob : Obj) (es : Array DictEntry) (ep : Nat),
  Paired (fun (x : Pr × Addr × V) (y : Pr × Addr × Value) => x.1 = y.1 ∧ x.2.1 = y.2.1 ∧ RelV x.2.2 y.2.2) xs ys ∧ h.get? a = some ob ∧ ob.ExactDict ∧ ob.data = .dict es ep ∧ es.toList = ys.map fun y => ⟨NestedKey.hash w (nkP y.1), .ref y.2.1, y.2.2⟩
def DprO (w : World) (a : Addr) (xs : List (Pr × Addr × V)) : HO := .ext (DprH w a xs)
def prD (p : Pr) : D := .tup [.str p.1, .tup (p.2.map .int)]
mutual
inductive Rep (K : PySem.W.Frag) (T : Tb) (H : Hp) : V → D → Prop
  | non : Rep K T H .non .non
  | bl (b : Bool) : Rep K T H (.bl b) (.bl b)
  | int (i : Int) : Rep K T H (.int i) (.int i)
  | str (x : Str) : Rep K T H (.str x) (.str x)
  | ty (x : String) : Rep K T H (.ty x) (.ty x)
  | tup {a : Addr} {xs : List V} {ds : List D} : H a = some (.tup xs) → T.off a → RepL K T H xs ds → Rep K T H (.ref a) (.tup ds)
  | lst {a : Addr} {xs : List V} {ds : List D} : H a = some (.lst xs) → T.off a → RepL K T H xs ds → Rep K T H (.ref a) (.lst ds)
  | scr {a : Addr} {ns : List Int} : LAt K T H a (ns.map V.int) → Rep K T H (.ref a) (.scr ns)
  | dct {a : Addr} {kvs : List (Key × V)} {kds : List (Key × D)} : Rd H a (.dK kvs) → T.off a → kvs.map (·.1) = kds.map (·.1) → RepL K T H (kvs.map (·.2)) (kds.map (·.2)) → Rep K T H (.ref a) (.dct kds)
  | loc {a : Addr} {n : Nat} : T.loc[n]? = some a → Rep K T H (.ref a) (.loc n)
  | tux {a : Addr} {o : Obj} {xs : List V} {ds : List D} : o.dict = none → H a = some (.frz o (.tup xs)) → T.off a → RepL K T H xs ds → Rep K T H (.ref a) (.tux ds)
  | dtt {a : Addr} {kvs : List (List Key × V)} {kds : List (List Key × D)} : Rd H a (.dT kvs) → T.off a → kvs.map (·.1) = kds.map (·.1) → RepL K T H (kvs.map (·.2)) (kds.map (·.2)) → Rep K T H (.ref a) (.dtt kds)
  | adr (a : Addr) : Rep K T H (.ref a) (.adr a)
  | dpr {a : Addr} {w : World} {xs : List (Pr × Addr × V)} {kds : List (Pr × D)} : H a = some (DprO w a xs) → T.off a → xs.map (·.1) = kds.map (·.1) → RepL K T H (xs.map fun x => V.ref x.2.1) (xs.map fun x => prD x.1) → RepL K T H (xs.map (·.2.2)) (kds.map (·.2)) → Rep K T H (.ref a) (.dpr w kds)
inductive RepL (K : PySem.W.Frag) (T : Tb) (H : Hp) : List V → List D → Prop
  | nil : RepL K T H [] []
  | cons {v : V} {vs : List V} {d : D} {ds : List D} : Rep K T H v d → RepL K T H vs ds → RepL K T H (v :: vs) (d :: ds)
end

structure Step (T : Tb) (H : Hp) (T' : Tb) (H' : Hp) : Prop where
  ext : ∃ more, T'.loc = T.loc ++ more
  hid : T'.hid = T.hid
  hkeep : ∀ b, b ∈ T.hid → H' b = H b
  keep : ∀ b u, T.off b → H b = some u → H' b = some u
  new : ∀ a, a ∈ T'.loc → a ∉ T.loc → H a = none

theorem rd_some {H : Hp} {a : Addr} {u : HO} (h : Rd H a u) : H a ≠ none := by
  rcases h with h | ⟨o, h⟩ <;> rw [h] <;> exact fun e => by cases e
theorem rd_keep {H H' : Hp} {a : Addr} {u : HO} (k : ∀ v, H a = some v → H' a = some v) (h : Rd H a u) : Rd H' a u := by
  rcases h with h | ⟨o, h⟩
  · exact .inl (k _ h)
  · exact .inr ⟨o, k _ h⟩
theorem Step.refl (T : Tb) (H : Hp) : Step T H T H := ⟨⟨[], by simp⟩, rfl, fun _ _ => rfl, fun _ _ _ h => h, fun _ h n => absurd h n⟩
theorem Step.out {T T' : Tb} {H H' : Hp} (s : Step T H T' H') {b : Addr} (h : H b ≠ none) (n : T.off b) : T'.off b := ⟨fun m => h (s.new b m n.1), by rw [s.hid]; exact n.2⟩
theorem Step.rd {T T' : Tb} {H H' : Hp} (s : Step T H T' H') {b : Addr} {u : HO} (h : Rd H b u) (n : T.off b) : Rd H' b u := rd_keep (fun v => s.keep b v n) h
theorem Step.trans {T T1 T2 : Tb} {H H1 H2 : Hp} (a : Step T H T1 H1) (b : Step T1 H1 T2 H2) : Step T H T2 H2 where
  ext := by
    obtain ⟨m1, e1⟩ := a.ext
    obtain ⟨m2, e2⟩ := b.ext
    exact ⟨m1 ++ m2, by rw [e2, e1, List.append_assoc]⟩
  hid := b.hid.trans a.hid
  hkeep := fun c hc => (b.hkeep c (by rw [a.hid]; exact hc)).trans (a.hkeep c hc)
  keep := fun c u n h => b.keep c u (a.out (by rw [h]; exact fun e => by cases e) n) (a.keep c u n h)
  new := fun c m n => by
    by_cases h : c ∈ T1.loc
    · exact a.new c h n
    · cases q : H c with
      | none => rfl
      | some o =>
        have h2 := b.new c m h
        by_cases hc : c ∈ T.hid
        · rw [a.hkeep c hc, q] at h2
          cases h2
        · rw [a.keep c o ⟨n, hc⟩ q] at h2
          cases h2
theorem Step.get {T T' : Tb} {H H' : Hp} (s : Step T H T' H') {n : Nat} {a : Addr} (h : T.loc[n]? = some a) : T'.loc[n]? = some a := by
  obtain ⟨m, e⟩ := s.ext
  rw [e, List.getElem?_append_left (List.getElem?_eq_some_iff.mp h).1]
  exact h
section
variable {K : PySem.W.Frag} {T T' : Tb} {H H' : Hp}
theorem LAt.sq {a : Addr} {xs : List V} (h : LAt K T H a xs) : SqL K H a xs := by
  rcases h with ⟨h, n⟩ | h
  · exact .inl h
  · exact h.sq H
def dO : List (Key × V) ⊕ List (List Key × V) → HO
  | .inl kvs => .dK kvs
  | .inr kvs => .dT kvs
structure Kp (T : Tb) (H : Hp) (T' : Tb) (H' : Hp) : Prop where
  sq : ∀ b u, (∃ xs, u = .tup xs ∨ u = .lst xs ∨ (∃ o, u = .frz o (.lst xs) ∨ u = .frz o (.tup xs)) ∨ ∃ f, u = .ext f) → T.off b → H b = some u → H' b = some u ∧ T'.off b
  dk : ∀ b kvs, T.off b → Rd H b (dO kvs) → Rd H' b (dO kvs) ∧ T'.off b
  get : ∀ (n : Nat) (a : Addr), T.loc[n]? = some a → T'.loc[n]? = some a
theorem some_ne {H : Hp} {a : Addr} {u : HO} (h : H a = some u) : H a ≠ none := by
  rw [h]
  exact fun e => by cases e
theorem Step.kp (s : Step T H T' H') : Kp T H T' H' := ⟨fun b u _ n h => ⟨s.keep b u n h, s.out (some_ne h) n⟩, fun b _ n h => ⟨s.rd h n, s.out (rd_some h) n⟩, fun _ _ h => s.get h⟩
structure Kf (T : Tb) (H : Hp) (T' : Tb) (H' : Hp) : Prop extends Kp T H T' H' where
  frz : ∀ b o u, T.off b → H b = some (.frz o u) → H' b = some (.frz o u) ∧ T'.off b
theorem Step.kf (s : Step T H T' H') : Kf T H T' H' := ⟨s.kp, fun b o u n h => ⟨s.keep b _ n h, s.out (some_ne h) n⟩⟩
theorem Kp.tup (s : Kp T H T' H') {b : Addr} {xs : List V} (n : T.off b) (h : H b = some (.tup xs)) : H' b = some (.tup xs) ∧ T'.off b := s.sq b _ ⟨xs, .inl rfl⟩ n h
theorem Kp.lst (s : Kp T H T' H') {b : Addr} {xs : List V} (n : T.off b) (h : H b = some (.lst xs)) : H' b = some (.lst xs) ∧ T'.off b := s.sq b _ ⟨xs, .inr (.inl rfl)⟩ n h
theorem LAt.kp {a : Addr} {xs : List V} (s : Kp T H T' H') (h : LAt K T H a xs) : LAt K T' H' a xs := by
  rcases h with ⟨h | ⟨o, h⟩, n⟩ | h
  · exact .inl ⟨.inl (s.lst n h).1, (s.lst n h).2⟩
  · have q := s.sq a _ ⟨xs, .inr (.inr (.inl ⟨o, .inl rfl⟩))⟩ n h
    exact .inl ⟨.inr ⟨o, q.1⟩, q.2⟩
  · exact .inr h
mutual
theorem Rep.kp (s : Kp T H T' H') : ∀ {v : V} {d : D}, Rep K T H v d → Rep K T' H' v d
  | _, _, .non => .non
  | _, _, .bl b => .bl b
  | _, _, .int i => .int i
  | _, _, .str x => .str x
  | _, _, .ty x => .ty x
  | _, _, .tup h n r => .tup (s.tup n h).1 (s.tup n h).2 (RepL.kp s r)
  | _, _, .lst h n r => .lst (s.lst n h).1 (s.lst n h).2 (RepL.kp s r)
  | _, _, .scr h => .scr (h.kp s)
  | _, _, .dct h n e r => .dct (s.dk _ (.inl _) n h).1 (s.dk _ (.inl _) n h).2 e (RepL.kp s r)
  | _, _, .loc h => .loc (s.get _ _ h)
  | _, _, .tux d h n r => .tux d (s.sq _ _ ⟨_, .inr (.inr (.inl ⟨_, .inr rfl⟩))⟩ n h).1 (s.sq _ _ ⟨_, .inr (.inr (.inl ⟨_, .inr rfl⟩))⟩ n h).2 (RepL.kp s r)
  | _, _, .dtt h n e r => .dtt (s.dk _ (.inr _) n h).1 (s.dk _ (.inr _) n h).2 e (RepL.kp s r)
  | _, _, .adr a => .adr a
  | _, _, .dpr h n e r q => .dpr (s.sq _ _ ⟨[], .inr (.inr (.inr ⟨_, rfl⟩))⟩ n h).1 (s.sq _ _ ⟨[], .inr (.inr (.inr ⟨_, rfl⟩))⟩ n h).2 e (RepL.kp s r) (RepL.kp s q)
theorem RepL.kp (s : Kp T H T' H') : ∀ {vs : List V} {ds : List D}, RepL K T H vs ds → RepL K T' H' vs ds
  | _, _, .nil => .nil
  | _, _, .cons h r => .cons (Rep.kp s h) (RepL.kp s r)
end
theorem Rep.step (s : Step T H T' H') {v : V} {d : D} (h : Rep K T H v d) : Rep K T' H' v d := h.kp s.kp
theorem RepL.step (s : Step T H T' H') {vs : List V} {ds : List D} (h : RepL K T H vs ds) : RepL K T' H' vs ds := h.kp s.kp
theorem RepL.length : ∀ {vs : List V} {ds : List D}, RepL K T H vs ds → vs.length = ds.length
  | _, _, .nil => rfl
  | _, _, .cons _ r => by rw [List.length_cons, List.length_cons, RepL.length r]
theorem RepL.get : ∀ {vs : List V} {ds : List D} {i : Nat} {d : D}, RepL K T H vs ds → ds[i]? = some d → ∃ v, vs[i]? = some v ∧ Rep K T H v d
  | _, _, i, _, .nil, e => by simp at e
  | _, _, 0, _, .cons r _, e => by simp at e; subst e; exact ⟨_, rfl, r⟩
  | _, _, i + 1, d, .cons _ t, e => by
    obtain ⟨v, h1, h2⟩ := RepL.get (i := i) (d := d) t (by simpa using e)
    exact ⟨v, by simpa using h1, h2⟩
theorem RepL.append : ∀ {vs ws : List V} {ds es : List D}, RepL K T H vs ds → RepL K T H ws es → RepL K T H (vs ++ ws) (ds ++ es)
  | _, _, _, _, .nil, s => s
  | _, _, _, _, .cons r t, s => .cons r (RepL.append t s)
theorem RepL.set {v : V} {d : D} (r : Rep K T H v d) : ∀ {vs : List V} {ds : List D} (i : Nat), RepL K T H vs ds → RepL K T H (vs.set i v) (ds.set i d)
  | _, _, _, .nil => .nil
  | _, _, 0, .cons _ t => .cons r t
  | _, _, i + 1, .cons q t => .cons q (RepL.set r i t)
theorem RepL.take : ∀ {vs : List V} {ds : List D} (n : Nat), RepL K T H vs ds → RepL K T H (vs.take n) (ds.take n)
  | _, _, 0, _ => .nil
  | _, _, _ + 1, .nil => .nil
  | _, _, n + 1, .cons r t => .cons r (RepL.take n t)
theorem RepL.drop : ∀ {vs : List V} {ds : List D} (n : Nat), RepL K T H vs ds → RepL K T H (vs.drop n) (ds.drop n)
  | _, _, 0, r => r
  | _, _, _ + 1, .nil => .nil
  | _, _, n + 1, .cons _ t => RepL.drop n t
theorem RepL.rep {vs : List V} {ds : List D} (h : RepL K T H vs ds) : ∀ k : Nat, RepL K T H (List.replicate k vs).flatten (List.replicate k ds).flatten
  | 0 => .nil
  | k + 1 => by
    rw [List.replicate_succ, List.replicate_succ, List.flatten_cons, List.flatten_cons]
    exact RepL.append h (RepL.rep h k)
theorem RepL.ints : ∀ (ns : List Int), RepL K T H (ns.map V.int) (ns.map D.int)
  | [] => .nil
  | n :: ns => .cons (.int n) (RepL.ints ns)
theorem RepL.of_ints : ∀ {vs : List V} {ns : List Int}, RepL K T H vs (ns.map D.int) → vs = ns.map V.int
  | _, [], .nil => rfl
  | _, n :: ns, .cons (.int _) r => by rw [RepL.of_ints r]; rfl
theorem RepL.of_bls : ∀ {vs : List V} {ns : List Bool}, RepL K T H vs (ns.map D.bl) → vs = ns.map V.bl
  | _, [], .nil => rfl
  | _, n :: ns, .cons (.bl _) r => by rw [RepL.of_bls r]; rfl
end

def HLen (H : Hp) : Prop := ∀ a xs, (Rd H a (.lst xs) ∨ Rd H a (.tup xs)) → xs.length ≤ sizeLine

def TblAt (K : PySem.W.Frag) (mg : Str → Option Value) (x : Str) (a : Addr) : Prop :=
  ∃ (f c : Addr) (oc oc2 : Value) (od od2 : Option Addr) (fd : FuncData) (sl sl2 : Array (Option Value)) (vs : Array Value), mg x = some (.ref f) ∧ K.lookup f = some ⟨oc, od, .func fd, sl⟩ ∧ fd.code = .ref c ∧ K.lookup c = some ⟨oc2, od2, .fields vs, sl2⟩ ∧ vs[11]? = some (.ref a)
def ORep (K : PySem.W.Frag) (mg : Str → Option Value) (T : Tb) (H : Hp) (a : Addr) : O → Prop
  | .lst ds => ∃ xs, H a = some (.lst xs) ∧ RepL K T H xs ds
  | .dct kds => ∃ kvs, H a = some (.dK kvs) ∧ kvs.map (·.1) = kds.map (·.1) ∧ RepL K T H (kvs.map (·.2)) (kds.map (·.2))
  | .ins c fs => ∃ C dx fvs, mg c = some (.ref C) ∧ H a = some (.ins C dx fvs) ∧ fvs.map (·.1) = fs.map (·.1) ∧ RepL K T H (fvs.map (·.2)) (fs.map (·.2))
  | .dtt kds => ∃ kvs, H a = some (.dT kvs) ∧ kvs.map (·.1) = kds.map (·.1) ∧ RepL K T H (kvs.map (·.2)) (kds.map (·.2))
  | .dpr w kds => ∃ xs, H a = some (DprO w a xs) ∧ xs.map (·.1) = kds.map (·.1) ∧ RepL K T H (xs.map fun x => V.ref x.2.1) (xs.map fun x => prD x.1) ∧ RepL K T H (xs.map (·.2.2)) (kds.map (·.2))
  | .tbl x q => TblAt K mg x a ∧ ∃ ps : Array Value, H a = some (.tbl ps) ∧ TriplesOk ps.toList ∧ ∀ (pos : Pos) (cv : Value), codeAmong pos ps.toList = some cv → ∃ c, cv = .ref c ∧ H c = some (LamX.CodeO c q) ∧ T.off c

structure Sim (K : PySem.W.Frag) (mg : Str → Option Value) (T : Tb) (S : Store) (H : Hp) : Prop where
  len : T.loc.length = S.length
  nd : (T.loc ++ T.hid).Nodup
  obj : ∀ (i : Nat) (a : Addr) (o : O), T.loc[i]? = some a → S[i]? = some o → ORep K mg T H a o
  hid' : ∀ a, a ∈ T.hid → H a ≠ none ∧ ∀ xs, H a ≠ some (.tup xs)
  hl : HLen H

section
variable {K : PySem.W.Frag} {mg : Str → Option Value} {T T' : Tb} {H H' : Hp} {S : Store}
theorem ORep.kp {a : Addr} {o : O} (s : Kp T H T' H') (e : H' a = H a) (h : ORep K mg T H a o) : ORep K mg T' H' a o := by
  cases o with
  | lst ds =>
    obtain ⟨xs, h1, h2⟩ := h
    exact ⟨xs, e.trans h1, h2.kp s⟩
  | dct kds =>
    obtain ⟨kvs, h1, h2, h3⟩ := h
    exact ⟨kvs, e.trans h1, h2, h3.kp s⟩
  | dtt kds =>
    obtain ⟨kvs, h1, h2, h3⟩ := h
    exact ⟨kvs, e.trans h1, h2, h3.kp s⟩
  | dpr w kds =>
    obtain ⟨xs, h1, h2, h3, h4⟩ := h
    exact ⟨xs, e.trans h1, h2, h3.kp s, h4.kp s⟩
  | ins c fs =>
    obtain ⟨C, dx, fvs, h1, h2, h3, h4⟩ := h
    exact ⟨C, dx, fvs, h1, e.trans h2, h3, h4.kp s⟩
  | tbl x q =>
    obtain ⟨hx, ps, h1, h2, h3⟩ := h
    refine ⟨hx, ps, e.trans h1, h2, fun pos cv hc => ?_⟩
    obtain ⟨c, rfl, h4, h5⟩ := h3 pos cv hc
    obtain ⟨h6, h7⟩ := s.sq c _ ⟨[], .inr (.inr (.inr ⟨_, rfl⟩))⟩ h5 h4
    exact ⟨c, rfl, h6, h7⟩
theorem ORep.step {a : Addr} {o : O} (s : Step T H T' H') (e : H' a = H a) (h : ORep K mg T H a o) : ORep K mg T' H' a o := h.kp s.kp e
theorem ORep.some {a : Addr} {o : O} (h : ORep K mg T H a o) : H a ≠ none := by
  cases o with
  | lst ds => obtain ⟨xs, h1, _⟩ := h; rw [h1]; exact fun e => by cases e
  | dct kds => obtain ⟨kvs, h1, _⟩ := h; rw [h1]; exact fun e => by cases e
  | dtt kds => obtain ⟨kvs, h1, _⟩ := h; rw [h1]; exact fun e => by cases e
  | dpr w kds => obtain ⟨kvs, h1, _⟩ := h; rw [h1]; exact fun e => by cases e
  | ins c fs => obtain ⟨C, dx, fvs, _, h2, _⟩ := h; rw [h2]; exact fun e => by cases e
  | tbl x q => obtain ⟨_, ps, h1, _⟩ := h; rw [h1]; exact fun e => by cases e
theorem Sim.hid (s : Sim K mg T S H) (a : Addr) (h : a ∈ T.hid) : H a ≠ none := (s.hid' a h).1
theorem Sim.ndl (s : Sim K mg T S H) : T.loc.Nodup := (List.nodup_append.mp s.nd).1
theorem Sim.apart (s : Sim K mg T S H) {a : Addr} (h : a ∈ T.loc) (h2 : a ∈ T.hid) : False := (List.nodup_append.mp s.nd).2.2 a h a h2 rfl
theorem Sim.there (s : Sim K mg T S H) {a : Addr} (h : a ∈ T.loc) : H a ≠ none := by
  obtain ⟨i, hi, e⟩ := List.mem_iff_getElem.mp h
  have h1 : T.loc[i]? = some a := by rw [List.getElem?_eq_getElem hi, e]
  have hi2 : i < S.length := by rw [← s.len]; exact hi
  exact (s.obj i a S[i] h1 (List.getElem?_eq_getElem hi2)).some
theorem Sim.off (s : Sim K mg T S H) {p : Addr} (hp : H p = none) : T.off p := ⟨fun h => s.there h hp, fun h => s.hid p h hp⟩
theorem Sim.grow (s : Sim K mg T S H) (st : Step T H T H') (e : ∀ a ∈ T.loc, H' a = H a) (hl : HLen H') : Sim K mg T S H' :=
  ⟨s.len, s.nd, fun i a o h1 h2 => (s.obj i a o h1 h2).step st (e a (List.mem_of_getElem? h1)), fun a h => by rw [st.hkeep a h]; exact s.hid' a h, hl⟩
theorem Sim.stepNew {p : Addr} {o : HO} (s : Sim K mg T S H) (hp : H p = none) : Step T H T (upd H p o) :=
  ⟨⟨[], by simp⟩, rfl, fun b hb => upd_ne fun e => s.hid b hb (by rw [e]; exact hp), fun b u _ h => by rw [upd_ne (ne_of_none h hp)]; exact h, fun _ h n => absurd h n⟩
theorem hlen_new {p : Addr} {o : HO} (h : HLen H) (ho : ∀ xs, (o = .lst xs ∨ o = .tup xs ∨ (∃ x, o = .frz x (.lst xs)) ∨ ∃ x, o = .frz x (.tup xs)) → xs.length ≤ sizeLine) : HLen (upd H p o) := fun a xs hr => by
  by_cases e : a = p
  · subst e
    refine ho xs ?_
    rcases hr with (q | ⟨x, q⟩) | (q | ⟨x, q⟩) <;> rw [upd_same] at q <;> cases q
    · exact .inl rfl
    · exact .inr (.inr (.inl ⟨x, rfl⟩))
    · exact .inr (.inl rfl)
    · exact .inr (.inr (.inr ⟨x, rfl⟩))
  · refine h a xs ?_
    rcases hr with (q | ⟨x, q⟩) | (q | ⟨x, q⟩) <;> rw [upd_ne e] at q
    · exact .inl (.inl q)
    · exact .inl (.inr ⟨x, q⟩)
    · exact .inr (.inl q)
    · exact .inr (.inr ⟨x, q⟩)
theorem hlen_lst {p : Addr} {xs : List V} (h : HLen H) (hx : xs.length ≤ sizeLine) : HLen (upd H p (.lst xs)) := hlen_new h fun ys q => by
  rcases q with q | q | ⟨x, q⟩ | ⟨x, q⟩ <;> cases q
  exact hx
theorem hlen_tup {p : Addr} {xs : List V} (h : HLen H) (hx : xs.length ≤ sizeLine) : HLen (upd H p (.tup xs)) := hlen_new h fun ys q => by
  rcases q with q | q | ⟨x, q⟩ | ⟨x, q⟩ <;> cases q
  exact hx
theorem hlen_oth {p : Addr} {o : HO} (h : HLen H) (ho : ∀ xs, o ≠ .lst xs ∧ o ≠ .tup xs ∧ (∀ x, o ≠ .frz x (.lst xs)) ∧ ∀ x, o ≠ .frz x (.tup xs)) : HLen (upd H p o) := hlen_new h fun ys q => by
  obtain ⟨h1, h2, h3, h4⟩ := ho ys
  rcases q with q | q | ⟨x, q⟩ | ⟨x, q⟩
  · exact absurd q h1
  · exact absurd q h2
  · exact absurd q (h3 x)
  · exact absurd q (h4 x)
theorem Sim.new {p : Addr} {o : HO} (s : Sim K mg T S H) (hp : H p = none) (hl : HLen (upd H p o)) : Sim K mg T S (upd H p o) :=
  s.grow (s.stepNew hp) (fun a ha => upd_ne fun e => s.there ha (by rw [e]; exact hp)) hl
theorem Sim.llen (s : Sim K mg T S H) {a : Addr} {xs : List V} (h : LAt K T H a xs) : xs.length ≤ sizeLine := by
  rcases h with ⟨h, _⟩ | h
  · exact s.hl a xs (.inl h)
  · exact h.len
def Tb.add (T : Tb) (p : Addr) : Tb := ⟨T.loc ++ [p], T.hid⟩
theorem Sim.stepAlloc {p : Addr} {o : HO} (s : Sim K mg T S H) (hp : H p = none) : Step T H (T.add p) (upd H p o) := ⟨⟨[p], rfl⟩, rfl, (s.stepNew hp).hkeep, (s.stepNew hp).keep, fun a h n => by
  rcases List.mem_append.mp h with h | h
  · exact absurd h n
  · rw [List.mem_singleton.mp h]; exact hp⟩
theorem Sim.alloc {p : Addr} {u : HO} {o : O} (s : Sim K mg T S H) (hp : H p = none) (hl : HLen (upd H p u)) (ho : ORep K mg (T.add p) (upd H p u) p o) : Sim K mg (T.add p) (S ++ [o]) (upd H p u) where
  len := by
    show (T.loc ++ [p]).length = _
    rw [List.length_append, List.length_append, s.len]; rfl
  nd := by
    have h0 := List.nodup_append.mp s.nd
    refine List.nodup_append.mpr ⟨List.nodup_append.mpr ⟨h0.1, by simp, fun a ha b hb e => (s.off hp).1 (by rw [← List.mem_singleton.mp hb, ← e]; exact ha)⟩, h0.2.1, fun a ha b hb e => ?_⟩
    rcases List.mem_append.mp ha with ha | ha
    · exact h0.2.2 a ha b hb e
    · exact (s.off hp).2 (by rw [← List.mem_singleton.mp ha, e]; exact hb)
  obj := fun i a o' h1 h2 => by
    have h1 : (T.loc ++ [p])[i]? = Option.some a := h1
    by_cases hi : i < T.loc.length
    · rw [List.getElem?_append_left hi] at h1
      rw [List.getElem?_append_left (by rw [← s.len]; exact hi)] at h2
      exact (s.obj i a o' h1 h2).step (s.stepAlloc hp) (upd_ne fun e => (s.off hp).1 (by rw [← e]; exact List.mem_of_getElem? h1))
    · rw [List.getElem?_append_right (by omega)] at h1
      rw [List.getElem?_append_right (by rw [← s.len]; omega)] at h2
      rw [← s.len] at h2
      cases k : i - T.loc.length with
      | zero =>
        rw [k] at h1 h2
        cases h1; cases h2
        exact ho
      | succ j =>
        rw [k] at h1
        cases h1
  hid' := fun a h => by rw [(s.stepNew hp).hkeep a h]; exact s.hid' a h
  hl := hl
theorem Sim.stepSet {p : Addr} {u : HO} (s : Sim K mg T S H) (hp : p ∈ T.loc) : Step T H T (upd H p u) := ⟨⟨[], by simp⟩, rfl, fun b hb => upd_ne fun e => s.apart hp (by rw [← e]; exact hb), fun b v n h => by
  rw [upd_ne fun e => n.1 (by rw [e]; exact hp)]
  exact h, fun _ h n => absurd h n⟩
theorem Sim.set {p : Addr} {u : HO} {o : O} {n : Nat} (s : Sim K mg T S H) (hp : T.loc[n]? = Option.some p) (hl : HLen (upd H p u)) (ho : ORep K mg T (upd H p u) p o) : Sim K mg T (S.set n o) (upd H p u) where
  len := by rw [List.length_set, s.len]
  nd := s.nd
  obj := fun i a o' h1 h2 => by
    by_cases hi : i = n
    · subst hi
      rw [hp] at h1; cases h1
      have hlt : i < S.length := by rw [← s.len]; exact (List.getElem?_eq_some_iff.mp hp).1
      rw [List.getElem?_set_self hlt] at h2
      cases h2
      exact ho
    · rw [List.getElem?_set_ne (Ne.symm hi)] at h2
      refine (s.obj i a o' h1 h2).step (s.stepSet (List.mem_of_getElem? hp)) (upd_ne fun e => hi ?_)
      subst e
      exact nd_ix s.ndl h1 hp
  hid' := fun a h => by rw [(s.stepSet (List.mem_of_getElem? hp)).hkeep a h]; exact s.hid' a h
  hl := hl
end

def RepSt (K : PySem.W.Frag) (T : Tb) (H : Hp) (r : Env) (g : St) : Prop := r.length = g.length ∧ ∀ (i : Nat) (d : D), r[i]? = some (some d) → ∃ v, g[i]? = some (some v) ∧ Rep K T H v d
section
variable {K : PySem.W.Frag} {T T' : Tb} {H H' : Hp} {r : Env} {g : St}
theorem RepSt.kp (s : Kp T H T' H') (h : RepSt K T H r g) : RepSt K T' H' r g := ⟨h.1, fun i d e => by
  obtain ⟨v, h1, h2⟩ := h.2 i d e
  exact ⟨v, h1, h2.kp s⟩⟩
theorem RepSt.step (s : Step T H T' H') (h : RepSt K T H r g) : RepSt K T' H' r g := h.kp s.kp
theorem RepSt.set {i : Nat} {v : V} {d : D} (h : RepSt K T H r g) (hv : Rep K T H v d) : RepSt K T H (r.set i (some d)) (g.set i (some v)) := ⟨by rw [List.length_set, List.length_set, h.1], fun j e q => by
  by_cases hj : j = i
  · subst hj
    by_cases hl : j < r.length
    · rw [List.getElem?_set_self hl] at q
      cases q
      exact ⟨v, by rw [List.getElem?_set_self (by rw [← h.1]; exact hl)], hv⟩
    · rw [List.getElem?_eq_none (by rw [List.length_set]; omega)] at q
      cases q
  · rw [List.getElem?_set_ne (Ne.symm hj)] at q ⊢
    exact h.2 j e q⟩
theorem RepSt.forgetB {i : Nat} (h : RepSt K T H r g) : RepSt K T H (r.set i none) (g.set i none) := ⟨by rw [List.length_set, List.length_set, h.1], fun j e q => by
  by_cases hj : j = i
  · subst hj
    by_cases hl : j < r.length
    · rw [List.getElem?_set_self hl] at q
      cases q
    · rw [List.getElem?_eq_none (by rw [List.length_set]; omega)] at q
      cases q
  · rw [List.getElem?_set_ne (Ne.symm hj)] at q ⊢
    exact h.2 j e q⟩
end

inductive R (α : Type) where
  | ok (a : α) (S : Store) : R α
  | exc (n : Str) (S : Store) : R α
  | bad : R α
def R.bind {α β : Type} (x : R α) (f : α → Store → R β) : R β := match x with
  | .ok a S => f a S
  | .exc n S => .exc n S
  | .bad => .bad
theorem R.bind_ok {α β : Type} (a : α) (S : Store) (f : α → Store → R β) : (R.ok a S).bind f = f a S := rfl
abbrev EM := Env → Store → R D
abbrev AM := Env → Store → R (List D)
abbrev BM := Env → Store → R Bool
inductive Fl where
  | next | ret (d : D) | brk | cont
inductive Z where
  | ok (f : Fl) (r : Env) (S : Store) : Z
  | exc (n : Str) (r : Env) (S : Store) : Z
  | bad : Z
abbrev SM := Env → Store → Z

section
variable (K : PySem.W.Frag) (mg : Str → Option Value) (Wx : WX)
def Wish (n : Str) (g : St) (H : Hp) : Prop := ∀ cls, mg n = some cls → Wx cls none g H
def Out {α β : Type} (rel : Tb → Hp → β → α → Prop) (T : Tb) (g : St) (H : Hp) (x : R α) (Q : β → Hp → Prop) : Prop := match x with
  | .ok d S => ∀ T' H' v, Step T H T' H' → Sim K mg T' S H' → rel T' H' v d → Q v H'
  | .exc n S => ∀ T' H', Step T H T' H' → Sim K mg T' S H' → Wish mg Wx n g H'
  | .bad => False
def tD (m : EM) : TE := fun g H Q => ∃ T r S, RepSt K T H r g ∧ Sim K mg T S H ∧ Out K mg Wx (Rep K) T g H (m r S) Q
def tDA (m : AM) : TA := fun g H Q => ∃ T r S, RepSt K T H r g ∧ Sim K mg T S H ∧ Out K mg Wx (RepL K) T g H (m r S) Q
def tDT (m : BM) : TT := fun g H Q => ∃ T r S, RepSt K T H r g ∧ Sim K mg T S H ∧ Out K mg Wx (fun _ _ v d => v = d) T g H (m r S) Q
def ZOut (T : Tb) (H : Hp) (z : Z) (E : Ends) : Prop := match z with
  | .ok .next r' S' => ∀ T' H' g', Step T H T' H' → Sim K mg T' S' H' → RepSt K T' H' r' g' → E.nx g' H'
  | .ok (.ret d) r' S' => ∀ T' H' v, Step T H T' H' → Sim K mg T' S' H' → Rep K T' H' v d → E.rt v H'
  | .ok .brk r' S' => ∀ T' H' g', Step T H T' H' → Sim K mg T' S' H' → RepSt K T' H' r' g' → E.bk g' H'
  | .ok .cont r' S' => ∀ T' H' g', Step T H T' H' → Sim K mg T' S' H' → RepSt K T' H' r' g' → E.ct g' H'
  | .exc n r' S' => ∀ T' H' g', Step T H T' H' → Sim K mg T' S' H' → RepSt K T' H' r' g' → Wish mg Wx n g' H'
  | .bad => False
def tDS (m : SM) : TS := fun E g H => ∃ T r S, RepSt K T H r g ∧ Sim K mg T S H ∧ ZOut K mg Wx T H (m r S) E
end
end Dv
namespace Dv
open PySem L2
theorem Sim.newGet {K : PySem.W.Frag} {mg : Str → Option Value} {T : Tb} {S : Store} {H : Hp} (s : Sim K mg T S H) {p : Addr} : (T.add p).loc[S.length]? = some p := by
  show (T.loc ++ [p])[S.length]? = some p
  rw [← s.len, List.getElem?_append_right (Nat.le_refl _), Nat.sub_self]
  rfl
section
variable {X : Cx}
theorem pe_imp {e : Expr} {t t' : TE} (h : PE X e t) (i : ∀ g H Q, t' g H Q → t g H Q) : PE X e t' := ⟨fun pins s g H Q I w => h.run pins s g H Q I (i g H Q w)⟩
theorem pt_imp {e : Expr} {t t' : TT} (h : PT X e t) (i : ∀ g H Q, t' g H Q → t g H Q) : PT X e t' := ⟨fun pins s g H Q I w => h.run pins s g H Q I (i g H Q w)⟩
theorem pw_imp {e : Expr} {t t' : TT} (h : PW X e t) (i : ∀ g H Q, t' g H Q → t g H Q) : PW X e t' := ⟨fun wh pins s g H Q I w => h.run wh pins s g H Q I (i g H Q w)⟩
theorem pa_imp {es : List Expr} {t t' : TA} (h : PA X es t) (i : ∀ g H Q, t' g H Q → t g H Q) : PA X es t' := ⟨fun pos pins s g H Q I w => h.run pos pins s g H Q I (i g H Q w)⟩
theorem ps_imp {st : Stmt} {t t' : TS} (h : PS X st t) (i : ∀ E g H, t' E g H → t E g H) : PS X st t' := ⟨fun pins s g H E I w => h.run pins s g H E I (i E g H w)⟩
theorem pss_imp {st : List Stmt} {t t' : TS} (h : PSs X st t) (i : ∀ E g H, t' E g H → t E g H) : PSs X st t' := ⟨fun pins s g H E I w => h.run pins s g H E I (i E g H w)⟩
theorem pi_imp {tg e : Expr} {t t' : TI} (h : PI X tg e t) (i : ∀ g H R, t' g H R → t g H R) : PI X tg e t' := ⟨fun pins s g H R I w => h.run pins s g H R I (i g H R w)⟩
end

def ofO {α : Type} (o : Option α) (S : Store) : R α := match o with
  | some a => .ok a S
  | none => .bad

section
variable {K : PySem.W.Frag} {mg : Str → Option Value} {Wx : WX} {α β γ δ : Type} {relA : Tb → Hp → β → α → Prop} {relB : Tb → Hp → δ → γ → Prop} {T : Tb} {g : St} {H : Hp}
theorem Out.bind {x : R α} {f : α → Store → R γ} {Q : δ → Hp → Prop} {Q1 : β → Hp → Prop} (h : Out K mg Wx relB T g H (x.bind f) Q)
    (k : ∀ a S T1 H1 v, Step T H T1 H1 → Sim K mg T1 S H1 → relA T1 H1 v a → Out K mg Wx relB T1 g H1 (f a S) Q → Q1 v H1) : Out K mg Wx relA T g H x Q1 := by
  cases x with
  | bad => exact h
  | exc n S => exact h
  | ok a S =>
    intro T1 H1 v st sim rel
    refine k a S T1 H1 v st sim rel ?_
    have h : Out K mg Wx relB T g H (f a S) Q := h
    revert h
    cases f a S with
    | bad => exact fun h => h
    | exc n S2 => exact fun h T2 H2 st2 sim2 => h T2 H2 (st.trans st2) sim2
    | ok b S2 => exact fun h T2 H2 w st2 sim2 rel2 => h T2 H2 w (st.trans st2) sim2 rel2
theorem Out.use {o : Option γ} {S : Store} {Q : δ → Hp → Prop} {P : Prop} (h : Out K mg Wx relB T g H (ofO o S) Q)
    (k : ∀ b, o = some b → (∀ T' H' v, Step T H T' H' → Sim K mg T' S H' → relB T' H' v b → Q v H') → P) : P := by
  cases o with
  | none => exact h.elim
  | some b => exact k b rfl h
end

def mVar (i : Nat) : EM := fun r S => match r[i]? with
  | some (some d) => .ok d S
  | _ => .bad
def mC (d : D) : EM := fun _ S => .ok d S
section
variable {X : Cx} {Wx : WX}
theorem jv (i : Nat) {x : Str} {pos : Pos} (hN : X.N[i]? = some x := by rfl) (hv : Vis X.env.scope x := by first | exact Or.inl rfl | exact Or.inr (Or.inl rfl) | exact Or.inr (Or.inr rfl)) (hd : (x == ("__debug__" : Str)) = false := by decide)
    (hcd : (x == ("__classdict__" : Str)) = false := by decide) : PE X (.Name x pos) (tD X.K X.mg Wx (mVar i)) := by
  refine pe_imp (pe_var hN hv hd hcd) fun g H Q h => ?_
  obtain ⟨T, r, S, rs, sim, h⟩ := h
  unfold mVar at h
  split at h
  · rename_i d e
    obtain ⟨v, h1, h2⟩ := rs.2 i d e
    exact ⟨v, h1, h T H v (Step.refl T H) sim h2⟩
  · exact h.elim
theorem j_c {e : Expr} {v : V} {d : D} (h : PE X e (tC v)) (hd : ∀ T H, Rep X.K T H v d) : PE X e (tD X.K X.mg Wx (mC d)) := by
  refine pe_imp h fun g H Q h => ?_
  obtain ⟨T, r, S, rs, sim, h⟩ := h
  exact h T H v (Step.refl T H) sim (hd T H)
theorem j_int {i j pos} : PE X (.Constant (.int i) j pos) (tD X.K X.mg Wx (mC (.int i))) := j_c pe_int fun _ _ => .int i
theorem j_bl {i j pos} : PE X (.Constant (.bool i) j pos) (tD X.K X.mg Wx (mC (.bl i))) := j_c pe_bl fun _ _ => .bl i
theorem j_str {i j pos} : PE X (.Constant (.str i) j pos) (tD X.K X.mg Wx (mC (.str i))) := j_c pe_str fun _ _ => .str i
theorem j_non {j pos} : PE X (.Constant .none j pos) (tD X.K X.mg Wx (mC .non)) := j_c pe_non fun _ _ => .non
end

def mNil : AM := fun _ S => .ok [] S
def mCons (m : EM) (ms : AM) : AM := fun r S => (m r S).bind fun d S1 => (ms r S1).bind fun ds S2 => .ok (d :: ds) S2
def mTup (ms : AM) : EM := fun r S => (ms r S).bind fun ds S1 => if ds.length ≤ 100000 then .ok (.tup ds) S1 else .bad
def mLst (ms : AM) : EM := fun r S => (ms r S).bind fun ds S1 => if ds.length ≤ 100000 then .ok (.lst ds) S1 else .bad
def mNewL (ms : AM) : EM := fun r S => (ms r S).bind fun ds S1 => if ds.length ≤ 100000 then .ok (.loc S1.length) (S1 ++ [.lst ds]) else .bad
theorem sz5 {n : Nat} (h : n ≤ 100000) : n ≤ sizeLine := Nat.le_trans h (by decide)
section
variable {X : Cx} {Wx : WX} {e : Expr} {es : List Expr} {pos : Pos} {m : EM} {ms : AM}
theorem ja_nil : PA X [] (tDA X.K X.mg Wx mNil) := by
  refine pa_imp pa_nil fun g H Q h => ?_
  obtain ⟨T, r, S, rs, sim, h⟩ := h
  exact h T H [] (Step.refl T H) sim .nil
theorem ja_cons (ha : PE X e (tD X.K X.mg Wx m)) (hr : PA X es (tDA X.K X.mg Wx ms)) (hs : starEach (e :: es) X.env = (false, eval e X.env) :: starEach es X.env := by rfl) : PA X (e :: es) (tDA X.K X.mg Wx (mCons m ms)) := by
  refine pa_imp (pa_cons ha hr hs) fun g H Q h => ?_
  obtain ⟨T, r, S, rs, sim, h⟩ := h
  refine ⟨T, r, S, rs, sim, Out.bind h fun d S1 T1 H1 v st sim1 rel h1 => ?_⟩
  refine ⟨T1, r, S1, rs.step st, sim1, Out.bind h1 fun ds S2 T2 H2 vs st2 sim2 rel2 h2 => ?_⟩
  exact h2 T2 H2 (v :: vs) (Step.refl T2 H2) sim2 (.cons (rel.step st2) rel2)
theorem j_tup {x1} (h : PA X es (tDA X.K X.mg Wx ms)) : PE X (.Tuple es x1 pos) (tD X.K X.mg Wx (mTup ms)) := by
  refine pe_imp (pe_tup h) fun g H Q h => ?_
  obtain ⟨T, r, S, rs, sim, h⟩ := h
  refine ⟨T, r, S, rs, sim, Out.bind h fun ds S1 T1 H1 vs st sim1 rel h1 => ?_⟩
  split at h1
  · rename_i hz
    have hz' : vs.length ≤ sizeLine := by rw [rel.length]; exact sz5 hz
    refine ⟨hz', fun p hp => ?_⟩
    have st1 : Step T1 H1 T1 (upd H1 p (.tup vs)) := sim1.stepNew hp
    exact h1 T1 _ _ st1 (sim1.new hp (hlen_tup sim1.hl hz')) (.tup upd_same (sim1.off hp) (rel.step st1))
  · exact h1.elim
theorem j_lst (h : PA X es (tDA X.K X.mg Wx ms)) : PE X (.List es pos) (tD X.K X.mg Wx (mLst ms)) := by
  refine pe_imp (pe_lst h) fun g H Q h => ?_
  obtain ⟨T, r, S, rs, sim, h⟩ := h
  refine ⟨T, r, S, rs, sim, Out.bind h fun ds S1 T1 H1 vs st sim1 rel h1 => ?_⟩
  split at h1
  · rename_i hz
    have hz' : vs.length ≤ sizeLine := by rw [rel.length]; exact sz5 hz
    refine ⟨hz', fun p hp => ?_⟩
    have st1 : Step T1 H1 T1 (upd H1 p (.lst vs)) := sim1.stepNew hp
    exact h1 T1 _ _ st1 (sim1.new hp (hlen_lst sim1.hl hz')) (.lst upd_same (sim1.off hp) (rel.step st1))
  · exact h1.elim
theorem j_newL (h : PA X es (tDA X.K X.mg Wx ms)) : PE X (.List es pos) (tD X.K X.mg Wx (mNewL ms)) := by
  refine pe_imp (pe_lst h) fun g H Q h => ?_
  obtain ⟨T, r, S, rs, sim, h⟩ := h
  refine ⟨T, r, S, rs, sim, Out.bind h fun ds S1 T1 H1 vs st sim1 rel h1 => ?_⟩
  split at h1
  · rename_i hz
    have hz' : vs.length ≤ sizeLine := by rw [rel.length]; exact sz5 hz
    refine ⟨hz', fun p hp => ?_⟩
    have st1 : Step T1 H1 (T1.add p) (upd H1 p (.lst vs)) := sim1.stepAlloc hp
    refine h1 (T1.add p) _ _ st1 (sim1.alloc hp (hlen_lst sim1.hl hz') ⟨vs, upd_same, rel.step st1⟩) (.loc ?_)
    exact sim1.newGet
  · exact h1.elim
end

section
variable (K : PySem.W.Frag) (mg : Str → Option Value)
def POk (r : List V → Hp → VK → Prop) (f : List D → Store → Option D) : Prop := ∀ T S H vs ds d (Q : VK), Sim K mg T S H → RepL K T H vs ds → f ds S = some d →
  (∀ H' v, Step T H T H' → Sim K mg T S H' → Rep K T H' v d → Q v H') → r vs H Q
def POk2 (r : R2) (f : D → D → Store → Option D) : Prop := ∀ T S H x y a b d (Q : VK), Sim K mg T S H → Rep K T H x a → Rep K T H y b → f a b S = some d →
  (∀ H' v, Step T H T H' → Sim K mg T S H' → Rep K T H' v d → Q v H') → r x y H Q
def POk1 (r : V → Hp → VK → Prop) (f : D → Store → Option D) : Prop := ∀ T S H x a d (Q : VK), Sim K mg T S H → Rep K T H x a → f a S = some d →
  (∀ H' v, Step T H T H' → Sim K mg T S H' → Rep K T H' v d → Q v H') → r x H Q
end
def mBin (f : D → D → Store → Option D) (ma mb : EM) : EM := fun r S => (ma r S).bind fun a S1 => (mb r S1).bind fun b S2 => ofO (f a b S2) S2
def mUn (f : D → Store → Option D) (ma : EM) : EM := fun r S => (ma r S).bind fun a S1 => ofO (f a S1) S1
def mCall (f : List D → Store → Option D) (ms : AM) : EM := fun r S => (ms r S).bind fun ds S1 => ofO (f ds S1) S1
section
variable {X : Cx} {Wx : WX} {a b : Expr} {es : List Expr} {pos : Pos} {ma mb : EM} {ms : AM}
theorem tOp_of {K : PySem.W.Frag} {mg : Str → Option Value} {r : R2} {f : D → D → Store → Option D} (hf : POk2 K mg r f) : ∀ g H Q, tD K mg Wx (mBin f ma mb) g H Q → tOp r (tD K mg Wx ma) (tD K mg Wx mb) g H Q := by
  intro g H Q h
  obtain ⟨T, r, S, rs, sim, h⟩ := h
  refine ⟨T, r, S, rs, sim, Out.bind h fun x S1 T1 H1 v st sim1 rel h1 => ?_⟩
  refine ⟨T1, r, S1, rs.step st, sim1, Out.bind h1 fun y S2 T2 H2 w st2 sim2 rel2 h2 => ?_⟩
  exact Out.use h2 fun d e k => hf T2 S2 H2 v w x y d Q sim2 (rel.step st2) rel2 e fun H' v' s' => k T2 H' v' s'
theorem j_bin {op : Operator} {r : R2} {f : D → D → Store → Option D} (ho : OpR X (binaryOp op) r) (hf : POk2 X.K X.mg r f) (ha : PE X a (tD X.K X.mg Wx ma)) (hb : PE X b (tD X.K X.mg Wx mb)) : PE X (.BinOp a op b pos) (tD X.K X.mg Wx (mBin f ma mb)) :=
  pe_imp (pe_op ho ha hb) (tOp_of hf)
theorem j_cmp {op : CmpOp} {r : R2} {f : D → D → Store → Option D} (ho : OpR X (compareOp op) r) (hf : POk2 X.K X.mg r f) (hm : behindInMarks op b = false) (ha : PE X a (tD X.K X.mg Wx ma)) (hb : PE X b (tD X.K X.mg Wx mb)) : PE X (.Compare a [op] [b] pos) (tD X.K X.mg Wx (mBin f ma mb)) :=
  pe_imp (pe_cmpR ho ha hb hm) (tOp_of hf)
theorem j_un {op : UnaryOp} {r : V → Hp → VK → Prop} {f : D → Store → Option D} (ho : UnR X (unaryOp op) r) (hf : POk1 X.K X.mg r f) (ha : PE X a (tD X.K X.mg Wx ma)) : PE X (.UnaryOp op a pos) (tD X.K X.mg Wx (mUn f ma)) := by
  refine pe_imp (pe_un ho ha) fun g H Q h => ?_
  obtain ⟨T, r, S, rs, sim, h⟩ := h
  refine ⟨T, r, S, rs, sim, Out.bind h fun x S1 T1 H1 v st sim1 rel h1 => ?_⟩
  exact Out.use h1 fun d e k => hf T1 S1 H1 v x d Q sim1 rel e fun H' v' s' => k T1 H' v' s'
theorem j_ix {r : R2} {f : D → D → Store → Option D} (ho : IxR X r) (hf : POk2 X.K X.mg r f) (hs : PlainIx b) (ha : PE X a (tD X.K X.mg Wx ma)) (hb : PE X b (tD X.K X.mg Wx mb)) : PE X (.Subscript a b pos) (tD X.K X.mg Wx (mBin f ma mb)) :=
  pe_imp (pe_ix ho ha hb hs) (tOp_of hf)
theorem tCB_of {K : PySem.W.Frag} {mg : Str → Option Value} {r : List V → Hp → VK → Prop} {f : List D → Store → Option D} (hf : POk K mg r f) : ∀ g H Q, tD K mg Wx (mCall f ms) g H Q → tCB r (tDA K mg Wx ms) g H Q := by
  intro g H Q h
  obtain ⟨T, r, S, rs, sim, h⟩ := h
  refine ⟨T, r, S, rs, sim, Out.bind h fun x S1 T1 H1 v st sim1 rel h1 => ?_⟩
  exact Out.use h1 fun d e k => hf T1 S1 H1 v x d Q sim1 rel e fun H' v' s' => k T1 H' v' s'
theorem j_callB {x : Str} {p : Pos} {e : Expr} {id : String} {r : List V → Hp → VK → Prop} {f : List D → Store → Option D} (hc : CallR X (.builtin id) r) (hf : POk X.K X.mg r f) (hg : Gl X x) (hm : X.mg x = none) (hv : bootBuiltins x = some (.builtin id)) (ha : PA X (e :: es) (tDA X.K X.mg Wx ms))
    (hn : x ≠ "__name__" := by decide) (hdb : (x == ("__debug__" : Str)) = false := by decide) (he : starEach (e :: es) X.env = (false, eval e X.env) :: starEach es X.env := by rfl) (hpl : (backTo pos (starEach es X.env)).any (·.1) = false := by rfl) :
    PE X (.Call (.Name x p) (e :: es) [] pos) (tD X.K X.mg Wx (mCall f ms)) := pe_imp (pe_callB hc hg hm hv ha hn hdb he hpl) (tCB_of hf)
theorem j_callT {x : Str} {p : Pos} {e : Expr} {id : String} {r : List V → Hp → VK → Prop} {f : List D → Store → Option D} (hc : CallR X (.type id) r) (hf : POk X.K X.mg r f) (hg : Gl X x) (hm : X.mg x = none) (hv : bootBuiltins x = some (.type id)) (ha : PA X (e :: es) (tDA X.K X.mg Wx ms))
    (hn : x ≠ "__name__" := by decide) (hdb : (x == ("__debug__" : Str)) = false := by decide) (he : starEach (e :: es) X.env = (false, eval e X.env) :: starEach es X.env := by rfl) (hpl : (backTo pos (starEach es X.env)).any (·.1) = false := by rfl) :
    PE X (.Call (.Name x p) (e :: es) [] pos) (tD X.K X.mg Wx (mCall f ms)) := pe_imp (pe_callTy hc hg hm hv ha hn hdb he hpl) (tCB_of hf)
end
end Dv
namespace Dv
open PySem L2
theorem Rep.bl_of {K : PySem.W.Frag} {T : Tb} {H : Hp} {v : V} {b : Bool} (h : Rep K T H v (.bl b)) : v = .bl b := by
  cases h
  rfl
theorem Rep.int_of {K : PySem.W.Frag} {T : Tb} {H : Hp} {v : V} {b : Int} (h : Rep K T H v (.int b)) : v = .int b := by
  cases h
  rfl
theorem Rep.str_of {K : PySem.W.Frag} {T : Tb} {H : Hp} {v : V} {b : Str} (h : Rep K T H v (.str b)) : v = .str b := by
  cases h
  rfl
theorem Rep.non_of {K : PySem.W.Frag} {T : Tb} {H : Hp} {v : V} (h : Rep K T H v .non) : v = .non := by
  cases h
  rfl
def asB (d : D) : Option Bool := match d with
  | .bl b => some b
  | _ => none
def truD (d : D) (S : Store) : Option Bool := match d with
  | .non => some false
  | .bl b => some b
  | .int i => some (i != 0)
  | .str x => if x.length ≤ 100000 then some ((x.length : Int) != 0) else none
  | .tup xs => some (!xs.isEmpty)
  | .lst xs => some (!xs.isEmpty)
  | .scr ns => some (!ns.isEmpty)
  | .loc n => match S[n]? with
    | some (.lst xs) => some (!xs.isEmpty)
    | _ => none
  | _ => none
def mT (m : EM) : BM := fun r S => (m r S).bind fun d S1 => ofO (asB d) S1
def mTru (m : EM) : BM := fun r S => (m r S).bind fun d S1 => ofO (truD d S1) S1
def mNotT (m : BM) : BM := fun r S => (m r S).bind fun b S1 => .ok (!b) S1
def mAndT (ma mb : BM) : BM := fun r S => (ma r S).bind fun b S1 => if b = true then mb r S1 else .ok false S1
def mOrT (ma mb : BM) : BM := fun r S => (ma r S).bind fun b S1 => if b = true then .ok true S1 else mb r S1
def mAnd (ma mb : EM) : EM := fun r S => (ma r S).bind fun d S1 => match d with
  | .bl true => mb r S1
  | .bl false => .ok (.bl false) S1
  | _ => .bad
def mOr (ma mb : EM) : EM := fun r S => (ma r S).bind fun d S1 => match d with
  | .bl true => .ok (.bl true) S1
  | .bl false => mb r S1
  | _ => .bad
def mNot (ma : EM) : EM := fun r S => (ma r S).bind fun d S1 => match d with
  | .bl b => .ok (.bl (!b)) S1
  | _ => .bad
def mIf (mt : BM) (ma mb : EM) : EM := fun r S => (mt r S).bind fun b S1 => if b = true then ma r S1 else mb r S1
def mChain (f f' : D → D → Store → Option D) (ma mb mc : EM) : EM := fun r S => (ma r S).bind fun a S1 => (mb r S1).bind fun b S2 => (ofO (f a b S2) S2).bind fun d S3 => match d with
  | .bl true => (mc r S3).bind fun c S4 => ofO (f' b c S4) S4
  | .bl false => .ok (.bl false) S3
  | _ => .bad
section
variable {X : Cx} {Wx : WX} {a b c : Expr} {rest : List Expr} {pos : Pos} {ma mb mc : EM} {ta tb : BM}
theorem isEmpty_rep {K : PySem.W.Frag} {T : Tb} {H : Hp} {xs : List V} {ds : List D} (h : RepL K T H xs ds) : (!xs.isEmpty) = !ds.isEmpty := by
  cases h <;> rfl
theorem truD_ok {K : PySem.W.Frag} {mg : Str → Option Value} {T : Tb} {S : Store} {H : Hp} {v : V} {d : D} {b : Bool} (sim : Sim K mg T S H) (h : Rep K T H v d) (e : truD d S = some b) : TruV K v H b := by
  cases h with
  | non => cases e; rfl
  | bl x => cases e; rfl
  | int i => cases e; rfl
  | str x =>
    have e : (if x.length ≤ 100000 then some ((x.length : Int) != 0) else none) = some b := e
    by_cases hz : x.length ≤ 100000
    · rw [if_pos hz] at e
      cases e
      exact ⟨sz5 hz, rfl⟩
    · rw [if_neg hz] at e
      cases e
  | tup h n r => cases e; exact .inr (.inl ⟨_, SqT.of h, (isEmpty_rep r).symm⟩)
  | lst h n r => cases e; exact .inl ⟨_, SqL.of h, (isEmpty_rep r).symm⟩
  | scr h =>
    cases e
    refine .inl ⟨_, h.sq, ?_⟩
    rename_i ns
    cases ns <;> rfl
  | dct h n q r => cases e
  | dtt h n q r => cases e
  | adr a => cases e
  | dpr h n q r r2 => cases e
  | ty x => cases e
  | tux _ _ _ _ => cases e
  | loc hn =>
    simp only [truD] at e
    split at e
    · rename_i xs q
      cases e
      obtain ⟨ys, h1, h2⟩ := sim.obj _ _ _ hn q
      exact .inl ⟨ys, .inl (.inl h1), (isEmpty_rep h2).symm⟩
    · cases e
theorem tTest_of {K : PySem.W.Frag} {mg : Str → Option Value} : ∀ g H Q, tDT K mg Wx (mT ma) g H Q → tTest (tD K mg Wx ma) g H Q := by
  intro g H Q h
  obtain ⟨T, r, S, rs, sim, h⟩ := h
  refine ⟨T, r, S, rs, sim, Out.bind h fun x S1 T1 H1 v st sim1 rel h1 => ?_⟩
  refine Out.use h1 fun k e q => ?_
  cases x <;> cases e
  rw [rel.bl_of]
  exact ⟨_, rfl, q T1 H1 _ (Step.refl T1 H1) sim1 rfl⟩
theorem jt_cmp {op : CmpOp} {r : R2} {f : D → D → Store → Option D} (ho : OpR X (compareOp op) r) (hf : POk2 X.K X.mg r f) (hm : behindInMarks op b = false) (ha : PE X a (tD X.K X.mg Wx ma)) (hb : PE X b (tD X.K X.mg Wx mb)) : PT X (.Compare a [op] [b] pos) (tDT X.K X.mg Wx (mT (mBin f ma mb))) :=
  pt_imp (pt_cmpR ho ha hb hm) fun g H Q h => by
    obtain ⟨T, r, S, rs, sim, h⟩ := tTest_of g H Q h
    exact tOp_of hf g H _ ⟨T, r, S, rs, sim, h⟩
theorem jt_tru (ha : PE X a (tD X.K X.mg Wx ma)) (he : ∀ whole, isTrue a X.env whole = (do let v ← whole; standAt a.pos; holding [v] (truthy v)) := by intro _; rfl) : PT X a (tDT X.K X.mg Wx (mTru ma)) :=
  pt_imp (pt_truth ha he) fun g H Q h => by
    obtain ⟨T, r, S, rs, sim, h⟩ := h
    refine ⟨T, r, S, rs, sim, Out.bind h fun x S1 T1 H1 v st sim1 rel h1 => ?_⟩
    exact Out.use h1 fun k e q => ⟨k, truD_ok sim1 rel e, q T1 H1 k (Step.refl T1 H1) sim1 rfl⟩
theorem jt_not (ha : PT X a (tDT X.K X.mg Wx ta)) : PT X (.UnaryOp .Not a pos) (tDT X.K X.mg Wx (mNotT ta)) :=
  pt_imp (pt_not ha) fun g H Q h => by
    obtain ⟨T, r, S, rs, sim, h⟩ := h
    refine ⟨T, r, S, rs, sim, Out.bind h fun x S1 T1 H1 v st sim1 rel h1 => ?_⟩
    subst rel
    exact h1 T1 H1 _ (Step.refl T1 H1) sim1 rfl
theorem jw_and1 (ha : PT X a (tDT X.K X.mg Wx ta)) : PW X (.BoolOp .And [a] pos) (tDT X.K X.mg Wx ta) := pw_and1 ha
theorem jw_or1 (ha : PT X a (tDT X.K X.mg Wx ta)) : PW X (.BoolOp .Or [a] pos) (tDT X.K X.mg Wx ta) := pw_or1 ha
theorem jw_and (ha : PT X a (tDT X.K X.mg Wx ta)) (hb : PW X (.BoolOp .And (b :: rest) pos) (tDT X.K X.mg Wx tb)) : PW X (.BoolOp .And (a :: b :: rest) pos) (tDT X.K X.mg Wx (mAndT ta tb)) :=
  pw_imp (pw_and ha hb) fun g H Q h => by
    obtain ⟨T, r, S, rs, sim, h⟩ := h
    refine ⟨T, r, S, rs, sim, Out.bind h fun x S1 T1 H1 v st sim1 rel h1 => ?_⟩
    subst rel
    cases v with
    | true => exact ⟨T1, r, S1, rs.step st, sim1, h1⟩
    | false => exact h1 T1 H1 _ (Step.refl T1 H1) sim1 rfl
theorem jw_or (ha : PT X a (tDT X.K X.mg Wx ta)) (hb : PW X (.BoolOp .Or (b :: rest) pos) (tDT X.K X.mg Wx tb)) : PW X (.BoolOp .Or (a :: b :: rest) pos) (tDT X.K X.mg Wx (mOrT ta tb)) :=
  pw_imp (pw_or ha hb) fun g H Q h => by
    obtain ⟨T, r, S, rs, sim, h⟩ := h
    refine ⟨T, r, S, rs, sim, Out.bind h fun x S1 T1 H1 v st sim1 rel h1 => ?_⟩
    subst rel
    cases v with
    | true => exact h1 T1 H1 _ (Step.refl T1 H1) sim1 rfl
    | false => exact ⟨T1, r, S1, rs.step st, sim1, h1⟩
theorem jw_pt {e : Expr} (h : PW X e (tDT X.K X.mg Wx ta)) : PT X e (tDT X.K X.mg Wx ta) := PW.pt h
theorem j_one {op} (h : PE X a (tD X.K X.mg Wx ma)) : PE X (.BoolOp op [a] pos) (tD X.K X.mg Wx ma) := pe_one h
theorem j_and (ha : PE X a (tD X.K X.mg Wx ma)) (hb : PE X (.BoolOp .And (b :: rest) pos) (tD X.K X.mg Wx mb)) : PE X (.BoolOp .And (a :: b :: rest) pos) (tD X.K X.mg Wx (mAnd ma mb)) :=
  pe_imp (pe_and ha hb) fun g H Q h => by
    obtain ⟨T, r, S, rs, sim, h⟩ := h
    refine ⟨T, r, S, rs, sim, Out.bind h fun x S1 T1 H1 v st sim1 rel h1 => ?_⟩
    cases x with
    | bl k =>
      rw [rel.bl_of]
      refine ⟨k, rfl, ?_⟩
      cases k with
      | true => exact ⟨T1, r, S1, rs.step st, sim1, h1⟩
      | false => exact h1 T1 H1 _ (Step.refl T1 H1) sim1 (.bl false)
    | _ => exact h1.elim
theorem j_not (ha : PE X a (tD X.K X.mg Wx ma)) : PE X (.UnaryOp .Not a pos) (tD X.K X.mg Wx (mNot ma)) :=
  pe_imp (pe_not ha) fun g H Q h => by
    obtain ⟨T, r, S, rs, sim, h⟩ := h
    refine ⟨T, r, S, rs, sim, Out.bind h fun x S1 T1 H1 v st sim1 rel h1 => ?_⟩
    cases x with
    | bl k =>
      rw [rel.bl_of]
      exact ⟨k, rfl, h1 T1 H1 _ (Step.refl T1 H1) sim1 (.bl (!k))⟩
    | _ => exact h1.elim
theorem j_if (hc : PT X c (tDT X.K X.mg Wx ta)) (ha : PE X a (tD X.K X.mg Wx ma)) (hb : PE X b (tD X.K X.mg Wx mb)) : PE X (.IfExp c a b pos) (tD X.K X.mg Wx (mIf ta ma mb)) :=
  pe_imp (pe_ifExp hc ha hb) fun g H Q h => by
    obtain ⟨T, r, S, rs, sim, h⟩ := h
    refine ⟨T, r, S, rs, sim, Out.bind h fun x S1 T1 H1 v st sim1 rel h1 => ?_⟩
    subst rel
    cases v with
    | true => exact ⟨T1, r, S1, rs.step st, sim1, h1⟩
    | false => exact ⟨T1, r, S1, rs.step st, sim1, h1⟩
end
end Dv
namespace Dv
open PySem L2
def bindS {α : Type} (x : R α) (r : Env) (f : α → Store → Z) : Z := match x with
  | .ok a S => f a S
  | .exc n S => .exc n r S
  | .bad => .bad
section
variable {K : PySem.W.Frag} {mg : Str → Option Value} {Wx : WX} {T T1 : Tb} {H H1 : Hp} {E : Ends} {α β : Type} {rel : Tb → Hp → β → α → Prop} {r : Env} {g : St}
theorem ZOut.step {z : Z} (st : Step T H T1 H1) (h : ZOut K mg Wx T H z E) : ZOut K mg Wx T1 H1 z E := by
  cases z with
  | bad => exact h
  | exc n r' S' => exact fun T' H' g' s => h T' H' g' (st.trans s)
  | ok f r' S' =>
    cases f with
    | next => exact fun T' H' g' s => h T' H' g' (st.trans s)
    | ret d => exact fun T' H' g' s => h T' H' g' (st.trans s)
    | brk => exact fun T' H' g' s => h T' H' g' (st.trans s)
    | cont => exact fun T' H' g' s => h T' H' g' (st.trans s)
theorem ZOut.bind {x : R α} {f : α → Store → Z} {Q : β → Hp → Prop} (h : ZOut K mg Wx T H (bindS x r f) E) (rs : RepSt K T H r g)
    (k : ∀ a S T1 H1 v, Step T H T1 H1 → Sim K mg T1 S H1 → rel T1 H1 v a → RepSt K T1 H1 r g → ZOut K mg Wx T1 H1 (f a S) E → Q v H1) : Out K mg Wx rel T g H x Q := by
  cases x with
  | bad => exact h
  | exc n S => exact fun T1 H1 st sim => h T1 H1 g st sim (rs.step st)
  | ok a S => exact fun T1 H1 v st sim rl => k a S T1 H1 v st sim rl (rs.step st) (ZOut.step st h)
theorem ZOut.nx {r : Env} {S : Store} {g : St} (h : ZOut K mg Wx T H (.ok .next r S) E) (sim : Sim K mg T S H) (rs : RepSt K T H r g) : E.nx g H := h T H g (Step.refl T H) sim rs
end
def sNil : SM := fun r S => .ok .next r S
def sSeq (a b : SM) : SM := fun r S => match a r S with
  | .ok .next r1 S1 => b r1 S1
  | z => z
def sSet (i : Nat) (m : EM) : SM := fun r S => bindS (m r S) r fun d S1 => .ok .next (r.set i (some d)) S1
def sDrop (m : EM) : SM := fun r S => bindS (m r S) r fun _ S1 => .ok .next r S1
def sRet (m : EM) : SM := fun r S => bindS (m r S) r fun d S1 => .ok (.ret d) r S1
def sRetN : SM := fun r S => .ok (.ret .non) r S
def sIf (c : BM) (a b : SM) : SM := fun r S => bindS (c r S) r fun k S1 => if k = true then a r S1 else b r S1
def sBrk : SM := fun r S => .ok .brk r S
def sCont : SM := fun r S => .ok .cont r S
def sNever : SM := fun _ _ => .bad
def sForget (i : Nat) (a : SM) : SM := fun r S => a (r.set i none) S
def sAug (i : Nat) (f : Int → Int → Int) (m : EM) : SM := fun r S => match r[i]? with
  | some (some (.int a)) => bindS (m r S) r fun d S1 => match d with
    | .int b => .ok .next (r.set i (some (.int (f a b)))) S1
    | _ => .bad
  | _ => .bad
def sPar (i j : Nat) (ms : AM) : SM := fun r S => bindS (ms r S) r fun ds S1 => match ds with
  | [a, b] => .ok .next ((r.set i (some a)).set j (some b)) S1
  | _ => .bad
section
variable {X : Cx} {Wx : WX} {st : Stmt} {rest : List Stmt} {pos pos' : Pos} {e : Expr} {m : EM} {sa sb : SM} {c : BM}
theorem js_nil : PSs X [] (tDS X.K X.mg Wx sNil) := pss_imp pss_nil fun E g H h => by
  obtain ⟨T, r, S, rs, sim, h⟩ := h
  exact h.nx sim rs
theorem js_cons (h1 : PS X st (tDS X.K X.mg Wx sa)) (h2 : PSs X rest (tDS X.K X.mg Wx sb)) : PSs X (st :: rest) (tDS X.K X.mg Wx (sSeq sa sb)) := pss_imp (pss_cons h1 h2) fun E g H h => by
  obtain ⟨T, r, S, rs, sim, h⟩ := h
  refine ⟨T, r, S, rs, sim, ?_⟩
  unfold sSeq at h
  revert h
  cases sa r S with
  | bad => exact fun h => h
  | exc n r' S' => exact fun h => h
  | ok f r' S' =>
    cases f with
    | next => exact fun h T' H' g' s sim' rs' => ⟨T', r', S', rs', sim', ZOut.step s h⟩
    | ret d => exact fun h => h
    | brk => exact fun h => h
    | cont => exact fun h => h
theorem js_one (h1 : PS X st (tDS X.K X.mg Wx sa)) : PSs X [st] (tDS X.K X.mg Wx sa) := pss_one h1
theorem js_set {i : Nat} {x : Str} (hN : X.N.Nodup) (hi : X.N[i]? = some x) (hx : Loc X.env.scope x) (he : PE X e (tD X.K X.mg Wx m)) (hs : swapsWith e (some (.Name x pos')) pos.line X.env = pure false := by rfl)
    (hf : X.fn x = true ∨ X.env.scope.names.lookup x = some .local := by first | exact .inl rfl | exact .inr rfl | assumption) : PS X (.Assign [.Name x pos'] e pos) (tDS X.K X.mg Wx (sSet i m)) :=
  ps_imp (ps_set hN hi hx he hs hf) fun E g H h => by
    obtain ⟨T, r, S, rs, sim, h⟩ := h
    refine ⟨T, r, S, rs, sim, ZOut.bind h rs fun d S1 T1 H1 v st sim1 rel rs1 h1 => ?_⟩
    exact h1.nx sim1 (rs1.set rel)
theorem js_drop (he : PE X e (tD X.K X.mg Wx m)) (hs : swapsWith e none pos.line X.env = pure false := by rfl) : PS X (.Expr e pos) (tDS X.K X.mg Wx (sDrop m)) :=
  ps_imp (ps_expr he hs) fun E g H h => by
    obtain ⟨T, r, S, rs, sim, h⟩ := h
    refine ⟨T, r, S, rs, sim, ZOut.bind h rs fun d S1 T1 H1 v st sim1 rel rs1 h1 => ?_⟩
    exact h1.nx sim1 rs1
theorem js_ret (he : PE X e (tD X.K X.mg Wx m)) : PS X (.Return (some e) pos) (tDS X.K X.mg Wx (sRet m)) :=
  ps_imp (ps_ret he) fun E g H h => by
    obtain ⟨T, r, S, rs, sim, h⟩ := h
    refine ⟨T, r, S, rs, sim, ZOut.bind h rs fun d S1 T1 H1 v st sim1 rel rs1 h1 => ?_⟩
    exact h1 T1 H1 v (Step.refl T1 H1) sim1 rel
theorem js_if {t : Expr} {a b : List Stmt} (hc : PT X t (tDT X.K X.mg Wx c)) (ha : PSs X a (tDS X.K X.mg Wx sa)) (hb : PSs X b (tDS X.K X.mg Wx sb)) : PS X (.If t a b pos) (tDS X.K X.mg Wx (sIf c sa sb)) :=
  ps_imp (ps_if hc ha hb) fun E g H h => by
    obtain ⟨T, r, S, rs, sim, h⟩ := h
    refine ⟨T, r, S, rs, sim, ZOut.bind h rs fun d S1 T1 H1 v st sim1 rel rs1 h1 => ?_⟩
    subst rel
    cases v with
    | true => exact ⟨T1, r, S1, rs1, sim1, h1⟩
    | false => exact ⟨T1, r, S1, rs1, sim1, h1⟩
theorem js_par {i j : Nat} {x y : Str} {a b : Expr} {ms : AM} {px py pt : Pos} {kt k2 pt2} (hc : X.calm = true) (hN : X.N.Nodup) (hi : X.N[i]? = some x) (hj : X.N[j]? = some y) (hij : i ≠ j)
    (hx : X.env.scope.names.lookup x = some .local) (hy : X.env.scope.names.lookup y = some .local) (ha : PA X [a, b] (tDA X.K X.mg Wx ms))
    (hw : swappedStores [.Tuple [.Name x px, .Name y py] kt pt] (.Tuple [a, b] k2 pt2) X.env = pure (some [x, y]))
    (hs : swapsWithSole [.Tuple [.Name x px, .Name y py] kt pt] (.Tuple [a, b] k2 pt2) pos.line X.env = pure false := by rfl) :
    PS X (.Assign [.Tuple [.Name x px, .Name y py] kt pt] (.Tuple [a, b] k2 pt2) pos) (tDS X.K X.mg Wx (sPar i j ms)) :=
  ps_imp (ps_par hc hN hi hj hij hx hy ha hw hs) fun E g H h => by
    obtain ⟨T, r, S, rs, sim, h⟩ := h
    refine ⟨T, r, S, rs, sim, ZOut.bind h rs fun d S1 T1 H1 v st sim1 rel rs1 h1 => ?_⟩
    cases rel with
    | nil => exact h1.elim
    | cons q1 rel =>
      cases rel with
      | nil => exact h1.elim
      | cons q2 rel =>
        cases rel with
        | nil => exact ⟨_, _, rfl, h1.nx sim1 ((rs1.set q1).set q2)⟩
        | cons _ _ => exact h1.elim
end

def gD (K : PySem.W.Frag) (mg : Str → Option Value) (sl : List Nat) (gm : D → Env → Option Env) : TG := fun v g H Q => ∃ T r S d r', RepSt K T H r g ∧ Sim K mg T S H ∧ Rep K T H v d ∧ gm d r = some r' ∧
  ∀ g', RepSt K T H r' g' → g'.length = g.length → (∀ j, j ∉ sl → g'[j]? = g[j]?) → Q g' H
def gDs (K : PySem.W.Frag) (mg : Str → Option Value) (sl : List Nat) (gm : List D → Env → Option Env) : TGs := fun vs g H Q => ∃ T r S ds r', RepSt K T H r g ∧ Sim K mg T S H ∧ RepL K T H vs ds ∧ gm ds r = some r' ∧
  ∀ g', RepSt K T H r' g' → g'.length = g.length → (∀ j, j ∉ sl → g'[j]? = g[j]?) → Q g' H
def tgN (i : Nat) : D → Env → Option Env := fun d r => some (r.set i (some d))
def tgsNil : List D → Env → Option Env := fun ds r => match ds with
  | [] => some r
  | _ => none
def tgsCons (a : D → Env → Option Env) (b : List D → Env → Option Env) : List D → Env → Option Env := fun ds r => match ds with
  | d :: ds => (a d r).bind fun r1 => b ds r1
  | [] => none
def tgT (n : Nat) (b : List D → Env → Option Env) : D → Env → Option Env := fun d r => match d with
  | .tup ds => if ds.length = n then b ds r else none
  | _ => none
section
variable {X : Cx} {pos : Pos}
theorem pg_imp {tg : Expr} {t t' : TG} (h : PG X tg t) (i : ∀ v g H Q, t' v g H Q → t v g H Q) : PG X tg t' := ⟨fun pins s g H v u Q I r w => h.run pins s g H v u Q I r (i v g H Q w)⟩
theorem pgs_imp {tg : List Expr} {t t' : TGs} (h : PGs X tg t) (i : ∀ v g H Q, t' v g H Q → t v g H Q) : PGs X tg t' := ⟨fun pins s g H v u Q I r w => h.run pins s g H v u Q I r (i v g H Q w)⟩
theorem jg_name {i : Nat} {x : Str} (hN : X.N.Nodup) (hi : X.N[i]? = some x) (hx : Loc X.env.scope x) (hf : X.fn x = true ∨ X.env.scope.names.lookup x = some .local := by first | exact .inl rfl | exact .inr rfl | assumption) : PG X (.Name x pos) (gD X.K X.mg [i] (tgN i)) :=
  pg_imp (pg_name hN hi hx hf) fun v g H Q h => by
    obtain ⟨T, r, S, d, r', rs, sim, rep, e, k⟩ := h
    cases e
    exact k _ (rs.set rep) List.length_set fun j hj => List.getElem?_set_ne fun q => hj (by rw [q]; exact List.mem_singleton.mpr rfl)
theorem jgs_nil : PGs X [] (gDs X.K X.mg [] tgsNil) := pgs_imp pgs_nil fun v g H Q h => by
  obtain ⟨T, r, S, d, r', rs, sim, rep, e, k⟩ := h
  cases rep with
  | nil =>
    cases e
    exact ⟨rfl, k g rs rfl fun _ _ => rfl⟩
  | cons _ _ => cases e
theorem jgs_cons {e : Expr} {es : List Expr} {sl sl2 : List Nat} {a : D → Env → Option Env} {b : List D → Env → Option Env} (h1 : PG X e (gD X.K X.mg sl a)) (h2 : PGs X es (gDs X.K X.mg sl2 b))
    (hs : (assignEach (e :: es) X.env).map (·.2) = assign e X.env :: (assignEach es X.env).map (·.2) := by rfl) : PGs X (e :: es) (gDs X.K X.mg (sl ++ sl2) (tgsCons a b)) := pgs_imp (pgs_cons h1 h2 hs) fun v g H Q h => by
  obtain ⟨T, r, S, ds, r', rs, sim, rep, e, k⟩ := h
  cases rep with
  | nil => cases e
  | @cons x vs d ds q1 q2 =>
    have e : (a d r).bind (fun r1 => b ds r1) = some r' := e
    cases q : a d r with
    | none => rw [q] at e; cases e
    | some r1 =>
      rw [q] at e
      refine ⟨x, vs, rfl, T, r, S, d, r1, rs, sim, q1, q, fun g1 rs1 l1 k1 => ?_⟩
      refine ⟨T, r1, S, ds, r', rs1, sim, q2, e, fun g2 rs2 l2 k2 => k g2 rs2 (l2.trans l1) fun j hj => ?_⟩
      rw [List.mem_append, not_or] at hj
      exact (k2 j hj.2).trans (k1 j hj.1)
theorem jg_tup {es : List Expr} {k n : Nat} {sl : List Nat} {b : List D → Env → Option Env} (hc : X.calm = true) (h : PGs X es (gDs X.K X.mg sl b))
    (hn : (assignEach es X.env).length = n := by rfl) (hst : (assignEach es X.env).findIdx? (·.1) = none := by rfl) : PG X (.Tuple es k pos) (gD X.K X.mg sl (tgT n b)) := pg_imp (pg_tup hc h hn hst) fun v g H Q h => by
  obtain ⟨T, r, S, d, r', rs, sim, rep, e, k⟩ := h
  cases rep with
  | tup h1 h2 h3 =>
    simp only [tgT] at e
    split at e
    · rename_i hl
      exact ⟨_, _, rfl, SqT.of h1, by rw [h3.length]; exact hl, T, r, S, _, r', rs, sim, h3, e, k⟩
    · cases e
  | _ => cases e
end
def sAsg (m : EM) (gm : D → Env → Option Env) : SM := fun r S => bindS (m r S) r fun d S1 => match gm d r with
  | some r1 => .ok .next r1 S1
  | none => .bad
section
variable {X : Cx} {Wx : WX} {pos : Pos} {tg e : Expr} {m : EM} {sl : List Nat} {gm : D → Env → Option Env}
theorem js_asg (he : PE X e (tD X.K X.mg Wx m)) (hg : PG X tg (gD X.K X.mg sl gm)) (hs : swapsWithSole [tg] e pos.line X.env = pure false := by rfl) (hw : swappedStores [tg] e X.env = pure none := by rfl)
    (h1 : (assignEach [tg] X.env).map (·.2) = [assign tg X.env] := by rfl) : PS X (.Assign [tg] e pos) (tDS X.K X.mg Wx (sAsg m gm)) :=
  ps_imp (ps_asg he hg hs hw h1) fun E g H h => by
    obtain ⟨T, r, S, rs, sim, h⟩ := h
    refine ⟨T, r, S, rs, sim, ZOut.bind h rs fun d S1 T1 H1 v st sim1 rel rs1 h1 => ?_⟩
    split at h1
    · rename_i r1 q
      exact ⟨T1, r, S1, d, r1, rs1, sim1, rel, q, fun g' rs' _ _ => h1.nx sim1 rs'⟩
    · exact h1.elim
end

def sWhile (c : BM) (b : SM) : Nat → SM
  | 0 => fun _ _ => .bad
  | n + 1 => fun r S => bindS (c r S) r fun k S1 => if k = true then (match b r S1 with
      | .ok .next r2 S2 => sWhile c b n r2 S2
      | .ok .cont r2 S2 => sWhile c b n r2 S2
      | .ok .brk r2 S2 => .ok .next r2 S2
      | .ok (.ret d) r2 S2 => .ok (.ret d) r2 S2
      | .exc x r2 S2 => .exc x r2 S2
      | .bad => .bad) else .ok .next r S1
section
variable {X : Cx} {Wx : WX} {pos : Pos} {c : BM} {sb : SM}
theorem js_while {t : Expr} {body : List Stmt} (n : Nat) (hp : PassesOwn (model X.prog X.w) X.A X.env X.xe) (hc : PT X t (tDT X.K X.mg Wx c)) (hb : PSs X body (tDS X.K X.mg Wx sb)) : PS X (.While t body [] pos) (tDS X.K X.mg Wx (sWhile c sb n)) :=
  ps_imp (ps_while hp hc hb) fun E g H h => by
    refine ⟨fun m g H => ∃ T r S, RepSt X.K T H r g ∧ Sim X.K X.mg T S H ∧ ZOut X.K X.mg Wx T H (sWhile c sb m r S) E, ⟨n, h⟩, fun m g H h => ?_⟩
    obtain ⟨T, r, S, rs, sim, h⟩ := h
    cases m with
    | zero => exact h.elim
    | succ m =>
      refine ⟨T, r, S, rs, sim, ZOut.bind h rs fun d S1 T1 H1 v st sim1 rel rs1 h1 => ?_⟩
      subst rel
      cases v with
      | false => exact h1.nx sim1 rs1
      | true =>
        refine ⟨fun g H => ∃ T r S, RepSt X.K T H r g ∧ Sim X.K X.mg T S H ∧ ZOut X.K X.mg Wx T H (sWhile c sb m r S) E, fun g2 H2 q => ⟨m, Nat.lt_succ_self m, q⟩, T1, r, S1, rs1, sim1, ?_⟩
        rw [if_pos rfl] at h1
        revert h1
        cases sb r S1 with
        | bad => exact fun h => h
        | exc n r' S' => exact fun h => h
        | ok f r' S' =>
          cases f with
          | next => exact fun h T' H' g' s sim' rs' => ⟨T', r', S', rs', sim', ZOut.step s h⟩
          | cont => exact fun h T' H' g' s sim' rs' => ⟨T', r', S', rs', sim', ZOut.step s h⟩
          | ret d => exact fun h => h
          | brk => exact fun h => h
end

def Walks (K : PySem.W.Frag) (mg : Str → Option Value) (T : Tb) (H : Hp) (J : It) (ds : List D) : Prop := ∀ T' S' H', Kf T H T' H' → Sim K mg T' S' H' → J.stop ds.length H' ∧
  ∀ (i : Nat) (d : D), ds[i]? = some d → J.go i H' ∧ ∀ x H2, J.yld i H' x H2 → Step T' H' T' H2 ∧ Sim K mg T' S' H2 ∧ Rep K T' H2 x d
abbrev IM := Env → Store → R (List D)
def iD (K : PySem.W.Frag) (mg : Str → Option Value) (Wx : WX) (mi : IM) : TI := fun g H Q => ∃ T r S, RepSt K T H r g ∧ Sim K mg T S H ∧
  Out K mg Wx (fun T' H' (J : It) ds => Walks K mg T' H' J ds ∧ ds.length ≤ sizeLine) T g H (mi r S) Q
theorem Kp.trans {T T1 T2 : Tb} {H H1 H2 : Hp} (a : Kp T H T1 H1) (b : Kp T1 H1 T2 H2) : Kp T H T2 H2 := ⟨fun c u k n h => b.sq c u k (a.sq c u k n h).2 (a.sq c u k n h).1, fun c u n h => b.dk c u (a.dk c u n h).2 (a.dk c u n h).1, fun n c h => b.get n c (a.get n c h)⟩
theorem Kf.trans {T T1 T2 : Tb} {H H1 H2 : Hp} (a : Kf T H T1 H1) (b : Kf T1 H1 T2 H2) : Kf T H T2 H2 := ⟨a.toKp.trans b.toKp, fun c o u n h => b.frz c o u (a.frz c o u n h).2 (a.frz c o u n h).1⟩
theorem Walks.kp {K : PySem.W.Frag} {mg : Str → Option Value} {T T1 : Tb} {H H1 : Hp} {J : It} {ds : List D} (st : Kf T H T1 H1) (h : Walks K mg T H J ds) : Walks K mg T1 H1 J ds := fun T' S' H' s sim => h T' S' H' (st.trans s) sim
def sLoop (gm : D → Env → Option Env) (b : SM) : List D → SM
  | [] => fun r S => .ok .next r S
  | d :: ds => fun r S => match gm d r with
    | none => .bad
    | some r1 => match b r1 S with
      | .ok .next r2 S2 => sLoop gm b ds r2 S2
      | .ok .cont r2 S2 => sLoop gm b ds r2 S2
      | .ok .brk r2 S2 => .ok .next r2 S2
      | .ok (.ret d) r2 S2 => .ok (.ret d) r2 S2
      | .exc x r2 S2 => .exc x r2 S2
      | .bad => .bad
def sFor (mi : IM) (gm : D → Env → Option Env) (b : SM) : SM := fun r S => bindS (mi r S) r fun ds S1 => sLoop gm b ds r S1
section
variable {X : Cx} {Wx : WX} {pos : Pos} {tg iter : Expr} {mi : IM} {sl : List Nat} {gm : D → Env → Option Env} {sb : SM}
theorem js_for {body : List Stmt} (hp : PassesOwn (model X.prog X.w) X.A X.env X.xe) (hc : X.calm = true) (hi : PI X tg iter (iD X.K X.mg Wx mi)) (hg : PG X tg (gD X.K X.mg sl gm)) (hb : PSs X body (tDS X.K X.mg Wx sb))
    (hs : ∀ x, foldedSetIterable iter X.env x = pure x := by intro _; rfl) : PS X (.For tg iter body [] pos) (tDS X.K X.mg Wx (sFor mi gm sb)) :=
  ps_imp (ps_for hp hc hi hg hb hs) fun E g H h => by
    obtain ⟨T, r, S, rs, sim, h⟩ := h
    refine ⟨T, r, S, rs, sim, ZOut.bind h rs fun ds S1 T1 H1 J st sim1 rel rs1 h1 => ?_⟩
    obtain ⟨wk, hz⟩ := rel
    refine ⟨fun i m g H => ∃ T r S, m = ds.length - i ∧ i ≤ ds.length ∧ Step T1 H1 T H ∧ RepSt X.K T H r g ∧ Sim X.K X.mg T S H ∧ ZOut X.K X.mg Wx T H (sLoop gm sb (ds.drop i) r S) E, ⟨ds.length, T1, r, S1, by simp, Nat.zero_le _, Step.refl T1 H1, rs1, sim1, h1⟩, ?_⟩
    rintro i m g2 H2 ⟨T2, r2, S2, rfl, hi2, st2, rs2, sim2, h2⟩
    obtain ⟨stop, go⟩ := wk T2 S2 H2 st2.kf sim2
    by_cases hlt : i < ds.length
    · have ed : ds.drop i = ds[i] :: ds.drop (i + 1) := List.drop_eq_getElem_cons hlt
      rw [ed] at h2
      obtain ⟨g1, yl⟩ := go i ds[i] (List.getElem?_eq_getElem hlt)
      refine .inr ⟨g1, fun g H => ∃ T r S, Step T1 H1 T H ∧ RepSt X.K T H r g ∧ Sim X.K X.mg T S H ∧ ZOut X.K X.mg Wx T H (sLoop gm sb (ds.drop (i + 1)) r S) E, fun g3 H3 q => ?_, fun x H3 y => ?_⟩
      · obtain ⟨T3, r3, S3, q1, q2, q3, q4⟩ := q
        exact ⟨ds.length - (i + 1), by omega, T3, r3, S3, rfl, hlt, q1, q2, q3, q4⟩
      · obtain ⟨st3, sim3, rep3⟩ := yl x H3 y
        have h3 := ZOut.step st3 h2
        simp only [sLoop] at h3
        split at h3
        · exact h3.elim
        · rename_i r3 eg
          refine ⟨T2, r2, S2, ds[i], r3, rs2.step st3, sim3, rep3, eg, fun g4 rs4 _ _ => ⟨T2, r3, S2, rs4, sim3, ?_⟩⟩
          revert h3
          cases sb r3 S2 with
          | bad => exact fun h => h
          | exc n r' S' => exact fun h => h
          | ok f r' S' =>
            cases f with
            | next => exact fun h T' H' g' s sim' rs' => ⟨T', r', S', (st2.trans st3).trans s, rs', sim', ZOut.step s h⟩
            | cont => exact fun h T' H' g' s sim' rs' => ⟨T', r', S', (st2.trans st3).trans s, rs', sim', ZOut.step s h⟩
            | ret d => exact fun h => h
            | brk => exact fun h => h
    · have e : i = ds.length := by omega
      subst e
      rw [List.drop_length] at h2
      exact .inl ⟨stop, h2.nx sim2 rs2⟩
end
end Dv
namespace Dv
open PySem L2
def chD (c : Nat) : D := .str ⟨#[c]⟩
def seqD (d : D) : Option (List D) := match d with
  | .lst xs => some xs
  | .tup xs => some xs
  | .scr ns => some (ns.map D.int)
  | .str x => if x.cps.size ≤ 100000 then some (x.cps.toList.map chD) else none
  | _ => none
def mIter (m : EM) : IM := fun r S => (m r S).bind fun d S1 => ofO (seqD d) S1
def rng (lo : Int) (n : Nat) : List D := (List.range n).map fun i => D.int (lo + (i : Nat))
def rng1 (ds : List D) : Option (List D) := match ds with
  | [.int j] => if -100000 ≤ j ∧ j ≤ 100000 then some (rng 0 j.toNat) else none
  | _ => none
def rng2 (ds : List D) : Option (List D) := match ds with
  | [.int i, .int j] => if (-100000 ≤ i ∧ i ≤ 100000) ∧ (-100000 ≤ j ∧ j ≤ 100000) then some (rng i (j - i).toNat) else none
  | _ => none
def mRng1 (ms : AM) : IM := fun r S => (ms r S).bind fun ds S1 => ofO (rng1 ds) S1
def mRng2 (ms : AM) : IM := fun r S => (ms r S).bind fun ds S1 => ofO (rng2 ds) S1
def iSq (K : PySem.W.Frag) (tl : TE) : TI := fun g H Q => tl g H fun x H1 => (∃ a xs, x = .ref a ∧ SqL K H1 a xs ∧ Q (Itl K a) H1) ∨ (∃ a xs, x = .ref a ∧ SqT K H1 a xs ∧ Q (Itt K a) H1) ∨ ∃ z, x = .str z ∧ Q (Its z) H1
theorem pi_sq {X : Cx} {tg l : Expr} {tl : TE} (hl : PE X l tl) : PI X tg l (iSq X.K tl) := by
  refine ⟨fun pins s g H Q I h => thn (hl.run pins s g H _ I h) fun v s1 hv => ?_⟩
  obtain ⟨x, H1, I1, r1, q1⟩ := hv
  rcases q1 with ⟨a, xs, ex, hq, q⟩ | ⟨a, xs, ex, hq, q⟩ | ⟨z, ex, q⟩
  · subst ex
    cases r1
    obtain ⟨its, rv, pl, _⟩ := I1.list hq
    exact wpAny_pyIter_list pl.isList (pi_one (tk := s1.toks) I1 _ (turn_list a _) ⟨_, Heap.get?_push_size _ rfl, rfl, rfl⟩ q)
  · subst ex
    cases r1
    obtain ⟨its, rv, pl, _⟩ := I1.tuple hq
    exact wpAny_pyIter_tuple (show s1.heap.IsTuple a its.toArray from pl) (pi_one (tk := s1.toks) I1 _ (turn_tuple a _) ⟨_, Heap.get?_push_size _ rfl, rfl, rfl⟩ q)
  · subst ex
    obtain ⟨t, rfl⟩ := r1
    by_cases ha : z.cps.all (· < 128) = true
    · exact wpAny_pyIter_ascii ha (pi_one (tk := s1.toks) I1 _ (turn_str _ z t "str_ascii_iterator" (.inl rfl)) ⟨_, Heap.get?_push_size _ rfl, rfl, rfl⟩ q)
    · exact wpAny_pyIter_wide (by simpa using ha) (pi_one (tk := s1.toks) I1 _ (turn_str _ z t "str_iterator" (.inr rfl)) ⟨_, Heap.get?_push_size _ rfl, rfl, rfl⟩ q)
section
variable {K : PySem.W.Frag} {mg : Str → Option Value} {T : Tb} {H : Hp}
theorem walks_lst {a : Addr} {xs : List V} {ds : List D} (h : LAt K T H a xs) (r : RepL K T H xs ds) : Walks K mg T H (Itl K a) ds := fun T' S' H' kf sim => by
  have k := kf.toKp
  have hq : SqL K H' a xs := (h.kp k).sq
  refine ⟨⟨xs, hq, by rw [r.length]; exact Nat.le_refl _⟩, fun i d e => ?_⟩
  obtain ⟨v, h1, h2⟩ := r.get e
  refine ⟨⟨xs, v, hq, h1⟩, fun x H2 y => ?_⟩
  obtain ⟨rfl, y⟩ := y
  have e2 := (y xs hq).symm.trans h1
  cases e2
  exact ⟨Step.refl _ _, sim, h2.kp k⟩
theorem walks_tup {a : Addr} {xs : List V} {ds : List D} (h : H a = some (.tup xs)) (n : T.off a) (r : RepL K T H xs ds) : Walks K mg T H (Itt K a) ds := fun T' S' H' kf sim => by
  have k := kf.toKp
  have hq : SqT K H' a xs := SqT.of (k.tup n h).1
  refine ⟨⟨xs, hq, by rw [r.length]; exact Nat.le_refl _⟩, fun i d e => ?_⟩
  obtain ⟨v, h1, h2⟩ := r.get e
  refine ⟨⟨xs, v, hq, h1⟩, fun x H2 y => ?_⟩
  obtain ⟨rfl, y⟩ := y
  have e2 := (y xs hq).symm.trans h1
  cases e2
  exact ⟨Step.refl _ _, sim, h2.kp k⟩
theorem walks_str {z : Str} : Walks K mg T H (Its z) (z.cps.toList.map chD) := fun T' S' H' kf sim => by
  have k := kf.toKp
  refine ⟨?_, fun i d e => ?_⟩
  · show z.cps.size ≤ _
    rw [List.length_map, Array.length_toList]
    exact Nat.le_refl _
  · rw [List.getElem?_map] at e
    cases q : z.cps.toList[i]? with
    | none => rw [q] at e; cases e
    | some c =>
      rw [q] at e
      cases e
      have hi := (List.getElem?_eq_some_iff.mp q).1
      rw [Array.length_toList] at hi
      refine ⟨hi, fun x H2 y => ?_⟩
      obtain ⟨rfl, c', h1, rfl⟩ := y
      rw [Array.getElem?_toList] at q
      rw [q] at h1
      cases h1
      exact ⟨Step.refl _ _, sim, .str _⟩
theorem walks_rng {lo : Int} {n : Nat} : Walks K mg T H (Itr lo n) (rng lo n) := fun T' S' H' kf sim => by
  have k := kf.toKp
  refine ⟨?_, fun i d e => ?_⟩
  · show n ≤ _
    unfold rng
    rw [List.length_map, List.length_range]
    exact Nat.le_refl _
  · unfold rng at e
    rw [List.getElem?_map] at e
    cases q : (List.range n)[i]? with
    | none => rw [q] at e; cases e
    | some c =>
      rw [q] at e
      cases e
      obtain ⟨hi, hc⟩ := List.getElem?_eq_some_iff.mp q
      rw [List.length_range] at hi
      rw [List.getElem_range] at hc
      subst hc
      refine ⟨hi, fun x H2 y => ?_⟩
      obtain ⟨rfl, rfl⟩ := y
      exact ⟨Step.refl _ _, sim, .int _⟩
theorem rng_len (lo : Int) (n : Nat) : (rng lo n).length = n := by
  unfold rng
  rw [List.length_map, List.length_range]
end
section
variable {X : Cx} {Wx : WX} {tg e : Expr} {m : EM} {ms : AM} {pos p : Pos}
theorem ji_seq (h : PE X e (tD X.K X.mg Wx m)) : PI X tg e (iD X.K X.mg Wx (mIter m)) := pi_imp (pi_sq h) fun g H Q h => by
  obtain ⟨T, r, S, rs, sim, h⟩ := h
  refine ⟨T, r, S, rs, sim, Out.bind h fun d S1 T1 H1 v st sim1 rel h1 => ?_⟩
  refine Out.use h1 fun ds e k => ?_
  cases rel with
  | lst q1 q2 q3 =>
    cases e
    exact .inl ⟨_, _, rfl, SqL.of q1, k T1 H1 _ (Step.refl T1 H1) sim1 ⟨walks_lst (.inl ⟨.inl q1, q2⟩) q3, by rw [← q3.length]; exact sim1.hl _ _ (.inl (.inl q1))⟩⟩
  | scr q =>
    cases e
    exact .inl ⟨_, _, rfl, q.sq, k T1 H1 _ (Step.refl T1 H1) sim1 ⟨walks_lst q (RepL.ints _), by have := sim1.llen q; rw [List.length_map] at this ⊢; exact this⟩⟩
  | tup q1 q2 q3 =>
    cases e
    exact .inr (.inl ⟨_, _, rfl, SqT.of q1, k T1 H1 _ (Step.refl T1 H1) sim1 ⟨walks_tup q1 q2 q3, by rw [← q3.length]; exact sim1.hl _ _ (.inr (.inl q1))⟩⟩)
  | str x =>
    simp only [seqD] at e
    split at e
    · rename_i hz
      cases e
      exact .inr (.inr ⟨x, rfl, k T1 H1 _ (Step.refl T1 H1) sim1 ⟨walks_str, by rw [List.length_map, Array.length_toList]; exact sz5 hz⟩⟩)
    · cases e
  | _ => cases e
theorem ji_rng1 {a : Expr} (hg : Gl X "range") (hm : X.mg "range" = none) (ha : PA X [a] (tDA X.K X.mg Wx ms)) (hs : starEach [a] X.env = [(false, eval a X.env)] := by rfl) : PI X tg (.Call (.Name "range" p) [a] [] pos) (iD X.K X.mg Wx (mRng1 ms)) :=
  pi_imp (pi_range1 hg hm ha hs) fun g H Q h => by
    obtain ⟨T, r, S, rs, sim, h⟩ := h
    refine ⟨T, r, S, rs, sim, Out.bind h fun d S1 T1 H1 v st sim1 rel h1 => ?_⟩
    refine Out.use h1 fun ds e k => ?_
    unfold rng1 at e
    split at e
    · rename_i j
      split at e
      · rename_i hj
        cases e
        cases rel with
        | cons q1 q2 =>
          cases q2
          refine ⟨j, by rw [q1.int_of], by omega, by omega, k T1 H1 _ (Step.refl T1 H1) sim1 ⟨walks_rng, ?_⟩⟩
          rw [rng_len]
          exact sz5 (by omega)
      · cases e
    · cases e
end

def zipD (ds : List D) : Option (List D) := match ds with
  | [.tup xs, .tup ys] => some (List.zipWith (fun a b => D.tup [a, b]) xs ys)
  | [.lst xs, .lst ys] => some (List.zipWith (fun a b => D.tup [a, b]) xs ys)
  | _ => none
def mZip (ms : AM) : IM := fun r S => (ms r S).bind fun ds S1 => ofO (zipD ds) S1
theorem zip_get {xs ys : List D} {i : Nat} {d : D} (h : (List.zipWith (fun a b => D.tup [a, b]) xs ys)[i]? = some d) : ∃ a b, xs[i]? = some a ∧ ys[i]? = some b ∧ d = .tup [a, b] := by
  rw [List.getElem?_zipWith] at h
  cases q : xs[i]? with
  | none => rw [q] at h; cases h
  | some a =>
    cases q2 : ys[i]? with
    | none => rw [q, q2] at h; cases h
    | some b =>
      rw [q, q2] at h
      cases h
      exact ⟨a, b, rfl, rfl, rfl⟩
section
variable {X : Cx} {Wx : WX} {e e2 : Expr} {ms : AM} {pos p tpos : Pos} {elts : List Expr} {kk : Nat}
theorem pair_new {K : PySem.W.Frag} {mg : Str → Option Value} {T : Tb} {S : Store} {H : Hp} {p : Addr} {x y : V} {a b : D} (sim : Sim K mg T S H) (hp : H p = none) (ha : Rep K T H x a) (hb : Rep K T H y b) :
    Step T H T (upd H p (.tup [x, y])) ∧ Sim K mg T S (upd H p (.tup [x, y])) ∧ Rep K T (upd H p (.tup [x, y])) (.ref p) (.tup [a, b]) :=
  ⟨sim.stepNew hp, sim.new hp (hlen_tup sim.hl (by show 2 ≤ sizeLine; decide)), .tup upd_same (sim.off hp) (.cons (ha.step (sim.stepNew hp)) (.cons (hb.step (sim.stepNew hp)) .nil))⟩
theorem ji_zip (hg : Gl X "zip") (hm : X.mg "zip" = none) (ha : PA X [e, e2] (tDA X.K X.mg Wx ms)) (hs : starEach [e, e2] X.env = (false, eval e X.env) :: starEach [e2] X.env := by rfl) (hpl : (backTo pos (starEach [e2] X.env)).any (·.1) = false := by rfl) :
    PI X (.Tuple elts kk tpos) (.Call (.Name "zip" p) [e, e2] [] pos) (iD X.K X.mg Wx (mZip ms)) := pi_imp (RZ.pi_zipA hg hm ha hs hpl) fun g H Q h => by
  obtain ⟨T, r, S, rs, sim, h⟩ := h
  refine ⟨T, r, S, rs, sim, Out.bind h fun d S1 T1 H1 v st sim1 rel h1 => ?_⟩
  refine Out.use h1 fun ds e k => ?_
  unfold zipD at e
  split at e
  · cases e
    cases rel with
    | cons q1 q2 =>
      cases q2 with
      | cons q2 q3 =>
        cases q3
        cases q1 with
        | @tup a xs _ h1 n1 r1 =>
          cases q2 with
          | @tup b ys _ h2 n2 r2 =>
            refine ⟨a, b, xs, ys, rfl, .inr ⟨SqT.of h1, SqT.of h2, k T1 H1 _ (Step.refl T1 H1) sim1 ⟨fun T' S' H' kp sim' => ?_, ?_⟩⟩⟩
            · have k1 : SqT X.K H' a xs := SqT.of (kp.tup n1 h1).1
              have k2 : SqT X.K H' b ys := SqT.of (kp.tup n2 h2).1
              refine ⟨⟨xs, ys, k1, k2, ?_⟩, fun i d ed => ?_⟩
              · rw [List.length_zipWith, ← r1.length, ← r2.length]
                omega
              · obtain ⟨x, y, e1, e2, rfl⟩ := zip_get ed
                obtain ⟨v1, f1, f2⟩ := r1.get e1
                obtain ⟨v2, f3, f4⟩ := r2.get e2
                refine ⟨⟨xs, ys, v1, v2, k1, k2, f1, f3⟩, fun z H2 yl => ?_⟩
                obtain ⟨P, x', y', rfl, hn, rfl, g1, g2⟩ := yl
                have z1 := (g1 xs k1).symm.trans f1
                have z2 := (g2 ys k2).symm.trans f3
                cases z1; cases z2
                exact pair_new sim' hn (f2.kp kp.toKp) (f4.kp kp.toKp)
            · rw [List.length_zipWith, ← r1.length]
              exact Nat.le_trans (Nat.min_le_left _ _) (sim1.hl _ _ (.inr (.inl h1)))
  · cases e
    cases rel with
    | cons q1 q2 =>
      cases q2 with
      | cons q2 q3 =>
        cases q3
        cases q1 with
        | @lst a xs _ h1 n1 r1 =>
          cases q2 with
          | @lst b ys _ h2 n2 r2 =>
            refine ⟨a, b, xs, ys, rfl, .inl ⟨SqL.of h1, SqL.of h2, k T1 H1 _ (Step.refl T1 H1) sim1 ⟨fun T' S' H' kp sim' => ?_, ?_⟩⟩⟩
            · have k1 : SqL X.K H' a xs := SqL.of (kp.lst n1 h1).1
              have k2 : SqL X.K H' b ys := SqL.of (kp.lst n2 h2).1
              refine ⟨⟨xs, ys, k1, k2, ?_⟩, fun i d ed => ?_⟩
              · rw [List.length_zipWith, ← r1.length, ← r2.length]
                omega
              · obtain ⟨x, y, e1, e2, rfl⟩ := zip_get ed
                obtain ⟨v1, f1, f2⟩ := r1.get e1
                obtain ⟨v2, f3, f4⟩ := r2.get e2
                refine ⟨⟨xs, ys, v1, v2, k1, k2, f1, f3⟩, fun z H2 yl => ?_⟩
                obtain ⟨P, x', y', rfl, hn, rfl, g1, g2⟩ := yl
                have z1 := (g1 xs k1).symm.trans f1
                have z2 := (g2 ys k2).symm.trans f3
                cases z1; cases z2
                exact pair_new sim' hn (f2.kp kp.toKp) (f4.kp kp.toKp)
            · rw [List.length_zipWith, ← r1.length]
              exact Nat.le_trans (Nat.min_le_left _ _) (sim1.hl _ _ (.inl (.inl h1)))
  · cases e
end

def W0 : WX := fun _ _ _ _ => False
def nox {α : Type} (x : R α) : R α := match x with
  | .exc _ _ => .bad
  | y => y
def wipeE (r : Env) : List Nat → Env
  | [] => r
  | v :: vs => (wipeE r vs).set v none
def lcL (gm : D → Env → Option Env) (tt : BM) (te : EM) (r0 : Env) : List D → Store → R (List D)
  | [], S => .ok [] S
  | d :: ds, S => match gm d r0 with
    | none => .bad
    | some r1 => (nox (tt r1 S)).bind fun b S1 => if b = true then (nox (te r1 S1)).bind fun y S2 => (lcL gm tt te r0 ds S2).bind fun ys S3 => .ok (y :: ys) S3 else lcL gm tt te r0 ds S1
def mLc (mi : IM) (vs : List Nat) (gm : D → Env → Option Env) (tt : BM) (te : EM) : EM := fun r S => (mi r S).bind fun ds S1 => (lcL gm tt te (wipeE r vs) ds S1).bind fun ys S2 => .ok (.lst ys) S2
def mYes : BM := fun _ S => .ok true S
section
variable {K : PySem.W.Frag} {mg : Str → Option Value} {Wx : WX} {T : Tb} {H : Hp} {r : Env} {g : St}
theorem RepSt.wipe (h : RepSt K T H r g) : ∀ vs : List Nat, RepSt K T H (wipeE r vs) (L2.wipe g vs)
  | [] => h
  | v :: vs => (RepSt.wipe h vs).forgetB
theorem wipe_get {g : St} {i : Nat} : ∀ {vs : List Nat}, i ∈ vs → i < g.length → (L2.wipe g vs)[i]? = some none
  | [], h, _ => nomatch h
  | v :: vs, h, hl => by
    unfold L2.wipe
    by_cases e : v = i
    · subst e
      rw [List.getElem?_set_self (by rw [wipe_length]; exact hl)]
    · rw [List.getElem?_set_ne e]
      exact wipe_get ((List.mem_cons.mp h).resolve_left fun q => e q.symm) hl
theorem wipe_same {g g2 : St} {vs sl : List Nat} (hs : ∀ i ∈ sl, i ∈ vs) (hl : g2.length = g.length) (h : ∀ j, j ∉ sl → g2[j]? = (L2.wipe g vs)[j]?) : L2.wipe g2 vs = L2.wipe g vs := by
  refine List.ext_getElem? fun j => ?_
  by_cases hj : j ∈ vs
  · by_cases hlt : j < g.length
    · rw [wipe_get hj (by rw [hl]; exact hlt), wipe_get hj hlt]
    · rw [List.getElem?_eq_none (by rw [wipe_length, hl]; omega), List.getElem?_eq_none (by rw [wipe_length]; omega)]
  · rw [wipe_out hj, h j fun q => hj (hs j q)]
def Tb.hide (T : Tb) (p : Addr) : Tb := ⟨T.loc, p :: T.hid⟩
theorem Sim.hide {S : Store} {p : Addr} {u : HO} (s : Sim K mg T S H) (hp : H p = none) (hl : HLen (upd H p u)) (hu : ∀ xs, u ≠ .tup xs := by intro _ z; cases z) : Kp T H (T.hide p) (upd H p u) ∧ Sim K mg (T.hide p) S (upd H p u) := by
  have kp : Kp T H (T.hide p) (upd H p u) := ⟨fun b v _ n h => by
    have nb : b ≠ p := ne_of_none h hp
    exact ⟨by rw [upd_ne nb]; exact h, n.1, fun q => (List.mem_cons.mp q).elim nb n.2⟩, fun b v n h => by
    have nb : b ≠ p := fun e => rd_some h (by rw [e]; exact hp)
    exact ⟨rd_keep (fun w q => by rw [upd_ne nb]; exact q) h, n.1, fun q => (List.mem_cons.mp q).elim nb n.2⟩, fun _ _ h => h⟩
  refine ⟨kp, s.len, ?_, fun i a o h1 h2 => (s.obj i a o h1 h2).kp kp (upd_ne fun e => (s.off hp).1 (by rw [← e]; exact List.mem_of_getElem? h1)), fun a ha => ?_, hl⟩
  · have h0 := List.nodup_append.mp s.nd
    refine List.nodup_append.mpr ⟨h0.1, List.nodup_cons.mpr ⟨(s.off hp).2, h0.2.1⟩, fun a ha b hb e => ?_⟩
    rcases List.mem_cons.mp hb with hb | hb
    · exact (s.off hp).1 (by rw [← hb, ← e]; exact ha)
    · exact h0.2.2 a ha b hb e
  · rcases List.mem_cons.mp ha with ha | ha
    · rw [ha, upd_same]
      exact ⟨fun e => (by cases e), fun xs e => hu xs (Option.some.inj e)⟩
    · rw [upd_ne fun e => s.hid a ha (by rw [e]; exact hp)]
      exact s.hid' a ha
theorem Sim.setHid {S : Store} {p : Addr} {u : HO} (s : Sim K mg T S H) (hp : p ∈ T.hid) (hl : HLen (upd H p u)) (hu : ∀ xs, u ≠ .tup xs := by intro _ z; cases z) : Kf T H T (upd H p u) ∧ Sim K mg T S (upd H p u) := by
  have kp : Kp T H T (upd H p u) := ⟨fun b v _ n h => by
    have nb : b ≠ p := fun e => n.2 (by rw [e]; exact hp)
    exact ⟨by rw [upd_ne nb]; exact h, n⟩, fun b v n h => by
    have nb : b ≠ p := fun e => n.2 (by rw [e]; exact hp)
    exact ⟨rd_keep (fun w q => by rw [upd_ne nb]; exact q) h, n⟩, fun _ _ h => h⟩
  refine ⟨⟨kp, fun b o v n h => ⟨by rw [upd_ne fun e => n.2 (by rw [e]; exact hp)]; exact h, n⟩⟩, s.len, s.nd, fun i a o h1 h2 => (s.obj i a o h1 h2).kp kp (upd_ne fun e => s.apart (List.mem_of_getElem? h1) (by rw [e]; exact hp)), fun a ha => ?_, hl⟩
  by_cases e : a = p
  · rw [e, upd_same]
    exact ⟨fun e => (by cases e), fun xs e => hu xs (Option.some.inj e)⟩
  · rw [upd_ne e]
    exact s.hid' a ha
theorem R.bind_assoc {α β γ : Type} (x : R α) (f : α → Store → R β) (k : β → Store → R γ) : (x.bind f).bind k = x.bind fun a S => (f a S).bind k := by
  cases x <;> rfl
theorem off_unhide {p a : Addr} {l h : List Addr} (x : (Tb.mk l (p :: h)).off a) : (Tb.mk l h).off a := ⟨x.1, fun q => x.2 (List.mem_cons_of_mem _ q)⟩
theorem kp_unhide {p : Addr} {l h : List Addr} : Kp ⟨l, p :: h⟩ H ⟨l, h⟩ H := ⟨fun _ _ _ n q => ⟨q, off_unhide n⟩, fun _ _ n q => ⟨q, off_unhide n⟩, fun _ _ q => q⟩
theorem Sim.unhide {S : Store} {p : Addr} {l h : List Addr} (s : Sim K mg ⟨l, p :: h⟩ S H) : Sim K mg ⟨l, h⟩ S H :=
  ⟨s.len, by
    have h0 := List.nodup_append.mp s.nd
    exact List.nodup_append.mpr ⟨h0.1, (List.nodup_cons.mp h0.2.1).2, fun a ha b hb e => h0.2.2 a ha b (List.mem_cons_of_mem _ hb) e⟩, fun i a o h1 h2 => (s.obj i a o h1 h2).kp kp_unhide rfl, fun a ha => s.hid' a (List.mem_cons_of_mem _ ha), s.hl⟩
theorem lc_bind {α β γ δ : Type} {relA : Tb → Hp → β → α → Prop} {relB : Tb → Hp → δ → γ → Prop} {T1 : Tb} {H1 : Hp} {g g2 : St} {x : R α} {f : α → Store → R γ} {Q : δ → Hp → Prop} {Q1 : β → Hp → Prop} (h : Out K mg Wx relB T1 g H1 ((nox x).bind f) Q)
    (k : ∀ a S T3 H3 v, Step T H T3 H3 → Sim K mg T3 S H3 → relA T3 H3 v a → Out K mg Wx relB T1 g H1 (f a S) Q → Q1 v H3) : Out K mg W0 relA T g2 H x Q1 := by
  cases x with
  | bad => exact h.elim
  | exc n S => exact h.elim
  | ok a S => exact fun T3 H3 v st sim rl => k a S T3 H3 v st sim rl h
end
section
variable {X : Cx} {Wx : WX} {elt tg iter : Expr} {ifs : List Expr} {scope : Scope} {own : List (Str × Nat)} {pos : Pos} {mi : IM} {sl : List Nat} {gm : D → Env → Option Env} {tt : BM} {te : EM}
theorem jts_nil : PTs X [] (tDT X.K X.mg Wx mYes) := ⟨fun pins s g H Q I h => by
  obtain ⟨T, r, S, rs, sim, h⟩ := h
  exact pts_nil.run pins s g H Q I (h T H true (Step.refl T H) sim rfl)⟩
theorem jts_one {c : Expr} (h : PT X c (tDT X.K X.mg Wx tt)) : PTs X [c] (tDT X.K X.mg Wx tt) := pts_one h
theorem tLc_of {K : PySem.W.Frag} {mg : Str → Option Value} {vs : List Nat} (hsl : ∀ i ∈ sl, i ∈ vs) : ∀ g H Q, tD K mg Wx (mLc mi vs gm tt te) g H Q → tLc (iD K mg Wx mi) (gD K mg sl gm) (tDT K mg W0 tt) (tD K mg W0 te) vs g H Q := by
  intro g H Q h
  obtain ⟨T, r, S, rs, sim, h⟩ := h
  refine ⟨T, r, S, rs, sim, Out.bind h fun ds S1 T1 H1 J st sim1 rel h1 => ?_⟩
  obtain ⟨wk, hz⟩ := rel
  intro Dl hD
  have hl0 : HLen (upd H1 Dl (.lst [])) := hlen_lst sim1.hl (Nat.zero_le _)
  obtain ⟨kp0, simh⟩ := sim1.hide (u := .lst []) hD hl0
  have rs1 := rs.step st
  refine ⟨fun i m H => ∃ T S acc ys, m = ds.length - i ∧ i ≤ ds.length ∧ T.hid = Dl :: T1.hid ∧ Step T1 H1 ⟨T.loc, T1.hid⟩ H ∧ Sim K mg T S H ∧ H Dl = some (.lst acc) ∧ RepL K T H acc ys ∧ ys.length ≤ i ∧
    Out K mg Wx (Rep K) T1 g H1 ((lcL gm tt te (wipeE r vs) (ds.drop i) S).bind fun zs S2 => .ok (.lst (ys ++ zs)) S2) Q, ⟨ds.length, T1.hide Dl, S1, [], [], by simp, Nat.zero_le _, rfl, sim1.stepNew hD, simh, upd_same, .nil, Nat.le_refl _, by simpa using h1⟩, ?_⟩
  rintro i m H2 ⟨T2, S2, acc, ys, rfl, hi, eh, st2, sim2, hD2, ra, hys, ho⟩
  have off2 : ∀ b, T1.off b → H1 b ≠ none → T2.off b := fun b n q => ⟨(st2.out q n).1, fun z => by
    rw [eh] at z
    rcases List.mem_cons.mp z with z | z
    · exact q (by rw [z]; exact hD)
    · exact n.2 z⟩
  have kp2 : Kp T1 H1 T2 H2 := ⟨fun b u k n q => ⟨st2.keep b u n q, off2 b n (some_ne q)⟩, fun b u n q => ⟨st2.rd q n, off2 b n (rd_some q)⟩, fun n a q => st2.get q⟩
  have kf2 : Kf T1 H1 T2 H2 := ⟨kp2, fun b o u n q => ⟨st2.keep b _ n q, off2 b n (some_ne q)⟩⟩
  obtain ⟨stop, go⟩ := wk T2 S2 H2 kf2 sim2
  by_cases hlt : i < ds.length
  · have ed : ds.drop i = ds[i] :: ds.drop (i + 1) := List.drop_eq_getElem_cons hlt
    rw [ed] at ho
    obtain ⟨g1, yl⟩ := go i ds[i] (List.getElem?_eq_getElem hlt)
    refine .inr ⟨g1, fun H => ∃ T S acc ys, T.hid = Dl :: T1.hid ∧ Step T1 H1 ⟨T.loc, T1.hid⟩ H ∧ Sim K mg T S H ∧ H Dl = some (.lst acc) ∧ RepL K T H acc ys ∧ ys.length ≤ i + 1 ∧
      Out K mg Wx (Rep K) T1 g H1 ((lcL gm tt te (wipeE r vs) (ds.drop (i + 1)) S).bind fun zs S2 => .ok (.lst (ys ++ zs)) S2) Q, fun H3 q => ?_, fun x H3 y => ?_⟩
    · obtain ⟨T3, S3, acc3, ys3, q1, q2, q3, q4, q5, q6, q7⟩ := q
      exact ⟨ds.length - (i + 1), by omega, T3, S3, acc3, ys3, rfl, hlt, q1, q2, q3, q4, q5, q6, q7⟩
    · obtain ⟨st3, sim3, rep3⟩ := yl x H3 y
      simp only [lcL] at ho
      -- how a step of the hidden table is one of the open one
      have opn : ∀ {Ta Tb : Tb} {Ha Hb : Hp}, Ta.hid = Dl :: T1.hid → Step T1 H1 ⟨Ta.loc, T1.hid⟩ Ha → Step Ta Ha Tb Hb → Tb.hid = Dl :: T1.hid ∧ Step T1 H1 ⟨Tb.loc, T1.hid⟩ Hb := fun {Ta Tb Ha Hb} e1 s1 s2 => by
        refine ⟨s2.hid.trans e1, s1.trans ⟨s2.ext, rfl, fun b hb => s2.hkeep b (by rw [e1]; exact List.mem_cons_of_mem _ hb), fun b u n q => ?_, s2.new⟩⟩
        by_cases hb : b = Dl
        · subst hb
          rw [s2.hkeep b (by rw [e1]; exact List.mem_cons_self)]
          exact q
        · exact s2.keep b u ⟨n.1, fun z => by
            rw [e1] at z
            exact (List.mem_cons.mp z).elim hb n.2⟩ q
      obtain ⟨eh3, op3⟩ := opn eh st2 st3
      have hid3 : Dl ∈ T2.hid := by rw [eh]; exact List.mem_cons_self
      split at ho
      · exact ho.elim
      · rename_i r1 eg
        refine ⟨T2, wipeE r vs, S2, ds[i], r1, ((rs1.wipe vs).kp kp2).step st3, sim3, rep3, eg, fun g4 rs4 lg kg => ⟨wipe_same hsl (by rw [lg, wipe_length]) kg, T2, r1, S2, rs4, sim3, ?_⟩⟩
        rw [R.bind_assoc] at ho
        refine lc_bind ho fun b S4 T4 H4 v st4 sim4 rel4 ho4 => ?_
        subst rel4
        obtain ⟨eh4, op4⟩ := opn eh3 op3 st4
        have hid4 : Dl ∈ T4.hid := by rw [eh4]; exact List.mem_cons_self
        have hD4 : H4 Dl = some (.lst acc) := (st4.hkeep Dl hid3).trans ((st3.hkeep Dl hid3).trans hD2)
        cases v with
        | false =>
          rw [if_neg Bool.false_ne_true] at ho4 ⊢
          exact ⟨T4, S4, acc, ys, eh4, op4, sim4, hD4, ra.step (st3.trans st4), by omega, ho4⟩
        | true =>
          rw [if_pos rfl, R.bind_assoc] at ho4
          rw [if_pos rfl]
          refine ⟨T4, r1, S4, rs4.step st4, sim4, lc_bind ho4 fun yd S5 T5 H5 yv st5 sim5 rel5 ho5 => ?_⟩
          obtain ⟨eh5, op5⟩ := opn eh4 op4 st5
          have hid5 : Dl ∈ T5.hid := by rw [eh5]; exact List.mem_cons_self
          have ra5 : RepL K T5 H5 acc ys := ra.step ((st3.trans st4).trans st5)
          have hal : acc.length < sizeLine := by rw [ra5.length]; omega
          have hl5 : HLen (upd H5 Dl (.lst (acc ++ [yv]))) := hlen_lst sim5.hl (by rw [List.length_append, List.length_singleton]; omega)
          obtain ⟨kp5, sim6⟩ := sim5.setHid (u := .lst (acc ++ [yv])) hid5 hl5
          refine ⟨acc, (st5.hkeep Dl hid4).trans hD4, hal, T5, S5, acc ++ [yv], ys ++ [yd], eh5, ⟨op5.ext, rfl, fun b hb => ?_, fun b u n q => ?_, op5.new⟩, sim6, upd_same, RepL.append (ra5.kp kp5.toKp) (.cons (rel5.kp kp5.toKp) .nil), by rw [List.length_append, List.length_singleton]; omega, ?_⟩
          · rw [upd_ne fun e => sim1.hid b hb (by rw [e]; exact hD)]
            exact op5.hkeep b hb
          · rw [upd_ne (ne_of_none q hD)]
            exact op5.keep b u n q
          · rw [R.bind_assoc] at ho5
            have e5 : (fun zs S2 => (R.ok (D.lst (ys ++ [yd] ++ zs)) S2 : R D)) = fun a S => (R.ok (yd :: a) S).bind fun zs S2 => R.ok (D.lst (ys ++ zs)) S2 := by
              funext zs S2
              show _ = R.ok (D.lst (ys ++ (yd :: zs))) S2
              rw [List.append_assoc]
              rfl
            rw [e5]
            exact ho5
  · have e : i = ds.length := by omega
    subst e
    rw [List.drop_length] at ho
    refine .inl ⟨stop, ho ⟨T2.loc, T1.hid⟩ H2 _ st2 ?_ ?_⟩
    · have h9 := sim2
      obtain ⟨l2, h2⟩ := T2
      cases eh
      exact h9.unhide
    · obtain ⟨l2, h2⟩ := T2
      cases eh
      rw [List.append_nil]
      refine .lst hD2 ⟨fun z => ?_, fun z => ?_⟩ (ra.kp kp_unhide)
      · exact sim2.apart z List.mem_cons_self
      · have nd := (List.nodup_append.mp sim2.nd).2.1
        exact (List.nodup_cons.mp nd).1 z
theorem j_lc (hsl : ∀ i ∈ sl, i ∈ own.map (·.2)) (hc : X.calm = true) (hN : X.N.Nodup) (hi : PI X tg iter (iD X.K X.mg Wx mi)) (ok : BlkOk X.N X.env.scope scope own)
    (hg : ∀ (s : Shared) (H : Hp) (C : Addr) (cl : List (Str × Addr)) (fp : List Addr), PG (X.blk s H scope (compEnvC scope cl C X.env) fp) tg (gD X.K X.mg sl gm)) (ht : ∀ (s : Shared) (H : Hp) (C : Addr) (cl : List (Str × Addr)) (fp : List Addr), PTs (X.blk s H scope (compEnvC scope cl C X.env) fp) ifs (tDT X.K X.mg W0 tt))
    (he : ∀ (s : Shared) (H : Hp) (C : Addr) (cl : List (Str × Addr)) (fp : List Addr), PE (X.blk s H scope (compEnvC scope cl C X.env) fp) elt (tD X.K X.mg W0 te)) (hs : ∀ x, foldedSetIterable iter X.env x = pure x := by intro _; rfl) :
    PE X (.ListComp elt [⟨tg, iter, ifs, 0⟩] scope pos) (tD X.K X.mg Wx (mLc mi (own.map (·.2)) gm tt te)) := pe_imp (pe_lc hc hN hi ok hg ht he hs) (tLc_of hsl)
theorem js_setLc {i : Nat} {y : Str} {py spos : Pos} (hsl : ∀ i ∈ sl, i ∈ own.map (·.2)) (hc : X.calm = true) (hN : X.N.Nodup) (hy : X.N[i]? = some y) (hyl : X.env.scope.names.lookup y = some .local)
    (hsw : swapsWith (.ListComp elt [⟨tg, iter, ifs, 0⟩] scope pos) (some (.Name y py)) spos.line X.env = pure true) (hi : PI X tg iter (iD X.K X.mg Wx mi)) (ok : BlkOk X.N X.env.scope scope own)
    (hg : ∀ (s : Shared) (H : Hp) (C : Addr) (cl : List (Str × Addr)) (fp : List Addr), PG (X.blk s H scope (compEnvC scope cl C X.env) fp) tg (gD X.K X.mg sl gm)) (ht : ∀ (s : Shared) (H : Hp) (C : Addr) (cl : List (Str × Addr)) (fp : List Addr), PTs (X.blk s H scope (compEnvC scope cl C X.env) fp) ifs (tDT X.K X.mg W0 tt))
    (he : ∀ (s : Shared) (H : Hp) (C : Addr) (cl : List (Str × Addr)) (fp : List Addr), PE (X.blk s H scope (compEnvC scope cl C X.env) fp) elt (tD X.K X.mg W0 te)) (hs : ∀ x, foldedSetIterable iter X.env x = pure x := by intro _; rfl) :
    PS X (.Assign [.Name y py] (.ListComp elt [⟨tg, iter, ifs, 0⟩] scope pos) spos) (tDS X.K X.mg Wx (sSet i (mLc mi (own.map (·.2)) gm tt te))) :=
  ps_imp (ps_setLc hc hN hy hyl hsw hi ok hg ht he hs) fun E g H h => by
    obtain ⟨T, r, S, rs, sim, h⟩ := h
    refine tLc_of hsl g H _ ⟨T, r, S, rs, sim, ZOut.bind h rs fun d S1 T1 H1 v st sim1 rel rs1 h1 => ?_⟩
    exact h1.nx sim1 (rs1.set rel)
end
end Dv
namespace Dv
open PySem L2
def spD (K : PySem.W.Frag) (mg : Str → Option Value) (n : Nat) (F : List D → Store → R D) : Sp := fun vs H Q E => vs.length = n ∧ ∃ T S ds, RepL K T H vs ds ∧ Sim K mg T S H ∧ Out K mg (fun c d _ H => E c d H) (Rep K) T [] H (F ds S) Q
def mApp (n : Nat) (F : List D → Store → R D) (ms : AM) : EM := fun r S => (ms r S).bind fun ds S1 => if ds.length = n then F ds S1 else .bad
section
variable {X : Cx} {Wx : WX} {k n : Nat} {f : Addr} {fd : FuncData} {ps : List Str} {Fn : List D → Store → R D} {x : Str} {p pos : Pos} {e : Expr} {es : List Expr} {ms : AM}
theorem j_call (F : FnOk X.prog X.w X.K X.mg X.base (L2.CX X.prog X.w) k f fd ps (spD X.K X.mg n Fn)) (hr : Room k X.A) (hg : Gl X x) (hm : X.mg x = some (.ref f)) (hk : PySem.W.keepIn X.K (.ref f) = true) (hb : Binds X.K fd ps []) (tk : Takes X Wx)
    (ha : PA X (e :: es) (tDA X.K X.mg Wx ms)) (hdb : (x == ("__debug__" : Str)) = false := by decide) (he : starEach (e :: es) X.env = (false, eval e X.env) :: starEach es X.env := by rfl) (hpl : (backTo pos (starEach es X.env)).any (·.1) = false := by rfl) :
    PE X (.Call (.Name x p) (e :: es) [] pos) (tD X.K X.mg Wx (mApp n Fn ms)) :=
  pe_imp (pe_callSD (E := WE Wx) F hr hg hm hk hb .nil (fun g => passAt tk g) ha hdb he hpl) fun g H Q h => by
    obtain ⟨T, r, S, rs, sim, h⟩ := h
    refine ⟨T, r, S, rs, sim, Out.bind h fun ds S1 T1 H1 vs st sim1 rel h1 => ?_⟩
    split at h1
    · rename_i hn
      rw [List.append_nil]
      refine ⟨by rw [rel.length]; exact hn, T1, S1, ds, rel, sim1, ?_⟩
      revert h1
      cases Fn ds S1 with
      | bad => exact fun h => h
      | exc x S2 => exact fun h => h
      | ok d S2 => exact fun h => h
    · exact h1.elim
end
def frame (sz : Nat) (ds : List D) : Env := ds.map some ++ List.replicate (sz - ds.length) none
theorem frame_ok {K : PySem.W.Frag} {T : Tb} {H : Hp} {vs : List V} {ds : List D} (N : List Str) (h : RepL K T H vs ds) : RepSt K T H (frame N.length ds) (L2.start N vs) := by
  have hl := h.length
  refine ⟨?_, fun i d e => ?_⟩
  · unfold frame L2.start
    rw [List.length_append, List.length_append, List.length_map, List.length_map, hl, List.length_replicate, List.length_replicate]
  · unfold frame at e
    by_cases hi : i < ds.length
    · rw [List.getElem?_append_left (by rw [List.length_map]; exact hi), List.getElem?_map, List.getElem?_eq_getElem hi] at e
      cases e
      obtain ⟨v, h1, h2⟩ := h.get (List.getElem?_eq_getElem hi)
      refine ⟨v, ?_, h2⟩
      unfold L2.start
      rw [List.getElem?_append_left (by rw [List.length_map, hl]; exact hi), List.getElem?_map, h1]
      rfl
    · rw [List.getElem?_append_right (by rw [List.length_map]; omega), List.getElem?_replicate] at e
      split at e <;> cases e
def finK (z : Z) : R D := match z with
  | .ok (.ret d) _ S => .ok d S
  | .ok .next _ S => .ok .non S
  | .exc n _ S => .exc n S
  | _ => .bad
def runK (sz : Nat) (b : SM) : List D → Store → R D := fun ds S => finK (b (frame sz ds) S)
section
variable {P : Program} {w : World} {K : PySem.W.Frag} {mg : Str → Option Value} {base : Heap} {x qual : Str} {st : Stmt} {f : Addr} {fd : FuncData} {N ps : List Str} {k : Nat} {b : SM}
abbrev BodyOk (P : Program) (w : World) (K : PySem.W.Frag) (mg : Str → Option Value) (base : Heap) (N : List Str) (qual : Str) (st : Stmt) (f : Addr) (k : Nat) (b : SM) : Prop :=
  ∀ (cdv : Value) (A : Around) (outer : List PySem.Env) (s : Shared) (H : Hp) (E : XK), Room k (A.deeper (PyProof.Rows.envOfC qual (defScope st) s.heap.objs.size f cdv)) →
    PSs (cxOf (L2.CX P w) P w K mg base N qual (defScope st) f cdv A outer s H E) (defBody st) (tDS K mg (fun c d _ H => E c d H) b)
theorem fnK (F : Fun K x qual st f fd) (Sc : FnScope N ps (defScope st)) (hb : BodyOk P w K mg base N qual st f k b) : FnOk P w K mg base (L2.CX P w) (k + 1) f fd ps (spD K mg ps.length (runK N.length b)) := by
  refine F.okX Sc (fun vs H Q E h => h.1) fun cdv A outer s H vs Q E hr hsp => ⟨_, hb cdv A outer s H E hr, ?_⟩
  obtain ⟨hl, T, S, ds, rep, sim, out⟩ := hsp
  refine ⟨T, frame N.length ds, S, frame_ok N rep, sim, ?_⟩
  unfold runK at out
  revert out
  cases b (frame N.length ds) S with
  | bad => exact fun h => h
  | exc n r' S' => exact fun h T' H' g' s sim' _ => h T' H' s sim'
  | ok fl r' S' =>
    cases fl with
    | next => exact fun h T' H' g' s sim' rs' => h T' H' .non s sim' .non
    | ret d => exact fun h => h
    | brk => exact fun h => h.elim
    | cont => exact fun h => h.elim
end
mutual
def clo (n : Nat) : D → Bool
  | .tup xs => cloL n xs
  | .lst xs => cloL n xs
  | .dct kvs => cloK n kvs
  | .loc m => decide (m < n)
  | .non => true
  | .bl _ => true
  | .int _ => true
  | .str _ => true
  | .scr _ => true
  | .ty _ => true
  | .tux xs => cloL n xs
  | .dtt kvs => cloT n kvs
  | .dpr _ kvs => cloP n kvs
  | .adr _ => true
def cloL (n : Nat) : List D → Bool
  | [] => true
  | d :: ds => clo n d && cloL n ds
def cloK (n : Nat) : List (Key × D) → Bool
  | [] => true
  | (_, d) :: ds => clo n d && cloK n ds
def cloT (n : Nat) : List (List Key × D) → Bool
  | [] => true
  | (_, d) :: ds => clo n d && cloT n ds
def cloP (n : Nat) : List (Pr × D) → Bool
  | [] => true
  | (_, d) :: ds => clo n d && cloP n ds
end
theorem cloP_eq (n : Nat) : ∀ kvs : List (Pr × D), cloP n kvs = cloL n (kvs.map (·.2))
  | [] => rfl
  | (_, d) :: ds => by
    show (clo n d && cloP n ds) = (clo n d && cloL n (ds.map (·.2)))
    rw [cloP_eq n ds]
theorem cloT_eq (n : Nat) : ∀ kvs : List (List Key × D), cloT n kvs = cloL n (kvs.map (·.2))
  | [] => rfl
  | (_, d) :: ds => by
    show (clo n d && cloT n ds) = (clo n d && cloL n (ds.map (·.2)))
    rw [cloT_eq n ds]
theorem cloK_eq (n : Nat) : ∀ kvs : List (Key × D), cloK n kvs = cloL n (kvs.map (·.2))
  | [] => rfl
  | (_, d) :: ds => by
    show (clo n d && cloK n ds) = (clo n d && cloL n (ds.map (·.2)))
    rw [cloK_eq n ds]
theorem cloL_ints (n : Nat) : ∀ ns : List Int, cloL n (ns.map D.int) = true
  | [] => rfl
  | x :: ns => by
    show (clo n (D.int x) && cloL n (ns.map D.int)) = true
    rw [cloL_ints n ns]
    rfl
theorem clo_prD (n : Nat) (p : Pr) : clo n (prD p) = true := by
  show (true && (cloL n (p.2.map D.int) && true)) = true
  rw [cloL_ints]
  rfl
theorem cloL_prD {α : Type} (n : Nat) (f : α → Pr) : ∀ xs : List α, cloL n (xs.map fun x => prD (f x)) = true
  | [] => rfl
  | x :: xs => by
    show (clo n (prD (f x)) && cloL n (xs.map fun x => prD (f x))) = true
    rw [cloL_prD n f xs, clo_prD]
    rfl
theorem cloL_iff (n : Nat) : ∀ ds : List D, cloL n ds = true ↔ ∀ d ∈ ds, clo n d = true
  | [] => ⟨fun _ d h => (by cases h), fun _ => rfl⟩
  | x :: ds => by
    show (clo n x && cloL n ds) = true ↔ _
    rw [Bool.and_eq_true, cloL_iff n ds]
    exact ⟨fun h d hd => (List.mem_cons.mp hd).elim (fun e => e ▸ h.1) (h.2 d), fun h => ⟨h x List.mem_cons_self, fun d hd => h d (List.mem_cons_of_mem _ hd)⟩⟩
def cloO (n : Nat) : O → Bool
  | .lst xs => cloL n xs
  | .dct kvs => cloK n kvs
  | .dtt kvs => cloT n kvs
  | .dpr _ kvs => cloP n kvs
  | .ins _ fs => cloL n (fs.map (·.2))
  | .tbl _ _ => true
section
variable {K : PySem.W.Frag} {mg : Str → Option Value} {T T' : Tb} {H : Hp}
mutual
theorem Rep.clo : ∀ {v : V} {d : D}, Rep K T H v d → Dv.clo T.loc.length d = true
  | _, _, .non => rfl
  | _, _, .bl b => rfl
  | _, _, .int i => rfl
  | _, _, .str x => rfl
  | _, _, .ty x => rfl
  | _, _, .tup h n r => RepL.clo r
  | _, _, .lst h n r => RepL.clo r
  | _, _, .scr h => rfl
  | _, _, @Rep.dct _ _ _ a kvs kds h n e r => by
    show cloK _ kds = true
    rw [cloK_eq]
    exact RepL.clo r
  | _, _, .loc h => decide_eq_true (List.getElem?_eq_some_iff.mp h).1
  | _, _, .tux _ h n r => RepL.clo r
  | _, _, @Rep.dtt _ _ _ a kvs kds h n e r => by
    show cloT _ kds = true
    rw [cloT_eq]
    exact RepL.clo r
  | _, _, .adr _ => rfl
  | _, _, @Rep.dpr _ _ _ a w xs kds h n e r q => by
    show cloP _ kds = true
    rw [cloP_eq]
    exact RepL.clo q
theorem RepL.clo : ∀ {vs : List V} {ds : List D}, RepL K T H vs ds → cloL T.loc.length ds = true
  | _, _, .nil => rfl
  | _, _, .cons h r => by
    show (Dv.clo _ _ && cloL _ _) = true
    rw [Rep.clo h, RepL.clo r]
    rfl
end
theorem ORep.clo {a : Addr} {o : O} (h : ORep K mg T H a o) : cloO T.loc.length o = true := by
  cases o with
  | lst ds => obtain ⟨xs, _, h2⟩ := h; exact h2.clo
  | dct kds => obtain ⟨xs, _, _, h2⟩ := h; show cloK _ _ = true; rw [cloK_eq]; exact h2.clo
  | dtt kds => obtain ⟨xs, _, _, h2⟩ := h; show cloT _ _ = true; rw [cloT_eq]; exact h2.clo
  | dpr w kds => obtain ⟨xs, _, _, _, h2⟩ := h; show cloP _ _ = true; rw [cloP_eq]; exact h2.clo
  | ins c fs => obtain ⟨_, _, _, _, _, _, h2⟩ := h; exact h2.clo
  | tbl x q => rfl
mutual
theorem Rep.cut {m : List Addr} (e : T'.loc = T.loc ++ m) (eh : T'.hid = T.hid) : ∀ {v : V} {d : D}, Rep K T' H v d → Dv.clo T.loc.length d = true → Rep K T H v d
  | _, _, .non, _ => .non
  | _, _, .bl b, _ => .bl b
  | _, _, .int i, _ => .int i
  | _, _, .str x, _ => .str x
  | _, _, .ty x, _ => .ty x
  | _, _, .tup h n r, c => .tup h ⟨fun z => n.1 (by rw [e]; exact List.mem_append_left _ z), by rw [← eh]; exact n.2⟩ (RepL.cut e eh r c)
  | _, _, .lst h n r, c => .lst h ⟨fun z => n.1 (by rw [e]; exact List.mem_append_left _ z), by rw [← eh]; exact n.2⟩ (RepL.cut e eh r c)
  | _, _, .scr (.inl ⟨h, n⟩), _ => .scr (.inl ⟨h, fun z => n.1 (by rw [e]; exact List.mem_append_left _ z), by rw [← eh]; exact n.2⟩)
  | _, _, .scr (.inr h), _ => .scr (.inr h)
  | _, _, @Rep.dct _ _ _ a kvs kds h n q r, c => .dct h ⟨fun z => n.1 (by rw [e]; exact List.mem_append_left _ z), by rw [← eh]; exact n.2⟩ q (RepL.cut e eh r (by
    have c : cloK _ kds = true := c
    rw [cloK_eq] at c
    exact c))
  | _, _, .loc h, c => .loc (by
    rw [e, List.getElem?_append_left (of_decide_eq_true c)] at h
    exact h)
  | _, _, .tux d h n r, c => .tux d h ⟨fun z => n.1 (by rw [e]; exact List.mem_append_left _ z), by rw [← eh]; exact n.2⟩ (RepL.cut e eh r c)
  | _, _, @Rep.dtt _ _ _ a kvs kds h n q r, c => .dtt h ⟨fun z => n.1 (by rw [e]; exact List.mem_append_left _ z), by rw [← eh]; exact n.2⟩ q (RepL.cut e eh r (by
    have c : cloT _ kds = true := c
    rw [cloT_eq] at c
    exact c))
  | _, _, .adr _, _ => .adr _
  | _, _, @Rep.dpr _ _ _ a w xs kds h n q r r2, c => .dpr h ⟨fun z => n.1 (by rw [e]; exact List.mem_append_left _ z), by rw [← eh]; exact n.2⟩ q (RepL.cut e eh r (cloL_prD _ _ _)) (RepL.cut e eh r2 (by
    have c : cloP _ kds = true := c
    rw [cloP_eq] at c
    exact c))
theorem RepL.cut {m : List Addr} (e : T'.loc = T.loc ++ m) (eh : T'.hid = T.hid) : ∀ {vs : List V} {ds : List D}, RepL K T' H vs ds → cloL T.loc.length ds = true → RepL K T H vs ds
  | _, _, .nil, _ => .nil
  | _, _, @RepL.cons _ _ _ v vs d ds h r, c => by
    have c : (Dv.clo _ d && cloL _ ds) = true := c
    rw [Bool.and_eq_true] at c
    exact .cons (Rep.cut e eh h c.1) (RepL.cut e eh r c.2)
end
theorem ORep.cut {m : List Addr} {a : Addr} {o : O} (e : T'.loc = T.loc ++ m) (eh : T'.hid = T.hid) (h : ORep K mg T' H a o) (c : cloO T.loc.length o = true) : ORep K mg T H a o := by
  cases o with
  | lst ds => obtain ⟨xs, h1, h2⟩ := h; exact ⟨xs, h1, h2.cut e eh c⟩
  | dct kds =>
    obtain ⟨xs, h1, h3, h2⟩ := h
    have c : cloK _ kds = true := c
    rw [cloK_eq] at c
    exact ⟨xs, h1, h3, h2.cut e eh c⟩
  | dtt kds =>
    obtain ⟨xs, h1, h3, h2⟩ := h
    have c : cloT _ kds = true := c
    rw [cloT_eq] at c
    exact ⟨xs, h1, h3, h2.cut e eh c⟩
  | dpr w kds =>
    obtain ⟨xs, h1, h3, h2, h4⟩ := h
    have c : cloP _ kds = true := c
    rw [cloP_eq] at c
    exact ⟨xs, h1, h3, h2.cut e eh (cloL_prD _ _ _), h4.cut e eh c⟩
  | ins n fs => obtain ⟨C, dx, fvs, h1, h2, h3, h4⟩ := h; exact ⟨C, dx, fvs, h1, h2, h3, h4.cut e eh c⟩
  | tbl x q =>
    obtain ⟨hx, ps, h1, h2, h3⟩ := h
    refine ⟨hx, ps, h1, h2, fun pos cv hc => ?_⟩
    obtain ⟨z, rfl, h4, h5⟩ := h3 pos cv hc
    exact ⟨z, rfl, h4, fun q => h5.1 (by rw [e]; exact List.mem_append_left _ q), by rw [← eh]; exact h5.2⟩
end
def Tr (S S1 : Store) : Prop := S.length ≤ S1.length ∧ ∀ (i : Nat) (o : O), i < S.length → S1[i]? = some o → S[i]? = some o ∨ cloO S.length o = true
theorem Tr.app (S E : Store) : Tr S (S ++ E) := ⟨by rw [List.length_append]; omega, fun i o hi h => .inl (by rw [List.getElem?_append_left hi] at h; exact h)⟩
theorem Tr.set (S E : Store) (n : Nat) (o : O) (h : cloO S.length o = true) : Tr S (S.set n o ++ E) := ⟨by rw [List.length_append, List.length_set]; omega, fun i o' hi q => by
  rw [List.getElem?_append_left (by rw [List.length_set]; exact hi)] at q
  by_cases e : n = i
  · subst e
    rw [List.getElem?_set_self hi] at q
    cases q
    exact .inr h
  · rw [List.getElem?_set_ne e] at q
    exact .inl q⟩
def fzD (n : Nat) (S : Store) (d : D) : Option D := match d with
  | .loc m => if m < n then some (.loc m) else match S[m]? with
    | some (.lst ds) => if cloL n ds = true then some (.lst ds) else none
    | some (.dct kvs) => if cloK n kvs = true then some (.dct kvs) else none
    | some (.dtt kvs) => if cloT n kvs = true then some (.dtt kvs) else none
    | _ => none
  | d => if clo n d = true then some d else none
def fzL (g : D → Option D) : List D → Option (List D)
  | [] => some []
  | d :: ds => match g d, fzL g ds with
    | some a, some b => some (a :: b)
    | _, _ => none
def fzN : Nat → Nat → Store → D → Option D
  | 0, _, _, _ => none
  | f + 1, n, S, d => match d with
    | .loc m => if m < n then some (.loc m) else match S[m]? with
      | some (.lst ds) => (fzL (fzN f n S) ds).map .lst
      | some (.dct kvs) => (fzL (fzN f n S) (kvs.map (·.2))).map fun vs => .dct ((kvs.map (·.1)).zip vs)
      | some (.dtt kvs) => (fzL (fzN f n S) (kvs.map (·.2))).map fun vs => .dtt ((kvs.map (·.1)).zip vs)
      | _ => none
    | .tup ds => (fzL (fzN f n S) ds).map .tup
    | .lst ds => (fzL (fzN f n S) ds).map .lst
    | d => if clo n d = true then some d else none
def fzE (n : Nat) (S : Store) (d : D) : Option D := match fzD n S d with
  | some x => some x
  | none => fzN 9 n S d
theorem fzL_len {g : D → Option D} : ∀ {ds es : List D}, fzL g ds = some es → es.length = ds.length
  | [], _, h => by cases h; rfl
  | d :: ds, es, h => by
    unfold fzL at h
    split at h
    · rename_i a b e1 e2
      cases h
      rw [List.length_cons, List.length_cons, fzL_len e2]
    · cases h
theorem zip_keys {α : Type} : ∀ {ks : List α} {vs : List D}, vs.length = ks.length → (ks.zip vs).map (·.1) = ks ∧ (ks.zip vs).map (·.2) = vs
  | [], [], _ => ⟨rfl, rfl⟩
  | k :: ks, v :: vs, h => by
    obtain ⟨h1, h2⟩ := zip_keys (ks := ks) (vs := vs) (by simpa using h)
    rw [List.zip_cons_cons, List.map_cons, List.map_cons, h1, h2]
    exact ⟨rfl, rfl⟩
  | [], _ :: _, h => by cases h
  | _ :: _, [], h => by cases h
open Classical in
noncomputable def finT (S : Store) (z : Z) : R D := match z with
  | .ok (.ret d) _ S1 => if Tr S S1 then (match fzE S.length S1 d with
    | some d' => .ok d' (S1.take S.length)
    | none => .bad) else .bad
  | .ok .next _ S1 => if Tr S S1 then .ok .non (S1.take S.length) else .bad
  | .exc n _ S1 => if Tr S S1 then .exc n (S1.take S.length) else .bad
  | _ => .bad
noncomputable def runT (sz : Nat) (b : SM) : List D → Store → R D := fun ds S => finT S (b (frame sz ds) S)
section
variable {K : PySem.W.Frag} {mg : Str → Option Value} {T T1 : Tb} {H H1 : Hp} {S S1 : Store}
theorem tr_back (sim : Sim K mg T S H) (st : Step T H T1 H1) (sim1 : Sim K mg T1 S1 H1) (tr : Tr S S1) : Step T H T H1 ∧ Sim K mg T (S1.take S.length) H1 := by
  obtain ⟨m, em⟩ := st.ext
  refine ⟨⟨⟨[], by simp⟩, rfl, st.hkeep, st.keep, fun a h n => absurd h n⟩, ?_, sim.nd, fun i a o h1 h2 => ?_, fun a h => by rw [← st.hid] at h; exact sim1.hid' a h, sim1.hl⟩
  · rw [List.length_take, sim.len]
    have := tr.1
    omega
  · have hi : i < S.length := by rw [← sim.len]; exact (List.getElem?_eq_some_iff.mp h1).1
    rw [List.getElem?_take, if_pos hi] at h2
    refine (sim1.obj i a o (st.get h1) h2).cut em st.hid ?_
    rcases tr.2 i o hi h2 with q | q
    · exact (sim.obj i a o h1 q).clo
    · rw [sim.len]; exact q
theorem fz_back (sim : Sim K mg T S H) (st : Step T H T1 H1) (sim1 : Sim K mg T1 S1 H1) {v : V} {d d' : D} (h : Rep K T1 H1 v d) (e : fzD S.length S1 d = some d') : Rep K T H1 v d' := by
  obtain ⟨m, em⟩ := st.ext
  have off : ∀ (i : Nat) (a : Addr), T1.loc[i]? = some a → ¬ i < S.length → T.off a := fun i a h1 hi => ⟨fun z => by
    obtain ⟨j, hj, ej⟩ := List.mem_iff_getElem.mp z
    have h2 : T1.loc[j]? = some a := st.get (by rw [List.getElem?_eq_getElem hj, ej])
    have := nd_ix sim1.ndl h1 h2
    rw [sim.len] at hj
    omega, fun z => sim1.apart (List.mem_of_getElem? h1) (by rw [st.hid]; exact z)⟩
  have plain : ∀ d, (∀ n, d ≠ .loc n) → fzD S.length S1 d = (if clo S.length d = true then some d else none) := fun d hd => by
    cases d <;> first | rfl | exact absurd rfl (hd _)
  by_cases hd : ∀ n, d ≠ .loc n
  · rw [plain d hd] at e
    split at e
    · rename_i c
      cases e
      exact h.cut em st.hid (by rw [sim.len]; exact c)
    · cases e
  · cases d with
    | loc k =>
      cases h with
      | loc hk =>
        simp only [fzD] at e
        split at e
        · rename_i hlt
          cases e
          refine .loc ?_
          rw [em, List.getElem?_append_left (by rw [sim.len]; exact hlt)] at hk
          exact hk
        · rename_i hlt
          have of := off k _ hk hlt
          split at e
          · rename_i ds es
            split at e
            · rename_i c
              cases e
              obtain ⟨xs, q1, q2⟩ := sim1.obj k _ _ hk es
              exact .lst q1 of (q2.cut em st.hid (by rw [sim.len]; exact c))
            · cases e
          · rename_i kvs es
            split at e
            · rename_i c
              cases e
              obtain ⟨xs, q1, q3, q2⟩ := sim1.obj k _ _ hk es
              rw [cloK_eq] at c
              exact .dct (.inl q1) of q3 (q2.cut em st.hid (by rw [sim.len]; exact c))
            · cases e
          · rename_i kvs es
            split at e
            · rename_i c
              cases e
              obtain ⟨xs, q1, q3, q2⟩ := sim1.obj k _ _ hk es
              rw [cloT_eq] at c
              exact .dtt (.inl q1) of q3 (q2.cut em st.hid (by rw [sim.len]; exact c))
            · cases e
          · cases e
    | _ => exact absurd (fun n q => by cases q) hd
theorem fzN_back (sim : Sim K mg T S H) (st : Step T H T1 H1) (sim1 : Sim K mg T1 S1 H1) : ∀ (f : Nat) {v : V} {d d' : D}, Rep K T1 H1 v d → fzN f S.length S1 d = some d' → Rep K T H1 v d' := by
  obtain ⟨m, em⟩ := st.ext
  have off : ∀ (i : Nat) (a : Addr), T1.loc[i]? = some a → ¬ i < S.length → T.off a := fun i a h1 hi => ⟨fun z => by
    obtain ⟨j, hj, ej⟩ := List.mem_iff_getElem.mp z
    have h2 : T1.loc[j]? = some a := st.get (by rw [List.getElem?_eq_getElem hj, ej])
    have := nd_ix sim1.ndl h1 h2
    rw [sim.len] at hj
    omega, fun z => sim1.apart (List.mem_of_getElem? h1) (by rw [st.hid]; exact z)⟩
  have sub : ∀ a, T1.off a → T.off a := fun a n => ⟨fun z => n.1 (by rw [em]; exact List.mem_append_left _ z), by rw [← st.hid]; exact n.2⟩
  intro f
  induction f with
  | zero => intro v d d' _ e; cases e
  | succ f ih =>
    have all : ∀ {vs : List V} {ds es : List D}, RepL K T1 H1 vs ds → fzL (fzN f S.length S1) ds = some es → RepL K T H1 vs es := by
      intro vs ds
      induction ds generalizing vs with
      | nil =>
        intro es r e
        cases r
        cases e
        exact .nil
      | cons d ds ihd =>
        intro es r e
        unfold fzL at e
        split at e
        · rename_i a b e1 e2
          cases e
          cases r with
          | cons r1 r2 => exact .cons (ih r1 e1) (ihd r2 e2)
        · cases e
    intro v d d' h e
    unfold fzN at e
    split at e
    · rename_i k
      cases h with
      | loc hk =>
        split at e
        · rename_i hlt
          cases e
          refine .loc ?_
          rw [em, List.getElem?_append_left (by rw [sim.len]; exact hlt)] at hk
          exact hk
        · rename_i hlt
          have of := off k _ hk hlt
          split at e
          · rename_i ds es
            obtain ⟨ys, h1, rfl⟩ := Option.map_eq_some_iff.mp e
            obtain ⟨xs, q1, q2⟩ := sim1.obj k _ _ hk es
            exact .lst q1 of (all q2 h1)
          · rename_i kvs es
            obtain ⟨ys, h1, rfl⟩ := Option.map_eq_some_iff.mp e
            obtain ⟨xs, q1, q3, q2⟩ := sim1.obj k _ _ hk es
            have hz := zip_keys (ks := kvs.map (·.1)) (vs := ys) (by rw [fzL_len h1, List.length_map, List.length_map])
            exact .dct (.inl q1) of (by rw [hz.1]; exact q3) (by rw [hz.2]; exact all q2 h1)
          · rename_i kvs es
            obtain ⟨ys, h1, rfl⟩ := Option.map_eq_some_iff.mp e
            obtain ⟨xs, q1, q3, q2⟩ := sim1.obj k _ _ hk es
            have hz := zip_keys (ks := kvs.map (·.1)) (vs := ys) (by rw [fzL_len h1, List.length_map, List.length_map])
            exact .dtt (.inl q1) of (by rw [hz.1]; exact q3) (by rw [hz.2]; exact all q2 h1)
          · cases e
    · obtain ⟨ys, h1, rfl⟩ := Option.map_eq_some_iff.mp e
      cases h with
      | tup hh n r => exact .tup hh (sub _ n) (all r h1)
    · obtain ⟨ys, h1, rfl⟩ := Option.map_eq_some_iff.mp e
      cases h with
      | lst hh n r => exact .lst hh (sub _ n) (all r h1)
    · split at e
      · rename_i c
        cases e
        exact h.cut em st.hid (by rw [sim.len]; exact c)
      · cases e
theorem fzE_back (sim : Sim K mg T S H) (st : Step T H T1 H1) (sim1 : Sim K mg T1 S1 H1) {v : V} {d d' : D} (h : Rep K T1 H1 v d) (e : fzE S.length S1 d = some d') : Rep K T H1 v d' := by
  unfold fzE at e
  split at e
  · rename_i x ex
    cases e
    exact fz_back sim st sim1 h ex
  · exact fzN_back sim st sim1 9 h e
end
section
variable {P : Program} {w : World} {K : PySem.W.Frag} {mg : Str → Option Value} {base : Heap} {x qual : Str} {st : Stmt} {f : Addr} {fd : FuncData} {N ps : List Str} {k : Nat} {b : SM}
theorem fnT (F : Fun K x qual st f fd) (Sc : FnScope N ps (defScope st)) (hb : BodyOk P w K mg base N qual st f k b) : FnOk P w K mg base (L2.CX P w) (k + 1) f fd ps (spD K mg ps.length (runT N.length b)) := by
  refine F.okX Sc (fun vs H Q E h => h.1) fun cdv A outer s H vs Q E hr hsp => ⟨_, hb cdv A outer s H E hr, ?_⟩
  obtain ⟨hl, T, S, ds, rep, sim, out⟩ := hsp
  refine ⟨T, frame N.length ds, S, frame_ok N rep, sim, ?_⟩
  unfold runT finT at out
  revert out
  cases b (frame N.length ds) S with
  | bad => exact fun h => h
  | exc n r' S' =>
    intro h T' H' g' s sim' _
    dsimp only at h
    split at h
    · rename_i tr
      obtain ⟨s1, m1⟩ := tr_back sim s sim' tr
      exact h T H' s1 m1
    · exact h.elim
  | ok fl r' S' =>
    cases fl with
    | next =>
      intro h T' H' g' s sim' rs'
      dsimp only at h
      split at h
      · rename_i tr
        obtain ⟨s1, m1⟩ := tr_back sim s sim' tr
        exact h T H' .non s1 m1 .non
      · exact h.elim
    | ret d =>
      intro h T' H' v s sim' rv
      dsimp only at h
      split at h
      · rename_i tr
        obtain ⟨s1, m1⟩ := tr_back sim s sim' tr
        split at h
        · rename_i d' ed
          exact h T H' v s1 m1 (fzE_back sim s sim' rv ed)
        · exact h.elim
      · exact h.elim
    | brk => exact fun h => h.elim
    | cont => exact fun h => h.elim
end
end Dv
namespace Dv
open PySem L2
def subD (a b : D) (_ : Store) : Option D := match a, b with
  | .int i, .int j => some (.int (i - j))
  | _, _ => none
def fdivD (a b : D) (_ : Store) : Option D := match a, b with
  | .int i, .int j => if 0 < j ∧ j < 1073741824 then some (.int (i / j)) else none
  | _, _ => none
def modD (a b : D) (_ : Store) : Option D := match a, b with
  | .int i, .int j => if 0 < j then some (.int (i % j)) else none
  | _, _ => none
def negD (a : D) (_ : Store) : Option D := match a with
  | .int i => some (.int (-i))
  | _ => none
def addD (a b : D) (_ : Store) : Option D := match a, b with
  | .int i, .int j => some (.int (i + j))
  | .str x, .str y => if x.length + y.length ≤ 100000 then some (.str (x ++ y)) else none
  | .tup xs, .tup ys => if xs.length + ys.length ≤ 100000 then some (.tup (xs ++ ys)) else none
  | .lst xs, .lst ys => if xs.length + ys.length ≤ 100000 then some (.lst (xs ++ ys)) else none
  | _, _ => none
def mulD (a b : D) (_ : Store) : Option D := match a, b with
  | .int i, .int j => if (-(2 ^ 64) < i ∧ i < 2 ^ 64) ∨ (-(2 ^ 64) < j ∧ j < 2 ^ 64) then some (.int (i * j)) else none
  | .lst xs, .int k => if -100000 ≤ k ∧ k ≤ 100000 ∧ xs.length * k.toNat ≤ 100000 then some (.lst (List.replicate k.toNat xs).flatten) else none
  | _, _ => none
def ltD (a b : D) (_ : Store) : Option D := match a, b with
  | .int i, .int j => some (.bl (decide (i < j)))
  | .str x, .str y => some (.bl (decide (x.cps.toList < y.cps.toList)))
  | _, _ => none
def leD (a b : D) (_ : Store) : Option D := match a, b with
  | .int i, .int j => some (.bl (decide (i ≤ j)))
  | .str x, .str y => some (.bl (!decide (y.cps.toList < x.cps.toList)))
  | _, _ => none
def gtD (a b : D) (_ : Store) : Option D := match a, b with
  | .int i, .int j => some (.bl (decide (j < i)))
  | _, _ => none
def geD (a b : D) (_ : Store) : Option D := match a, b with
  | .int i, .int j => some (.bl (decide (j ≤ i)))
  | _, _ => none
section
variable {X : Cx} {K : PySem.W.Frag} {mg : Str → Option Value}
theorem pok_I0 {g : Int → Int → V} {gd : Int → Int → D} {f : D → D → Store → Option D} (hf : ∀ a b S d, f a b S = some d → ∃ i j, a = .int i ∧ b = .int j ∧ d = gd i j) (hg : ∀ T H i j, Rep K T H (g i j) (gd i j)) : POk2 K mg (rI0 g) f := fun T S H x y a b d Q sim rx ry e k => by
  obtain ⟨i, j, rfl, rfl, rfl⟩ := hf a b S d e
  exact ⟨i, j, rx.int_of, ry.int_of, k H _ (Step.refl T H) sim (hg T H i j)⟩
theorem pok_I {C : Int → Int → Prop} {g : Int → Int → V} {gd : Int → Int → D} {f : D → D → Store → Option D} (hf : ∀ a b S d, f a b S = some d → ∃ i j, a = .int i ∧ b = .int j ∧ C i j ∧ d = gd i j) (hg : ∀ T H i j, Rep K T H (g i j) (gd i j)) : POk2 K mg (rI C g) f := fun T S H x y a b d Q sim rx ry e k => by
  obtain ⟨i, j, rfl, rfl, hc, rfl⟩ := hf a b S d e
  exact ⟨i, j, rx.int_of, ry.int_of, hc, k H _ (Step.refl T H) sim (hg T H i j)⟩
theorem pok_sub : POk2 K mg (rI0 fun i j => .int (i - j)) subD := pok_I0 (gd := fun i j => .int (i - j)) (fun a b S d e => by
  cases a <;> cases b <;> cases e
  exact ⟨_, _, rfl, rfl, rfl⟩) fun _ _ _ _ => .int _
theorem pok_fdiv : POk2 K mg (rI CDiv fun i j => .int (i / j)) fdivD := pok_I (gd := fun i j => .int (i / j)) (fun a b S d e => by
  cases a <;> cases b <;> try cases e
  simp only [fdivD] at e
  split at e
  · rename_i h
    cases e
    exact ⟨_, _, rfl, rfl, h, rfl⟩
  · cases e) fun _ _ _ _ => .int _
theorem pok_mod : POk2 K mg (rI (fun _ j => 0 < j) fun i j => .int (i % j)) modD := pok_I (gd := fun i j => .int (i % j)) (fun a b S d e => by
  cases a <;> cases b <;> try cases e
  simp only [modD] at e
  split at e
  · rename_i h
    cases e
    exact ⟨_, _, rfl, rfl, h, rfl⟩
  · cases e) fun _ _ _ _ => .int _
theorem pok_neg : POk1 K mg (rU fun i => .int (-i)) negD := fun T S H x a d Q sim rx e k => by
  cases a <;> cases e
  exact ⟨_, rx.int_of, k H _ (Step.refl T H) sim (.int _)⟩
def rAddA (K : PySem.W.Frag) : R2 := fun x y H Q => (∃ i j, x = .int i ∧ y = .int j ∧ Q (.int (i + j)) H) ∨ (∃ i j, x = .str i ∧ y = .str j ∧ i.length + j.length ≤ sizeLine ∧ Q (.str (i ++ j)) H) ∨ rCatA K x y H Q ∨ rCat x y H Q
theorem op_addA : OpR X (binaryOp .Add) (rAddA X.K) := op_add.or (op_add_str.or (op_catA.or op_cat))
theorem pok_add : POk2 K mg (rAddA K) addD := fun T S H x y a b d Q sim rx ry e k => by
  cases rx <;> cases ry <;> try cases e
  · exact .inl ⟨_, _, rfl, rfl, k H _ (Step.refl T H) sim (.int _)⟩
  · simp only [addD] at e
    split at e
    · rename_i h
      cases e
      exact .inr (.inl ⟨_, _, rfl, rfl, sz5 h, k H _ (Step.refl T H) sim (.str _)⟩)
    · cases e
  · rename_i a1 xs ds h1 n1 r1 a2 ys es h2 n2 r2
    simp only [addD] at e
    split at e
    · rename_i hz
      cases e
      have hz' : xs.length + ys.length ≤ sizeLine := by rw [r1.length, r2.length]; exact sz5 hz
      refine .inr (.inr (.inl ⟨a1, a2, xs, ys, rfl, rfl, SqT.of h1, SqT.of h2, hz', fun q => ?_, fun q1 q2 => ?_, fun q1 q2 p hp => ?_⟩))
      · subst q
        cases r1
        exact k H _ (Step.refl T H) sim (.tup h2 n2 r2)
      · subst q2
        cases r2
        rw [List.append_nil] at k
        exact k H _ (Step.refl T H) sim (.tup h1 n1 r1)
      · have st := sim.stepNew (o := .tup (xs ++ ys)) hp
        exact k _ _ st (sim.new hp (hlen_tup sim.hl (by rw [List.length_append]; exact hz'))) (.tup upd_same (sim.off hp) (RepL.append (r1.step st) (r2.step st)))
    · cases e
  · rename_i a1 xs ds h1 n1 r1 a2 ys es h2 n2 r2
    simp only [addD] at e
    split at e
    · rename_i hz
      cases e
      have hz' : xs.length + ys.length ≤ sizeLine := by rw [r1.length, r2.length]; exact sz5 hz
      refine .inr (.inr (.inr ⟨a1, a2, xs, ys, rfl, rfl, h1, h2, hz', fun p hp => ?_⟩))
      have st := sim.stepNew (o := .lst (xs ++ ys)) hp
      exact k _ _ st (sim.new hp (hlen_lst sim.hl (by rw [List.length_append]; exact hz'))) (.lst upd_same (sim.off hp) (RepL.append (r1.step st) (r2.step st)))
    · cases e
def rMulA : R2 := fun x y H Q => rI CMul (fun i j => .int (i * j)) x y H Q ∨ rRep x y H Q
theorem op_mulA : OpR X (binaryOp .Mult) rMulA := op_mul.or op_rep
theorem flat_len {α : Type} (xs : List α) : ∀ k : Nat, (List.replicate k xs).flatten.length = xs.length * k
  | 0 => rfl
  | k + 1 => by
    rw [List.replicate_succ, List.flatten_cons, List.length_append, flat_len xs k, Nat.mul_succ, Nat.add_comm]
theorem pok_mul : POk2 K mg rMulA mulD := fun T S H x y a b d Q sim rx ry e k => by
  cases rx <;> cases ry <;> try cases e
  · simp only [mulD] at e
    split at e
    · rename_i h
      cases e
      exact .inl ⟨_, _, rfl, rfl, h, k H _ (Step.refl T H) sim (.int _)⟩
    · cases e
  · rename_i a1 xs ds h1 n1 r1 i
    simp only [mulD] at e
    split at e
    · rename_i hz
      cases e
      have hz' : xs.length * i.toNat ≤ sizeLine := by rw [r1.length]; exact sz5 hz.2.2
      refine .inr ⟨a1, i, xs, rfl, rfl, h1, by omega, by omega, hz', fun p hp => ?_⟩
      have st := sim.stepNew (o := .lst (List.replicate i.toNat xs).flatten) hp
      exact k _ _ st (sim.new hp (hlen_lst sim.hl (by rw [flat_len]; exact hz'))) (.lst upd_same (sim.off hp) ((r1.step st).rep i.toNat))
    · cases e
def rLtA (K : PySem.W.Frag) : R2 := fun x y H Q => (∃ i j, x = .int i ∧ y = .int j ∧ Q (.bl (decide (i < j))) H) ∨ (∃ i j, x = .str i ∧ y = .str j ∧ Q (.bl (decide (i.cps.toList < j.cps.toList))) H)
theorem op_ltA : OpR X (compareOp .Lt) (rLtA X.K) := op_lt.or op_lt_str
theorem pok_lt : POk2 K mg (rLtA K) ltD := fun T S H x y a b d Q sim rx ry e k => by
  cases rx <;> cases ry <;> cases e
  · exact .inl ⟨_, _, rfl, rfl, k H _ (Step.refl T H) sim (.bl _)⟩
  · exact .inr ⟨_, _, rfl, rfl, k H _ (Step.refl T H) sim (.bl _)⟩
theorem pok_ge : POk2 K mg (rI0 fun i j => .bl (decide (j ≤ i))) geD := pok_I0 (gd := fun i j => .bl (decide (j ≤ i))) (fun a b S d e => by
  cases a <;> cases b <;> cases e
  exact ⟨_, _, rfl, rfl, rfl⟩) fun _ _ _ _ => .bl _
end
mutual
def pyD : D → PyData
  | .non => .none
  | .bl b => .bool b
  | .int i => .int i
  | .str x => .str x
  | .tup xs => .tuple (pyDs xs)
  | .lst xs => .list (pyDs xs)
  | .scr _ => .none
  | .dct _ => .none
  | .dtt _ => .none
  | .dpr _ _ => .none
  | .adr _ => .none
  | .loc _ => .none
  | .ty _ => .none
  | .tux _ => .none
def pyDs : List D → List PyData
  | [] => []
  | d :: ds => pyD d :: pyDs ds
end
mutual
def dat : D → Bool
  | .non => true
  | .bl _ => true
  | .int _ => true
  | .str _ => true
  | .tup xs => dats xs
  | .lst xs => dats xs
  | .scr _ => false
  | .dct _ => false
  | .dtt _ => false
  | .dpr _ _ => false
  | .adr _ => false
  | .loc _ => false
  | .ty _ => false
  | .tux _ => false
def dats : List D → Bool
  | [] => true
  | d :: ds => dat d && dats ds
end
theorem pyDs_map : ∀ ds : List D, pyDs ds = ds.map pyD
  | [] => rfl
  | d :: ds => by
    show pyD d :: pyDs ds = _
    rw [pyDs_map ds]
    rfl
section
variable {K : PySem.W.Frag} {T : Tb} {H : Hp}
mutual
theorem Rep.dp : ∀ {v : V} {d : D}, Rep K T H v d → dat d = true → Dp K H v (pyD d)
  | _, _, .non, _ => .non
  | _, _, .bl b, _ => .bl b
  | _, _, .int i, _ => .int i
  | _, _, .str x, _ => .str x
  | _, _, .tup h n r, c => .tup (SqT.of h) (RepL.dp r c)
  | _, _, .lst h n r, c => .lst (SqL.of h) (RepL.dp r c)
  | _, _, .scr h, c => by cases c
  | _, _, .dct h n e r, c => by cases c
  | _, _, .dtt h n e r, c => by cases c
  | _, _, .adr _, c => by cases c
  | _, _, .dpr _ _ _ _ _, c => by cases c
  | _, _, .loc h, c => by cases c
  | _, _, .ty h, c => by cases c
  | _, _, .tux _ _ _ _, c => by cases c
theorem RepL.dp : ∀ {vs : List V} {ds : List D}, RepL K T H vs ds → dats ds = true → DpAll K H vs (pyDs ds)
  | _, _, .nil, _ => .nil
  | _, _, @RepL.cons _ _ _ v vs d ds h r, c => by
    have c : (dat d && dats ds) = true := c
    rw [Bool.and_eq_true] at c
    exact .cons (Rep.dp h c.1) (RepL.dp r c.2)
end
end
def okD (d : D) : Bool := dat d && SeqAt.shaped (pyD d)
def eqvD (a b : D) : Bool := PyData.eqv (pyD a) (pyD b)
def now (d : D) (S : Store) : D := match d with
  | .loc n => match S[n]? with
    | some (.lst xs) => .lst xs
    | _ => .loc n
  | d => d
def eqO (a b : D) : Option Bool := match a, b with
  | .int i, .int j => some (decide (i = j))
  | .str x, .str y => some (decide (x = y))
  | .bl x, .bl y => some (decide (x = y))
  | a, b => if okD a = true ∧ okD b = true then some (eqvD a b) else none
def eqD (a b : D) (S : Store) : Option D := (eqO (now a S) (now b S)).map .bl
def neD (a b : D) (S : Store) : Option D := (eqO (now a S) (now b S)).map fun k => .bl (!k)
section
variable {X : Cx} {K : PySem.W.Frag} {mg : Str → Option Value}
def rEqA (K : PySem.W.Frag) : R2 := fun x y H Q => rEq x y H Q ∨ rEqD K x y H Q
def rNeA (K : PySem.W.Frag) : R2 := fun x y H Q => rNe x y H Q ∨ rNeD K x y H Q
theorem op_eqA (hu : X.A.units + 64 < cLine) : OpR X (compareOp .Eq) (rEqA X.K) := op_eq.or (op_eqD hu)
theorem op_neA (hu : X.A.units + 64 < cLine) : OpR X (compareOp .NotEq) (rNeA X.K) := op_ne.or (op_neD hu)
theorem now_dp {T : Tb} {S : Store} {H : Hp} {v : V} {d : D} (sim : Sim K mg T S H) (h : Rep K T H v d) (c : dat (now d S) = true) : Dp K H v (pyD (now d S)) := by
  cases d with
  | loc n =>
    simp only [now] at c ⊢
    split at c
    · rename_i xs e
      cases h with
      | loc hn =>
        obtain ⟨ys, q1, q2⟩ := sim.obj _ _ _ hn e
        exact .lst (SqL.of q1) (q2.dp c)
    · cases c
  | _ => exact h.dp c
theorem now_int {T : Tb} {S : Store} {H : Hp} {v : V} {d : D} {i : Int} (h : Rep K T H v d) (e : now d S = .int i) : v = .int i := by
  cases d with
  | loc n =>
    simp only [now] at e
    split at e <;> cases e
  | int j => cases e; exact h.int_of
  | _ => cases e
theorem now_str {T : Tb} {S : Store} {H : Hp} {v : V} {d : D} {i : Str} (h : Rep K T H v d) (e : now d S = .str i) : v = .str i := by
  cases d with
  | loc n =>
    simp only [now] at e
    split at e <;> cases e
  | str j => cases e; exact h.str_of
  | _ => cases e
theorem now_bl {T : Tb} {S : Store} {H : Hp} {v : V} {d : D} {i : Bool} (h : Rep K T H v d) (e : now d S = .bl i) : v = .bl i := by
  cases d with
  | loc n =>
    simp only [now] at e
    split at e <;> cases e
  | bl j => cases e; exact h.bl_of
  | _ => cases e
theorem eqO_cases {T : Tb} {S : Store} {H : Hp} {x y : V} {a b : D} {k : Bool} (sim : Sim K mg T S H) (rx : Rep K T H x a) (ry : Rep K T H y b) (e : eqO (now a S) (now b S) = some k) :
    (scal x y = true ∧ k = decide (x = y)) ∨ (∃ d1 d2, Dp K H x d1 ∧ Dp K H y d2 ∧ SeqAt.shaped d1 = true ∧ SeqAt.shaped d2 = true ∧ k = PyData.eqv d1 d2) := by
  unfold eqO at e
  split at e
  · rename_i i j e1 e2
    cases e
    rw [now_int rx e1, now_int ry e2]
    exact .inl ⟨rfl, by rw [dec_int, Bool.beq_eq_decide_eq]⟩
  · rename_i i j e1 e2
    cases e
    rw [now_str rx e1, now_str ry e2]
    exact .inl ⟨rfl, by rw [dec_str, Bool.beq_eq_decide_eq]⟩
  · rename_i i j e1 e2
    cases e
    rw [now_bl rx e1, now_bl ry e2]
    exact .inl ⟨rfl, by rw [dec_bl, Bool.beq_eq_decide_eq]⟩
  · split at e
    · rename_i h
      cases e
      have h1 := h.1
      have h2 := h.2
      unfold okD at h1 h2
      rw [Bool.and_eq_true] at h1 h2
      exact .inr ⟨_, _, now_dp sim rx h1.1, now_dp sim ry h2.1, h1.2, h2.2, rfl⟩
    · cases e
theorem pok_eq : POk2 K mg (rEqA K) eqD := fun T S H x y a b d Q sim rx ry e k => by
  unfold eqD at e
  cases q : eqO (now a S) (now b S) with
  | none => rw [q] at e; cases e
  | some t =>
    rw [q] at e
    cases e
    have kk := k H (.bl t) (Step.refl T H) sim (.bl t)
    rcases eqO_cases sim rx ry q with ⟨h1, h2⟩ | ⟨d1, d2, h1, h2, h3, h4, h5⟩
    · exact .inl ⟨h1, by rw [← h2]; exact kk⟩
    · exact .inr ⟨d1, d2, h1, h2, h3, h4, by rw [← h5]; exact kk⟩
theorem pok_ne : POk2 K mg (rNeA K) neD := fun T S H x y a b d Q sim rx ry e k => by
  unfold neD at e
  cases q : eqO (now a S) (now b S) with
  | none => rw [q] at e; cases e
  | some t =>
    rw [q] at e
    cases e
    have kk := k H (.bl (!t)) (Step.refl T H) sim (.bl (!t))
    rcases eqO_cases sim rx ry q with ⟨h1, h2⟩ | ⟨d1, d2, h1, h2, h3, h4, h5⟩
    · exact .inl ⟨h1, by rw [← h2]; exact kk⟩
    · exact .inr ⟨d1, d2, h1, h2, h3, h4, by rw [← h5]; exact kk⟩
end
def isND (a b : D) (_ : Store) : Option D := match a, b with
  | .non, .non => some (.bl true)
  | _, .non => some (.bl false)
  | _, _ => none
def inO (a b : D) : Option Bool := match b with
  | .lst xs => if okD a = true ∧ okD (.lst xs) = true then some (xs.any fun z => eqvD z a) else none
  | _ => none
def ninD (a b : D) (S : Store) : Option D := (inO (now a S) (now b S)).map fun k => .bl (!k)
section
variable {X : Cx} {K : PySem.W.Frag} {mg : Str → Option Value}
theorem pok_isN : POk2 K mg (fun x y H Q => y = .non ∧ Q (.bl (decide (x = .non))) H) isND := fun T S H x y a b d Q sim rx ry e k => by
  cases ry <;> cases rx <;> cases e <;> exact ⟨rfl, k H _ (Step.refl T H) sim (.bl _)⟩
theorem inO_cases {T : Tb} {S : Store} {H : Hp} {x y : V} {a b : D} {k : Bool} (sim : Sim K mg T S H) (rx : Rep K T H x a) (ry : Rep K T H y b) (e : inO (now a S) (now b S) = some k) :
    ∃ d ds, Dp K H x d ∧ Dp K H y (.list ds) ∧ SeqAt.shaped d = true ∧ SeqAt.shaped (.list ds) = true ∧ k = ds.any fun z => PyData.eqv z d := by
  unfold inO at e
  split at e
  · rename_i xs e2
    split at e
    · rename_i h
      cases e
      have h1 := h.1
      have h2 := h.2
      rw [← e2] at h2
      unfold okD at h1 h2
      rw [Bool.and_eq_true] at h1 h2
      have q := now_dp sim ry h2.1
      have q2 := h2.2
      rw [e2] at q q2
      refine ⟨_, _, now_dp sim rx h1.1, q, h1.2, q2, ?_⟩
      rw [pyDs_map, List.any_map]
      rfl
    · cases e
  · cases e
theorem pok_nin : POk2 K mg (rNotInD K) ninD := fun T S H x y a b d Q sim rx ry e k => by
  unfold ninD at e
  cases q : inO (now a S) (now b S) with
  | none => rw [q] at e; cases e
  | some t =>
    rw [q] at e
    cases e
    obtain ⟨d, ds, h1, h2, h3, h4, h5⟩ := inO_cases sim rx ry q
    exact ⟨d, ds, h1, h2, h3, h4, by rw [← h5]; exact k H _ (Step.refl T H) sim (.bl _)⟩
end
end Dv
namespace Dv
open PySem L2
def lenD (ds : List D) (S : Store) : Option D := match ds with
  | [.lst xs] => some (.int xs.length)
  | [.tup xs] => some (.int xs.length)
  | [.scr xs] => some (.int xs.length)
  | [.str x] => if x.length ≤ 100000 then some (.int x.length) else none
  | [.loc n] => match S[n]? with
    | some (.lst xs) => some (.int xs.length)
    | _ => none
  | _ => none
def absD (ds : List D) (_ : Store) : Option D := match ds with
  | [.int i] => some (.int (if i < 0 then -i else i))
  | _ => none
def intD (ds : List D) (_ : Store) : Option D := match ds with
  | [.int i] => some (.int i)
  | [.bl b] => some (.int (if b = true then 1 else 0))
  | _ => none
def intsOf : List D → Option (List Int)
  | [] => some []
  | .int i :: ds => (intsOf ds).map (i :: ·)
  | _ :: _ => none
def blsOf : List D → Option (List Bool)
  | [] => some []
  | .bl i :: ds => (blsOf ds).map (i :: ·)
  | _ :: _ => none
theorem intsOf_map : ∀ ns : List Int, intsOf (ns.map D.int) = some ns
  | [] => rfl
  | n :: ns => by
    show (intsOf (ns.map D.int)).map (n :: ·) = _
    rw [intsOf_map ns]
    rfl
theorem intsOf_some : ∀ {ds : List D} {ns : List Int}, intsOf ds = some ns → ds = ns.map D.int
  | [], _, e => by cases e; rfl
  | d :: ds, ns, e => by
    cases d <;> try cases e
    simp only [intsOf] at e
    cases q : intsOf ds with
    | none => rw [q] at e; cases e
    | some ms =>
      rw [q] at e
      cases e
      rw [intsOf_some q]
      rfl
theorem blsOf_map : ∀ ns : List Bool, blsOf (ns.map D.bl) = some ns
  | [] => rfl
  | n :: ns => by
    show (blsOf (ns.map D.bl)).map (n :: ·) = _
    rw [blsOf_map ns]
    rfl
theorem blsOf_some : ∀ {ds : List D} {ns : List Bool}, blsOf ds = some ns → ds = ns.map D.bl
  | [], _, e => by cases e; rfl
  | d :: ds, ns, e => by
    cases d <;> try cases e
    simp only [blsOf] at e
    cases q : blsOf ds with
    | none => rw [q] at e; cases e
    | some ms =>
      rw [q] at e
      cases e
      rw [blsOf_some q]
      rfl
def maxI : List Int → Option Int
  | [] => none
  | [x] => some x
  | x :: xs => (maxI xs).map fun m => if m < x then x else m
theorem maxI_ok : ∀ {ns : List Int} {m : Int}, maxI ns = some m → m ∈ ns ∧ ∀ y ∈ ns, y ≤ m
  | [], _, e => by cases e
  | [x], m, e => by
    cases e
    exact ⟨List.mem_singleton.mpr rfl, fun y hy => by rw [List.mem_singleton.mp hy]; exact Int.le_refl _⟩
  | x :: y :: xs, m, e => by
    simp only [maxI] at e
    cases q : maxI (y :: xs) with
    | none => rw [show (maxI (y :: xs)) = none from q] at e; cases e
    | some k =>
      have e : (maxI (y :: xs)).map (fun m => if m < x then x else m) = some m := e
      rw [q] at e
      obtain ⟨h1, h2⟩ := maxI_ok q
      cases e
      show (if k < x then x else k) ∈ x :: y :: xs ∧ ∀ z ∈ x :: y :: xs, z ≤ (if k < x then x else k)
      by_cases hk : k < x
      · rw [if_pos hk]
        exact ⟨List.mem_cons_self, fun z hz => (List.mem_cons.mp hz).elim (fun e => by rw [e]; exact Int.le_refl _) fun hz => Int.le_trans (h2 z hz) (Int.le_of_lt hk)⟩
      · rw [if_neg hk]
        exact ⟨List.mem_cons_of_mem _ h1, fun z hz => (List.mem_cons.mp hz).elim (fun e => by rw [e]; omega) fun hz => h2 z hz⟩
def maxD (ds : List D) (_ : Store) : Option D := match ds with
  | [.lst xs] => ((intsOf xs).bind maxI).map .int
  | _ => none
def sumD (ds : List D) (_ : Store) : Option D := match ds with
  | [.lst xs] => (intsOf xs).map fun ns => .int ns.sum
  | _ => none
def allD (ds : List D) (_ : Store) : Option D := match ds with
  | [.lst xs] => (blsOf xs).map fun ns => .bl (ns.all id)
  | _ => none
def tupD (ds : List D) (S : Store) : Option D := match ds with
  | [.lst xs] => some (.tup xs)
  | [.tup xs] => some (.tup xs)
  | [.loc n] => match S[n]? with
    | some (.lst xs) => some (.tup xs)
    | _ => none
  | _ => none
section
variable {X : Cx} {K : PySem.W.Frag} {mg : Str → Option Value}
theorem RepL.one {T : Tb} {H : Hp} {vs : List V} {d : D} (h : RepL K T H vs [d]) : ∃ v, vs = [v] ∧ Rep K T H v d := by
  cases h with
  | cons r q =>
    cases q
    exact ⟨_, rfl, r⟩
theorem pok_len : POk K mg (fun xs H Q => ∃ x n, xs = [x] ∧ LenV K x H n ∧ Q (.int n) H) lenD := fun T S H vs ds d Q sim rep e k => by
  unfold lenD at e
  split at e
  · rename_i xs
    cases e
    obtain ⟨v, rfl, r⟩ := rep.one
    cases r with
    | lst h n q => exact ⟨_, _, rfl, .inl ⟨_, SqL.of h, q.length.symm⟩, k H _ (Step.refl T H) sim (.int _)⟩
  · rename_i xs
    cases e
    obtain ⟨v, rfl, r⟩ := rep.one
    cases r with
    | tup h n q => exact ⟨_, _, rfl, .inr ⟨_, SqT.of h, q.length.symm⟩, k H _ (Step.refl T H) sim (.int _)⟩
  · rename_i xs
    cases e
    obtain ⟨v, rfl, r⟩ := rep.one
    cases r with
    | scr h => exact ⟨_, _, rfl, .inl ⟨_, h.sq, (List.length_map ..).symm⟩, k H _ (Step.refl T H) sim (.int _)⟩
  · rename_i x
    obtain ⟨v, rfl, r⟩ := rep.one
    split at e
    · rename_i hz
      cases e
      cases r
      exact ⟨_, _, rfl, ⟨sz5 hz, rfl⟩, k H _ (Step.refl T H) sim (.int _)⟩
    · cases e
  · rename_i n
    obtain ⟨v, rfl, r⟩ := rep.one
    split at e
    · rename_i xs q
      cases e
      cases r with
      | loc hn =>
        obtain ⟨ys, q1, q2⟩ := sim.obj _ _ _ hn q
        exact ⟨_, _, rfl, .inl ⟨_, SqL.of q1, q2.length.symm⟩, k H _ (Step.refl T H) sim (.int _)⟩
    · cases e
  · cases e
theorem pok_abs : POk K mg (fun xs H Q => ∃ i, xs = [.int i] ∧ Q (.int (if i < 0 then -i else i)) H) absD := fun T S H vs ds d Q sim rep e k => by
  unfold absD at e
  split at e
  · cases e
    obtain ⟨v, rfl, r⟩ := rep.one
    exact ⟨_, by rw [r.int_of], k H _ (Step.refl T H) sim (.int _)⟩
  · cases e
theorem pok_int : POk K mg (fun xs H Q => (∃ i, xs = [.int i] ∧ Q (.int i) H) ∨ ∃ k, xs = [.bl k] ∧ Q (.int (if k then 1 else 0)) H) intD := fun T S H vs ds d Q sim rep e k => by
  unfold intD at e
  split at e
  · cases e
    obtain ⟨v, rfl, r⟩ := rep.one
    exact .inl ⟨_, by rw [r.int_of], k H _ (Step.refl T H) sim (.int _)⟩
  · cases e
    obtain ⟨v, rfl, r⟩ := rep.one
    exact .inr ⟨_, by rw [r.bl_of], k H _ (Step.refl T H) sim (.int _)⟩
  · cases e
theorem pok_max : POk K mg (rMax K) maxD := fun T S H vs ds d Q sim rep e k => by
  unfold maxD at e
  split at e
  · rename_i xs
    obtain ⟨v, rfl, r⟩ := rep.one
    cases q : intsOf xs with
    | none => rw [q] at e; cases e
    | some ns =>
      rw [q] at e
      have e : (maxI ns).map D.int = some d := e
      cases q2 : maxI ns with
      | none => rw [q2] at e; cases e
      | some m =>
        rw [q2] at e
        cases e
        have e3 := intsOf_some q
        subst e3
        obtain ⟨h1, h2⟩ := maxI_ok q2
        cases r with
        | lst h n r =>
          rw [r.of_ints] at h
          refine ⟨_, ns, rfl, SqL.of h, List.length_pos_of_mem h1, fun m' h3 h4 => ?_⟩
          have e5 : m' = m := Int.le_antisymm (h2 m' h3) (h4 m h1)
          subst e5
          exact k H _ (Step.refl T H) sim (.int _)
  · cases e
theorem pok_all : POk K mg (rAll K) allD := fun T S H vs ds d Q sim rep e k => by
  unfold allD at e
  split at e
  · rename_i xs
    obtain ⟨v, rfl, r⟩ := rep.one
    cases q : blsOf xs with
    | none => rw [q] at e; cases e
    | some ns =>
      rw [q] at e
      cases e
      have e3 := blsOf_some q
      subst e3
      cases r with
      | lst h n r =>
        rw [r.of_bls] at h
        exact ⟨_, ns, rfl, SqL.of h, k H _ (Step.refl T H) sim (.bl _)⟩
  · cases e
theorem pok_tup : POk K mg (fun xs H Q => ∃ p ys, xs = [.ref p] ∧ ((SqL K H p ys ∧ ∀ l, H l = none → Q (.ref l) (upd H l (.tup ys))) ∨ (SqT K H p ys ∧ Q (.ref p) H))) tupD := fun T S H vs ds d Q sim rep e k => by
  have mk : ∀ {a : Addr} {xs : List V} {es : List D}, H a = some (.lst xs) → RepL K T H xs es → d = .tup es → ∃ p ys, [V.ref a] = [.ref p] ∧ ((SqL K H p ys ∧ ∀ l, H l = none → Q (.ref l) (upd H l (.tup ys))) ∨ (SqT K H p ys ∧ Q (.ref p) H)) := fun {a xs es} h r ed => by
    subst ed
    refine ⟨a, xs, rfl, .inl ⟨SqL.of h, fun p hp => ?_⟩⟩
    have st := sim.stepNew (o := .tup xs) hp
    exact k _ _ st (sim.new hp (hlen_tup sim.hl (sim.hl _ _ (.inl (.inl h))))) (.tup upd_same (sim.off hp) (r.step st))
  unfold tupD at e
  split at e
  · cases e
    obtain ⟨v, rfl, r⟩ := rep.one
    cases r with
    | lst h n r => exact mk h r rfl
  · cases e
    obtain ⟨v, rfl, r⟩ := rep.one
    cases r with
    | tup h n r => exact ⟨_, _, rfl, .inr ⟨SqT.of h, k H _ (Step.refl T H) sim (.tup h n r)⟩⟩
  · obtain ⟨v, rfl, r⟩ := rep.one
    split at e
    · rename_i xs q
      cases e
      cases r with
      | loc hn =>
        obtain ⟨ys, q1, q2⟩ := sim.obj _ _ _ hn q
        exact mk q1 q2 rfl
    · cases e
  · cases e
end
def tyN (d : D) : Option String := match d with
  | .non => some "NoneType"
  | .bl _ => some "bool"
  | .int _ => some "int"
  | .str _ => some "str"
  | .tup _ => some "tuple"
  | .lst _ => some "list"
  | _ => none
def isiD (ds : List D) (_ : Store) : Option D := match ds with
  | [d, .ty n] => ((tyN d).bind fun t => kitB t n).map .bl
  | _ => none
section
variable {X : Cx} {K : PySem.W.Frag} {mg : Str → Option Value} {Wx : WX}
theorem Rep.tyx {T : Tb} {H : Hp} {v : V} {d : D} {t : String} (h : Rep K T H v d) (e : tyN d = some t) : TyX K H v (.type t) := by
  cases h <;> cases e
  · exact .base .non
  · exact .base (.bl _)
  · exact .base (.int _)
  · exact .base (.str _)
  · rename_i h n r
    exact .base (.tup h)
  · rename_i h n r
    exact .base (.lst h)
theorem pok_isi : POk K mg (rIsi K) isiD := fun T S H vs ds d Q sim rep e k => by
  unfold isiD at e
  split at e
  · rename_i x n
    cases rep with
    | cons r1 q =>
      cases q with
      | cons r2 q =>
        cases q
        cases q1 : tyN x with
        | none => rw [q1] at e; cases e
        | some t =>
          rw [q1] at e
          have e : (kitB t n).map D.bl = some d := e
          cases q2 : kitB t n with
          | none => rw [q2] at e; cases e
          | some b =>
            rw [q2] at e
            cases e
            cases r2
            exact ⟨_, _, _, _, b, rfl, .ty n, r1.tyx q1, kit_ty q2, k H _ (Step.refl T H) sim (.bl _)⟩
  · cases e
theorem j_ty {x : Str} {n : String} {pos : Pos} (hg : Gl X x) (hm : X.mg x = none) (hv : bootBuiltins x = some (.type n)) (hn : x ≠ "__name__" := by decide) (hd : (x == ("__debug__" : Str)) = false := by decide) : PE X (.Name x pos) (tD X.K X.mg Wx (mC (.ty n))) :=
  j_c (pe_bltn (v := .ty n) hg hm hv rfl hn hd) fun _ _ => .ty n
end
def ixD (a b : D) (S : Store) : Option D := match a, b with
  | .lst xs, .int i => atI xs i
  | .tup xs, .int i => atI xs i
  | .scr ns, .int i => (atI ns i).map .int
  | .str x, .int i => if x.length ≤ 100000 then (atI x.cps.toList i).map chD else none
  | .loc n, .int i => match S[n]? with
    | some (.lst xs) => atI xs i
    | _ => none
  | _, _ => none
section
variable {X : Cx} {K : PySem.W.Frag} {mg : Str → Option Value} {Wx : WX}
theorem atI_rep {T : Tb} {H : Hp} {vs : List V} {ds : List D} {i : Int} {d : D} (h : RepL K T H vs ds) (e : atI ds i = some d) : ∃ v, atI vs i = some v ∧ Rep K T H v d := by
  unfold atI at e ⊢
  rw [h.length]
  cases q : ixN ds.length i with
  | none => rw [q] at e; cases e
  | some j =>
    rw [q] at e
    exact h.get e
theorem atI_map {α β : Type} (f : α → β) (xs : List α) (i : Int) : atI (xs.map f) i = (atI xs i).map f := by
  unfold atI
  rw [List.length_map]
  cases ixN xs.length i with
  | none => rfl
  | some j => exact List.getElem?_map
theorem pok_ix : POk2 K mg (rIx K) ixD := fun T S H x y a b d Q sim rx ry e k => by
  cases ry <;> try (cases a <;> cases e)
  rename_i i
  cases rx <;> try cases e
  · rename_i x
    simp only [ixD] at e
    split at e
    · rename_i hz
      cases q : atI x.cps.toList i with
      | none => rw [q] at e; cases e
      | some c =>
        rw [q] at e
        cases e
        exact .inr (.inr ⟨x, i, c, rfl, rfl, sz5 hz, q, k H _ (Step.refl T H) sim (.str _)⟩)
    · cases e
  · rename_i a xs ds h n r
    obtain ⟨v, h1, h2⟩ := atI_rep r e
    exact .inr (.inl ⟨a, xs, i, v, rfl, rfl, SqT.of h, h1, k H _ (Step.refl T H) sim h2⟩)
  · rename_i a xs ds h n r
    obtain ⟨v, h1, h2⟩ := atI_rep r e
    exact .inl ⟨a, xs, i, v, rfl, rfl, SqL.of h, h1, k H _ (Step.refl T H) sim h2⟩
  · rename_i a ns h
    simp only [ixD] at e
    cases q : atI ns i with
    | none => rw [q] at e; cases e
    | some c =>
      rw [q] at e
      cases e
      exact .inl ⟨a, _, i, .int c, rfl, rfl, h.sq, by rw [atI_map, q]; rfl, k H _ (Step.refl T H) sim (.int _)⟩
  · rename_i a n hn
    simp only [ixD] at e
    split at e
    · rename_i xs q
      obtain ⟨ys, q1, q2⟩ := sim.obj _ _ _ hn q
      obtain ⟨v, h1, h2⟩ := atI_rep q2 e
      exact .inl ⟨a, ys, i, v, rfl, rfl, SqL.of q1, h1, k H _ (Step.refl T H) sim h2⟩
    · cases e
end
abbrev OM := Env → Store → R (Option Int)
def mNoP : OM := fun _ S => .ok none S
def mP (m : EM) : OM := fun r S => (m r S).bind fun d S1 => match d with
  | .int i => .ok (some i) S1
  | _ => .bad
def cutL {α : Type} (xs : List α) (lo hi : Option Int) : List α := (xs.drop (HT.sIx xs.length 0 lo)).take (HT.sIx xs.length xs.length hi - HT.sIx xs.length 0 lo)
def slD (d : D) (lo hi : Option Int) (S : Store) : Option D := match d with
  | .lst xs => some (.lst (cutL xs lo hi))
  | .tup xs => some (.tup (cutL xs lo hi))
  | .loc n => match S[n]? with
    | some (.lst xs) => some (.lst (cutL xs lo hi))
    | _ => none
  | _ => none
def mSl (m : EM) (ml mh : OM) : EM := fun r S => (m r S).bind fun d S1 => (ml r S1).bind fun lo S2 => (mh r S2).bind fun hi S3 => ofO (slD d lo hi S3) S3
def tDO (K : PySem.W.Frag) (mg : Str → Option Value) (Wx : WX) (m : OM) : TO := fun g H Q => ∃ T r S, RepSt K T H r g ∧ Sim K mg T S H ∧ Out K mg Wx (fun _ _ v d => v = d) T g H (m r S) Q
section
variable {X : Cx} {K : PySem.W.Frag} {mg : Str → Option Value} {Wx : WX} {e : Expr} {m : EM} {ml mh : OM} {pos p2 : Pos} {lo hi : Option Expr}
theorem po_imp {e : Option Expr} {t t' : TO} (h : PO X e t) (i : ∀ g H Q, t' g H Q → t g H Q) : PO X e t' := ⟨fun pins s g H Q I w => h.run pins s g H Q I (i g H Q w)⟩
theorem jo_none : PO X none (tDO X.K X.mg Wx mNoP) := po_imp po_none fun g H Q h => by
  obtain ⟨T, r, S, rs, sim, h⟩ := h
  exact h T H none (Step.refl T H) sim rfl
theorem jo_some (h : PE X e (tD X.K X.mg Wx m)) : PO X (some e) (tDO X.K X.mg Wx (mP m)) := po_imp (po_some h) fun g H Q h => by
  obtain ⟨T, r, S, rs, sim, h⟩ := h
  refine ⟨T, r, S, rs, sim, Out.bind h fun d S1 T1 H1 v st sim1 rel h1 => ?_⟩
  cases d with
  | int i =>
    rw [rel.int_of]
    exact ⟨i, rfl, h1 T1 H1 _ (Step.refl T1 H1) sim1 rfl⟩
  | _ => exact h1.elim
theorem cut_rep {T : Tb} {H : Hp} {vs : List V} {ds : List D} (lo hi : Option Int) (h : RepL K T H vs ds) : RepL K T H (cutV vs lo hi) (cutL ds lo hi) := by
  unfold cutV cutL
  rw [h.length]
  exact (h.drop _).take _
theorem cut_whole {α : Type} {xs : List α} {lo hi : Option Int} (h : HT.sIx xs.length 0 lo = 0 ∧ HT.sIx xs.length xs.length hi = xs.length) : cutL xs lo hi = xs := by
  unfold cutL
  rw [h.1, h.2, Nat.sub_zero, List.drop_zero, List.take_length]
def rSlB (K : PySem.W.Frag) : V → Option Int → Option Int → Hp → VK → Prop := fun x lo hi H Q => rSlL K x lo hi H Q ∨ rSlA K x lo hi H Q
theorem sl_B : SlR X (rSlB X.K) := sl_list.or sl_tupA
theorem sl_ok {T : Tb} {S : Store} {H : Hp} {v : V} {d d' : D} {lo hi : Option Int} {Q : VK} (sim : Sim K mg T S H) (h : Rep K T H v d) (e : slD d lo hi S = some d') (k : ∀ H' v, Step T H T H' → Sim K mg T S H' → Rep K T H' v d' → Q v H') : rSlB K v lo hi H Q := by
  have mk : ∀ {a : Addr} {xs : List V} {es : List D}, H a = some (.lst xs) → RepL K T H xs es → d' = .lst (cutL es lo hi) → rSlB K (.ref a) lo hi H Q := fun {a xs es} h r ed => by
    subst ed
    refine .inl ⟨a, xs, rfl, SqL.of h, fun p hp => ?_⟩
    have st := sim.stepNew (o := .lst (cutV xs lo hi)) hp
    exact k _ _ st (sim.new hp (hlen_lst sim.hl (Nat.le_trans (cutV_length _ _ _) (sim.hl _ _ (.inl (.inl h)))))) (.lst upd_same (sim.off hp) ((cut_rep lo hi r).step st))
  cases h <;> try cases e
  · rename_i a xs ds h n r
    refine .inr ⟨a, xs, rfl, SqT.of h, fun q => ?_, fun q p hp => ?_⟩
    · refine k H _ (Step.refl T H) sim ?_
      rw [r.length] at q
      rw [cut_whole q]
      exact .tup h n r
    · have st := sim.stepNew (o := .tup (cutV xs lo hi)) hp
      exact k _ _ st (sim.new hp (hlen_tup sim.hl (Nat.le_trans (cutV_length _ _ _) (sim.hl _ _ (.inr (.inl h)))))) (.tup upd_same (sim.off hp) ((cut_rep lo hi r).step st))
  · rename_i a xs ds h n r
    exact mk h r rfl
  · rename_i a n hn
    simp only [slD] at e
    split at e
    · rename_i xs q
      cases e
      obtain ⟨ys, q1, q2⟩ := sim.obj _ _ _ hn q
      exact mk q1 q2 rfl
    · cases e
theorem j_slice (he : PE X e (tD X.K X.mg Wx m)) (hl : PO X lo (tDO X.K X.mg Wx ml)) (hu : PO X hi (tDO X.K X.mg Wx mh)) : PE X (.Subscript e (.Slice lo hi none p2) pos) (tD X.K X.mg Wx (mSl m ml mh)) :=
  pe_imp (pe_slice sl_B he hl hu) fun g H Q h => by
    obtain ⟨T, r, S, rs, sim, h⟩ := h
    refine ⟨T, r, S, rs, sim, Out.bind h fun d S1 T1 H1 v st sim1 rel h1 => ?_⟩
    refine ⟨T1, r, S1, rs.step st, sim1, Out.bind h1 fun l S2 T2 H2 lv st2 sim2 rel2 h2 => ?_⟩
    subst rel2
    refine ⟨T2, r, S2, (rs.step st).step st2, sim2, Out.bind h2 fun u S3 T3 H3 uv st3 sim3 rel3 h3 => ?_⟩
    subst rel3
    exact Out.use h3 fun d' e k => sl_ok sim3 (rel.step (st2.trans st3)) e fun H' v' s' => k T3 H' v' s'
end
def isLoc (o : D) (S : Store) : Bool := match o with
  | .loc n => match S[n]? with
    | some (.lst _) => true
    | _ => false
  | _ => false
def appD (o d : D) (S : Store) : R D := match o with
  | .loc n => match S[n]? with
    | some (.lst xs) => if xs.length < 100000 then .ok .non (S.set n (.lst (xs ++ [d]))) else .bad
    | _ => .bad
  | _ => .bad
def mAppend (mo m : EM) : EM := fun r S => (mo r S).bind fun o S1 => if isLoc o S1 = true then (m r S1).bind fun d S2 => appD o d S2 else .bad
def popD (o : D) (S : Store) : R D := match o with
  | .loc n => match S[n]? with
    | some (.lst xs) => match xs[xs.length - 1]? with
      | some d => .ok d (S.set n (.lst xs.dropLast))
      | none => .bad
    | _ => .bad
  | _ => .bad
def mPop (mo : EM) : EM := fun r S => (mo r S).bind fun o S1 => popD o S1
def putD (o i d : D) (r : Env) (S : Store) : Z := match o, i with
  | .loc n, .int k => match S[n]? with
    | some (.lst xs) => match ixN xs.length k with
      | some j => .ok .next r (S.set n (.lst (xs.set j d)))
      | none => .bad
    | _ => .bad
  | _, _ => .bad
def sSetIx (mo mi m : EM) : SM := fun r S => bindS (m r S) r fun d S1 => bindS (mo r S1) r fun o S2 => bindS (mi r S2) r fun i S3 => putD o i d r S3
def ipD (f : Int → Int → Int) (x y : D) : Option D := match x, y with
  | .int a, .int b => some (.int (f a b))
  | _, _ => none
def getL (o i : D) (S : Store) : Option D := match o, i with
  | .loc n, .int k => match S[n]? with
    | some (.lst xs) => if 0 ≤ k then xs[k.toNat]? else none
    | _ => none
  | _, _ => none
def sAugIx (f : Int → Int → Int) (mo mi m : EM) : SM := fun r S => bindS (mo r S) r fun o S1 => bindS (mi r S1) r fun i S2 => bindS (ofO (getL o i S2) S2) r fun x S3 => bindS (m r S3) r fun y S4 => bindS (ofO (ipD f x y) S4) r fun z S5 => putD o i z r S5
section
variable {X : Cx} {Wx : WX} {o e i : Expr} {mo mi m : EM} {pos apos tpos : Pos} {K : PySem.W.Frag} {mg : Str → Option Value}
theorem loc_of {T : Tb} {S : Store} {H : Hp} {v : V} {n : Nat} {o : O} (sim : Sim K mg T S H) (h : Rep K T H v (.loc n)) (e : S[n]? = some o) : ∃ a, v = .ref a ∧ T.loc[n]? = some a ∧ ORep K mg T H a o := by
  cases h with
  | loc hn => exact ⟨_, rfl, hn, sim.obj _ _ _ hn e⟩
theorem lst_set {T : Tb} {S : Store} {H : Hp} {a : Addr} {n : Nat} {xs : List V} {ds : List D} (sim : Sim K mg T S H) (hn : T.loc[n]? = some a) (hz : xs.length ≤ sizeLine) (r : RepL K T H xs ds) :
    Step T H T (upd H a (.lst xs)) ∧ Sim K mg T (S.set n (.lst ds)) (upd H a (.lst xs)) := by
  have st := sim.stepSet (u := .lst xs) (List.mem_of_getElem? hn)
  exact ⟨st, sim.set hn (hlen_lst sim.hl hz) ⟨xs, upd_same, r.step st⟩⟩
theorem isLoc_ty {T : Tb} {S : Store} {H : Hp} {v : V} {d : D} (sim : Sim K mg T S H) (h : Rep K T H v d) (e : isLoc d S = true) : tyV K "list" v H := by
  unfold isLoc at e
  split at e
  · rename_i n
    split at e
    · rename_i xs q
      obtain ⟨a, rfl, hn, ys, q1, q2⟩ := loc_of sim h q
      exact .inl ⟨rfl, ys, SqL.of q1⟩
    · cases e
  · cases e
theorem j_append (ho : PE X o (tD X.K X.mg Wx mo)) (ha : PE X e (tD X.K X.mg Wx m)) (hbase : attributeBase o "append" X.env (eval o X.env) = eval o X.env := by rfl)
    (hfew : ((backTo pos (starEach [e] X.env)).all (fun x => !x.1) && (backToKw pos (keywordEach [] X.env)).all (fun x => x.1.isSome) && decide (([e] : List Expr).length + ([] : List Keyword).length + (if ([] : List Keyword).isEmpty then 0 else 1) < 30)) = true := by rfl)
    (hline : (apos.endLine == pos.line) = true := by rfl) (hs : starEach [e] X.env = (false, eval e X.env) :: starEach [] X.env := by rfl) (hplain : (backTo pos (starEach [] X.env)).any (·.1) = false := by rfl) :
    PE X (.Call (.Attribute o "append" apos) [e] [] pos) (tD X.K X.mg Wx (mAppend mo m)) :=
  pe_imp (pe_bm PySem.F.plainAttrs_list PySem.F.slot_list_append PySem.F.type_list_append mt_append ho (pa_cons ha pa_nil hs) hbase hfew hline hs hplain) fun g H Q h => by
    obtain ⟨T, r, S, rs, sim, h⟩ := h
    refine ⟨T, r, S, rs, sim, Out.bind h fun d S1 T1 H1 v st sim1 rel h1 => ?_⟩
    split at h1
    · rename_i hl
      refine ⟨isLoc_ty sim1 rel hl, T1, r, S1, rs.step st, sim1, Out.bind h1 fun y S2 T2 H2 w st2 sim2 rel2 h2 => ?_⟩
      unfold appD at h2
      split at h2
      · rename_i n
        split at h2
        · rename_i xs q
          split at h2
          · rename_i hz
            obtain ⟨a, rfl, hn, ys, q1, q2⟩ := loc_of sim2 (rel.step st2) q
            have hl' : ys.length < sizeLine := by rw [q2.length]; exact Nat.lt_of_lt_of_le hz (by decide)
            obtain ⟨st3, sim3⟩ := lst_set (xs := ys ++ [w]) (ds := xs ++ [y]) sim2 hn (by rw [List.length_append, List.length_singleton]; omega) (RepL.append q2 (.cons rel2 .nil))
            exact ⟨a, ys, w, rfl, rfl, q1, hl', h2 T2 _ _ st3 sim3 .non⟩
          · exact h2.elim
        · exact h2.elim
      · exact h2.elim
    · exact h1.elim
theorem RepL.dropLast {T : Tb} {H : Hp} {vs : List V} {ds : List D} (h : RepL K T H vs ds) : RepL K T H vs.dropLast ds.dropLast := by
  rw [List.dropLast_eq_take, List.dropLast_eq_take, h.length]
  exact h.take _
theorem j_pop (ho : PE X o (tD X.K X.mg Wx mo)) (hbase : attributeBase o "pop" X.env (eval o X.env) = eval o X.env := by rfl) (hline : (apos.endLine == pos.line) = true := by rfl) :
    PE X (.Call (.Attribute o "pop" apos) [] [] pos) (tD X.K X.mg Wx (mPop mo)) :=
  pe_imp (pe_bm0 PySem.F.plainAttrs_list PySem.F.slot_list_pop PySem.F.type_list_pop mt_pop ho hbase hline) fun g H Q h => by
    obtain ⟨T, r, S, rs, sim, h⟩ := h
    refine ⟨T, r, S, rs, sim, Out.bind h fun d S1 T1 H1 v st sim1 rel h1 => ?_⟩
    unfold popD at h1
    split at h1
    · rename_i n
      split at h1
      · rename_i xs q
        split at h1
        · rename_i y ey
          obtain ⟨a, rfl, hn, ys, q1, q2⟩ := loc_of sim1 rel q
          obtain ⟨w, e1, e2⟩ := q2.get ey
          have hz : ys.dropLast.length ≤ sizeLine := by
            have := sim1.hl a ys (.inl (.inl q1))
            rw [List.length_dropLast]
            omega
          obtain ⟨st3, sim3⟩ := lst_set sim1 hn hz q2.dropLast
          exact ⟨.inl ⟨rfl, ys, SqL.of q1⟩, a, ys, w, rfl, rfl, q1, by rw [q2.length]; exact e1, h1 T1 _ _ st3 sim3 (e2.step st3)⟩
        · exact h1.elim
      · exact h1.elim
    · exact h1.elim
theorem putD_ok {T : Tb} {S : Store} {H : Hp} {r : Env} {E : Ends} {g : St} {ov iv v : V} {o i d : D} (sim : Sim K mg T S H) (rs : RepSt K T H r g) (h1 : Rep K T H ov o) (h2 : Rep K T H iv i) (h3 : Rep K T H v d) (h : ZOut K mg Wx T H (putD o i d r S) E) :
    rSetL ov iv v H fun H4 => E.nx g H4 := by
  unfold putD at h
  split at h
  · rename_i n k
    split at h
    · rename_i xs q
      split at h
      · rename_i j ej
        obtain ⟨a, rfl, hn, ys, q1, q2⟩ := loc_of sim h1 q
        obtain ⟨st3, sim3⟩ := lst_set sim hn (by rw [List.length_set]; exact sim.hl a ys (.inl (.inl q1))) (q2.set h3 j)
        exact ⟨a, ys, k, j, rfl, h2.int_of, q1, by rw [q2.length]; exact ej, h T _ g st3 sim3 (rs.step st3)⟩
      · exact h.elim
    · exact h.elim
  · exact h.elim
theorem js_setIx {hv : Expr} {mv : EM} (he : PE X hv (tD X.K X.mg Wx mv)) (ho : PE X o (tD X.K X.mg Wx mo)) (hi : PE X i (tD X.K X.mg Wx mi))
    (ha : ∀ v, assign (.Subscript o i tpos) X.env v = (do
      let ov ← holding [v] (eval o X.env)
      let iv ← holding [v, ov] (eval i X.env)
      standAt tpos
      holding [v, ov, iv] (setItem ov iv v)
      release [v, ov, iv] []) := by intro _; rfl)
    (hs : swapsWithSole [.Subscript o i tpos] hv pos.line X.env = pure false := by rfl) (hw : swappedStores [.Subscript o i tpos] hv X.env = pure none := by rfl)
    (h1 : (assignEach [.Subscript o i tpos] X.env).map (·.2) = [assign (.Subscript o i tpos) X.env] := by rfl) : PS X (.Assign [.Subscript o i tpos] hv pos) (tDS X.K X.mg Wx (sSetIx mo mi mv)) :=
  ps_imp (ps_asg he (pg_sub ho hi set_list ha) hs hw h1) fun E g H h => by
    obtain ⟨T, r, S, rs, sim, h⟩ := h
    refine ⟨T, r, S, rs, sim, ZOut.bind h rs fun d S1 T1 H1 v st sim1 rel rs1 h1 => ?_⟩
    refine ⟨T1, r, S1, rs1, sim1, ZOut.bind h1 rs1 fun ov S2 T2 H2 x st2 sim2 rel2 rs2 h2 => ?_⟩
    refine ⟨T2, r, S2, rs2, sim2, ZOut.bind h2 rs2 fun iv S3 T3 H3 y st3 sim3 rel3 rs3 h3 => ?_⟩
    exact putD_ok sim3 rs3 (rel2.step st3) rel3 (rel.step (st2.trans st3)) h3
end
end Dv
namespace Dv
open PySem L2
def fldD (c f : Str) (d : D) (S : Store) : Option D := match d with
  | .loc n => match S[n]? with
    | some (.ins c' fs) => if c' = c then fs.lookup f else none
    | _ => none
  | _ => none
def mFld (c f : Str) (m : EM) : EM := mUn (fldD c f) m
def putFD (f : Str) (v : D) : List (Str × D) → List (Str × D)
  | [] => [(f, v)]
  | (g, w) :: r => if g = f then (g, v) :: r else (g, w) :: putFD f v r
def setFD (c f : Str) (o v : D) (r : Env) (S : Store) : Z := match o with
  | .loc n => match S[n]? with
    | some (.ins c' fs) => if c' = c ∧ fs.length < 900 then .ok .next r (S.set n (.ins c' (putFD f v fs))) else .bad
    | _ => .bad
  | _ => .bad
def sFldD (c f : Str) (mo m : EM) : SM := fun r S => bindS (m r S) r fun v S1 => bindS (mo r S1) r fun o S2 => setFD c f o v r S2
def sFldAugD (c f : Str) (h : Int → Int → Int) (mo m : EM) : SM := fun r S => bindS (mo r S) r fun o S1 => bindS (ofO (fldD c f o S1) S1) r fun x S2 => bindS (m r S2) r fun y S3 => bindS (ofO (ipD h x y) S3) r fun z S4 => setFD c f o z r S4
section
variable {K : PySem.W.Frag} {mg : Str → Option Value} {T : Tb} {H : Hp}
theorem lookup_rep {f : Str} {d : D} : ∀ {fvs : List (Str × V)} {fs : List (Str × D)}, fvs.map (·.1) = fs.map (·.1) → RepL K T H (fvs.map (·.2)) (fs.map (·.2)) → fs.lookup f = some d → ∃ v, fvs.lookup f = some v ∧ Rep K T H v d
  | [], [], _, _, e => by cases e
  | [], _ :: _, q, _, _ => by cases q
  | _ :: _, [], q, _, _ => by cases q
  | (g, w) :: fvs, (g', d') :: fs, q, r, e => by
    injection q with q1 q2
    have q1 : g = g' := q1
    subst q1
    cases r with
    | cons r1 r2 =>
      rw [List.lookup_cons] at e ⊢
      cases hb : (f == g) with
      | true =>
        rw [hb] at e
        cases e
        exact ⟨w, rfl, r1⟩
      | false =>
        rw [hb] at e
        exact lookup_rep q2 r2 e
theorem lookup_none {f : Str} : ∀ {fvs : List (Str × V)} {fs : List (Str × D)}, fvs.map (·.1) = fs.map (·.1) → fs.lookup f = none → fvs.lookup f = none
  | [], _, _, _ => rfl
  | _ :: _, [], q, _ => by cases q
  | (g, w) :: fvs, (g', d') :: fs, q, e => by
    injection q with q1 q2
    have q1 : g = g' := q1
    subst q1
    rw [List.lookup_cons] at e ⊢
    cases hb : (f == g) with
    | true => rw [hb] at e; cases e
    | false =>
      rw [hb] at e
      exact lookup_none q2 e
theorem putF_rep {f : Str} {v : V} {d : D} (hv : Rep K T H v d) : ∀ {fvs : List (Str × V)} {fs : List (Str × D)}, fvs.map (·.1) = fs.map (·.1) → RepL K T H (fvs.map (·.2)) (fs.map (·.2)) →
    (putF f v fvs).map (·.1) = (putFD f d fs).map (·.1) ∧ RepL K T H ((putF f v fvs).map (·.2)) ((putFD f d fs).map (·.2))
  | [], [], _, _ => ⟨rfl, .cons hv .nil⟩
  | [], _ :: _, q, _ => by cases q
  | _ :: _, [], q, _ => by cases q
  | (g, w) :: fvs, (g', d') :: fs, q, r => by
    injection q with q1 q2
    have q1 : g = g' := q1
    subst q1
    cases r with
    | cons r1 r2 =>
      obtain ⟨h1, h2⟩ := putF_rep hv q2 r2
      show ((if g = f then (g, v) :: fvs else (g, w) :: putF f v fvs).map (·.1)) = ((if g = f then (g, d) :: fs else (g, d') :: putFD f d fs).map (·.1)) ∧ RepL K T H ((if g = f then (g, v) :: fvs else (g, w) :: putF f v fvs).map (·.2)) ((if g = f then (g, d) :: fs else (g, d') :: putFD f d fs).map (·.2))
      by_cases hg : g = f
      · rw [if_pos hg, if_pos hg]
        exact ⟨by rw [List.map_cons, List.map_cons, q2], .cons hv r2⟩
      · rw [if_neg hg, if_neg hg]
        exact ⟨by rw [List.map_cons, List.map_cons, h1], .cons r1 h2⟩
end
structure ClsOk (K : PySem.W.Frag) (mg : Str → Option Value) (c : Str) (C : Addr) : Prop where
  at_ : mg c = some (.ref C)
  cls : Cls K C
section
variable {X : Cx} {Wx : WX} {o e : Expr} {c f : Str} {C : Addr} {mo m : EM} {pos pos' tpos : Pos}
theorem ins_of {K : PySem.W.Frag} {mg : Str → Option Value} {T : Tb} {S : Store} {H : Hp} {v : V} {n : Nat} {fs : List (Str × D)} (k : ClsOk K mg c C) (sim : Sim K mg T S H) (h : Rep K T H v (.loc n)) (e : S[n]? = some (.ins c fs)) :
    ∃ a dx fvs, v = .ref a ∧ T.loc[n]? = some a ∧ H a = some (.ins C dx fvs) ∧ fvs.map (·.1) = fs.map (·.1) ∧ RepL K T H (fvs.map (·.2)) (fs.map (·.2)) := by
  obtain ⟨a, rfl, hn, C', dx, fvs, h1, h2, h3, h4⟩ := loc_of sim h e
  rw [k.at_] at h1
  cases h1
  exact ⟨a, dx, fvs, rfl, hn, h2, h3, h4⟩
theorem j_fld (k : ClsOk X.K X.mg c C) (hn : NoAttr X.K C f) (he : PE X o (tD X.K X.mg Wx mo)) (hb : attributeBase o f X.env (eval o X.env) = eval o X.env := by rfl) : PE X (.Attribute o f pos) (tD X.K X.mg Wx (mFld c f mo)) :=
  pe_imp (pe_fld he hb) fun g H Q h => by
    obtain ⟨T, r, S, rs, sim, h⟩ := h
    refine ⟨T, r, S, rs, sim, Out.bind h fun d S1 T1 H1 v st sim1 rel h1 => ?_⟩
    refine Out.use h1 fun d' ed kd => ?_
    unfold fldD at ed
    split at ed
    · rename_i n
      split at ed
      · rename_i c' fs q
        split at ed
        · rename_i hc
          subst hc
          obtain ⟨a, dx, fvs, rfl, hn', h2, h3, h4⟩ := ins_of k sim1 rel q
          obtain ⟨w, e1, e2⟩ := lookup_rep h3 h4 ed
          exact ⟨a, C, dx, fvs, w, rfl, h2, k.cls, hn, e1, kd T1 H1 w (Step.refl T1 H1) sim1 e2⟩
        · cases ed
      · cases ed
    · cases ed
theorem setFD_ok {K : PySem.W.Frag} {mg : Str → Option Value} {T : Tb} {S : Store} {H : Hp} {r : Env} {E : Ends} {g : St} {ov v : V} {o d : D} (k : ClsOk K mg c C) (sim : Sim K mg T S H) (rs : RepSt K T H r g) (h1 : Rep K T H ov o) (h3 : Rep K T H v d) (h : ZOut K mg Wx T H (setFD c f o d r S) E) :
    ∃ a dx fvs, ov = .ref a ∧ H a = some (.ins C dx fvs) ∧ fvs.length < 1000 ∧ E.nx g (upd H a (.ins C dx (putF f v fvs))) := by
  unfold setFD at h
  split at h
  · rename_i n
    split at h
    · rename_i c' fs q
      split at h
      · rename_i hc
        obtain ⟨hc, hlen⟩ := hc
        subst hc
        obtain ⟨a, dx, fvs, rfl, hn, h2, h4, h5⟩ := ins_of k sim h1 q
        have hl : fvs.length = fs.length := by
          have := congrArg List.length h4
          rw [List.length_map, List.length_map] at this
          exact this
        have st := sim.stepSet (u := .ins C dx (putF f v fvs)) (List.mem_of_getElem? hn)
        obtain ⟨p1, p2⟩ := putF_rep (h3.step st) h4 (h5.step st)
        have sim' := sim.set (u := .ins C dx (putF f v fvs)) (o := .ins c' (putFD f d fs)) hn (hlen_oth sim.hl fun xs => ⟨nofun, nofun, fun _ => nofun, fun _ => nofun⟩) ⟨C, dx, _, k.at_, upd_same, p1, p2⟩
        exact ⟨a, dx, fvs, rfl, h2, by omega, h T _ g st sim' (rs.step st)⟩
      · exact h.elim
    · exact h.elim
  · exact h.elim
theorem js_fld (k : ClsOk X.K X.mg c C) (hn : NoAttr X.K C f) (ho : PE X o (tD X.K X.mg Wx mo)) (he : PE X e (tD X.K X.mg Wx m)) (hs : swapsWith e (some (.Attribute o f pos')) pos.line X.env = pure false := by rfl) :
    PS X (.Assign [.Attribute o f pos'] e pos) (tDS X.K X.mg Wx (sFldD c f mo m)) :=
  ps_imp (ps_fld ho he hs) fun E g H h => by
    obtain ⟨T, r, S, rs, sim, h⟩ := h
    refine ⟨T, r, S, rs, sim, ZOut.bind h rs fun d S1 T1 H1 v st sim1 rel rs1 h1 => ?_⟩
    refine ⟨T1, r, S1, rs1, sim1, ZOut.bind h1 rs1 fun od S2 T2 H2 x st2 sim2 rel2 rs2 h2 => ?_⟩
    obtain ⟨a, dx, fvs, e1, e2, e3, e4⟩ := setFD_ok k sim2 rs2 rel2 (rel.step st2) h2
    exact ⟨a, C, dx, fvs, e1, e2, k.cls, hn, e3, e4⟩
theorem js_fldAug {op : Operator} {hf : Int → Int → Int} (k : ClsOk X.K X.mg c C) (hn : NoAttr X.K C f) (hop : InOp X op fun x y H Q => ∃ i j, x = .int i ∧ y = .int j ∧ Q (.int (hf i j)) H) (ho : PE X o (tD X.K X.mg Wx mo)) (he : PE X e (tD X.K X.mg Wx m)) :
    PS X (.AugAssign (.Attribute o f tpos) op e pos) (tDS X.K X.mg Wx (sFldAugD c f hf mo m)) :=
  ps_imp (ps_fldaug ho he hop) fun E g H h => by
    obtain ⟨T, r, S, rs, sim, h⟩ := h
    refine ⟨T, r, S, rs, sim, ZOut.bind h rs fun od S1 T1 H1 x st sim1 rel rs1 h1 => ?_⟩
    have h1' := ZOut.bind (rel := Rep X.K) h1 rs1 (Q := fun z H2 => tD X.K X.mg Wx m g H2 fun w H3 => ∃ i j, z = .int i ∧ w = .int j ∧ ∃ a dx fvs, x = .ref a ∧ H3 a = some (.ins C dx fvs) ∧ fvs.length < 1000 ∧ E.nx g (upd H3 a (.ins C dx (putF f (.int (hf i j)) fvs)))) fun xd S2 T2 H2 z st2 sim2 rel2 rs2 h2 => by
      refine ⟨T2, r, S2, rs2, sim2, ZOut.bind h2 rs2 fun yd S3 T3 H3 w st3 sim3 rel3 rs3 h3 => ?_⟩
      cases xd with
      | int i =>
        cases yd with
        | int j =>
          rw [rel2.int_of, rel3.int_of]
          exact ⟨i, j, rfl, rfl, setFD_ok k sim3 rs3 (rel.step (st2.trans st3)) (.int _) h3⟩
        | _ => exact h3.elim
      | _ => cases yd <;> exact h3.elim
    refine Out.use h1' fun d' ed kd => ?_
    unfold fldD at ed
    split at ed
    · rename_i n
      split at ed
      · rename_i c' fs q
        split at ed
        · rename_i hc
          subst hc
          obtain ⟨a, dx, fvs, rfl, hn', h2, h3, h4⟩ := ins_of k sim1 rel q
          obtain ⟨w, e1, e2⟩ := lookup_rep h3 h4 ed
          obtain ⟨T5, r5, S5, q1, q2, q3⟩ := kd T1 H1 w (Step.refl T1 H1) sim1 e2
          refine ⟨a, C, dx, fvs, w, rfl, h2, k.cls, hn, e1, T5, r5, S5, q1, q2, ?_⟩
          revert q3
          cases m r5 S5 with
          | bad => exact fun h => h
          | exc n S => exact fun h => h
          | ok y S =>
            intro h T6 H6 v6 s6 m6 p6
            obtain ⟨i, j, e3, e4, a', dx', fvs', e5, e6, e7, e8⟩ := h T6 H6 v6 s6 m6 p6
            cases e5
            exact ⟨i, j, e3, e4, dx', fvs', e6, e7, e8⟩
        · cases ed
      · cases ed
    · cases ed
end
def isIns (c mth : Str) (o : D) (S : Store) : Bool := match o with
  | .loc n => match S[n]? with
    | some (.ins c' fs) => decide (c' = c) && (fs.lookup mth).isNone
    | _ => false
  | _ => false
def mMeth (c mth : Str) (n : Nat) (F : List D → Store → R D) (mo : EM) (ms : AM) : EM := fun r S => (mo r S).bind fun o S1 => if isIns c mth o S1 = true then (ms r S1).bind fun ds S2 => if (o :: ds).length = n then F (o :: ds) S2 else .bad else .bad
section
variable {X : Cx} {Wx : WX} {o e : Expr} {es : List Expr} {c mth : Str} {C f : Addr} {mo : EM} {ms : AM} {pos apos p : Pos} {k n : Nat} {fd : FuncData} {ps : List Str} {Fn : List D → Store → R D} {x : Str}
theorem isIns_ok {K : PySem.W.Frag} {mg : Str → Option Value} {T : Tb} {S : Store} {H : Hp} {v : V} {d : D} (kc : ClsOk K mg c C) (sim : Sim K mg T S H) (h : Rep K T H v d) (e : isIns c mth d S = true) : ∃ a dx fvs, v = .ref a ∧ H a = some (.ins C dx fvs) ∧ fvs.lookup mth = none := by
  unfold isIns at e
  split at e
  · rename_i n
    split at e
    · rename_i c' fs q
      rw [Bool.and_eq_true] at e
      have hc := of_decide_eq_true e.1
      subst hc
      obtain ⟨a, dx, fvs, rfl, hn', h2, h3, h4⟩ := ins_of kc sim h q
      exact ⟨a, dx, fvs, rfl, h2, lookup_none h3 (Option.isNone_iff_eq_none.mp e.2)⟩
    · cases e
  · cases e
theorem out_sp {K : PySem.W.Frag} {mg : Str → Option Value} {T : Tb} {g : St} {H : Hp} {x : R D} {Q : VK} (h : Out K mg Wx (Rep K) T g H x Q) : Out K mg (fun c d _ H => WE Wx g c d H) (Rep K) T [] H x Q := by
  cases x with
  | bad => exact h
  | exc n S => exact h
  | ok d S => exact h
theorem j_meth {pl : Sem Bool} (kc : ClsOk X.K X.mg c C) (hm : Meth X.K C mth f) (F : FnOk X.prog X.w X.K X.mg X.base (L2.CX X.prog X.w) k f fd ps (spD X.K X.mg n Fn)) (hr : Room k X.A) (hb : Binds X.K fd ps []) (tk : Takes X Wx)
    (ho : PE X o (tD X.K X.mg Wx mo)) (ha : PA X (e :: es) (tDA X.K X.mg Wx ms))
    (hst : starEach (e :: es) X.env = (false, eval e X.env) :: starEach es X.env := by rfl) (hpl : (backTo pos (starEach es X.env)).any (·.1) = false := by rfl)
    (ht : eval (.Call (.Attribute o mth apos) (e :: es) [] pos) X.env = (do
      let ov ← eval o X.env
      standAt apos.atName
      let (f, first) ← holding [ov] (getMethod ov mth pl)
      callWith pos f first (backTo pos (starEach (e :: es) X.env)) (backToKw pos (keywordEach [] X.env))) := by rfl) :
    PE X (.Call (.Attribute o mth apos) (e :: es) [] pos) (tD X.K X.mg Wx (mMeth c mth n Fn mo ms)) := by
  refine ⟨fun pins s g H Q I h => PySem.W.methodCall_KW (pl := pl) ?_ ht⟩
  obtain ⟨T, r, S, rs, sim, h⟩ := h
  refine thn (ho.run pins s g H (fun v H1 => ∃ a dx fvs, v = .ref a ∧ H1 a = some (.ins C dx fvs) ∧ fvs.lookup mth = none ∧ tDA X.K X.mg Wx ms g H1 fun vs H2 => spD X.K X.mg n Fn (v :: vs) H2 Q (WE Wx g)) I ⟨T, r, S, rs, sim, Out.bind h fun d S1 T1 H1 v st sim1 rel h1 => ?_⟩) fun u s1 hu => ?_
  · split at h1
    · rename_i hi
      obtain ⟨a, dx, fvs, rfl, e2, e3⟩ := isIns_ok kc sim1 rel hi
      refine ⟨a, dx, fvs, rfl, e2, e3, T1, r, S1, rs.step st, sim1, Out.bind h1 fun ds S2 T2 H2 vs st2 sim2 rel2 h2 => ?_⟩
      split at h2
      · rename_i hn
        exact ⟨by rw [List.length_cons, rel2.length]; exact hn, T2, S2, d :: ds, .cons (rel.step st2) rel2, sim2, out_sp h2⟩
      · exact h2.elim
    · exact h1.elim
  · obtain ⟨v, H1, I1, rv, a, dx, fvs, ev, ea, el, q⟩ := hu
    subst ev
    obtain rfl : u = Value.ref a := rv
    refine getmeth_ok I1 ea kc.cls hm el ?_
    refine PySem.W.callWith_K (first := [.ref a]) (h₀ := X.base) I.ok.mod.kin hm.kp (thn (ha.run pos pins s1 g H1 _ I1 q) fun us s2 hq => ?_) hst hpl
    obtain ⟨vs, H2, I2, rr, q2⟩ := hq
    exact ⟨I2.kIn, run_fnSD (us := .ref a :: us) (vs := .ref a :: vs) (E := WE Wx) (dvs := []) F hr hb .nil (passAt tk g) I2 (.cons rfl rr) (by rw [List.append_nil]; exact q2)⟩
theorem j_meth0 {pl : Sem Bool} (kc : ClsOk X.K X.mg c C) (hm : Meth X.K C mth f) (F : FnOk X.prog X.w X.K X.mg X.base (L2.CX X.prog X.w) k f fd ps (spD X.K X.mg n Fn)) (hr : Room k X.A) (hb : Binds X.K fd ps []) (tk : Takes X Wx)
    (ho : PE X o (tD X.K X.mg Wx mo))
    (ht : eval (.Call (.Attribute o mth apos) [] [] pos) X.env = (do
      let ov ← eval o X.env
      standAt apos.atName
      let (f, first) ← holding [ov] (getMethod ov mth pl)
      callWith pos f first (backTo pos (starEach [] X.env)) (backToKw pos (keywordEach [] X.env))) := by rfl) :
    PE X (.Call (.Attribute o mth apos) [] [] pos) (tD X.K X.mg Wx (mMeth c mth n Fn mo mNil)) := by
  refine ⟨fun pins s g H Q I h => PySem.W.methodCall_KW (pl := pl) ?_ ht⟩
  obtain ⟨T, r, S, rs, sim, h⟩ := h
  refine thn (ho.run pins s g H (fun v H1 => ∃ a dx fvs, v = .ref a ∧ H1 a = some (.ins C dx fvs) ∧ fvs.lookup mth = none ∧ spD X.K X.mg n Fn [v] H1 Q (WE Wx g)) I ⟨T, r, S, rs, sim, Out.bind h fun d S1 T1 H1 v st sim1 rel h1 => ?_⟩) fun u s1 hu => ?_
  · split at h1
    · rename_i hi
      obtain ⟨a, dx, fvs, rfl, e2, e3⟩ := isIns_ok kc sim1 rel hi
      have h1 : Out X.K X.mg Wx (Rep X.K) T1 g H1 (if [d].length = n then Fn [d] S1 else .bad) Q := h1
      split at h1
      · rename_i hn
        exact ⟨a, dx, fvs, rfl, e2, e3, hn, T1, S1, [d], .cons rel .nil, sim1, out_sp h1⟩
      · exact h1.elim
    · exact h1.elim
  · obtain ⟨v, H1, I1, rv, a, dx, fvs, ev, ea, el, q⟩ := hu
    subst ev
    obtain rfl : u = Value.ref a := rv
    refine getmeth_ok I1 ea kc.cls hm el ?_
    exact PySem.W.callWith_K0 (first := [.ref a]) I1.kIn hm.kp (run_fnSD (us := [.ref a]) (vs := [.ref a]) (E := WE Wx) (dvs := []) F hr hb .nil (passAt tk g) I1 (.cons rfl .nil) q)
def mMake (c : Str) (n : Nat) (F : List D → Store → R D) (ms : AM) : EM := fun r S => (ms r S).bind fun ds S1 => if (ds.length + 1) = n then (nox (F (.loc S1.length :: ds) (S1 ++ [.ins c []]))).bind fun d S2 => match d with
  | .non => .ok (.loc S1.length) S2
  | _ => .bad else .bad
theorem make_ok {K : PySem.W.Frag} {mg : Str → Option Value} {T : Tb} {S : Store} {H : Hp} {g : St} {ds : List D} {vs : List V} {Q : VK} (kc : ClsOk K mg c C) (sim : Sim K mg T S H) (rel : RepL K T H vs ds) (hn : ds.length + 1 = n)
    (h : Out K mg Wx (Rep K) T g H ((nox (Fn (.loc S.length :: ds) (S ++ [.ins c []]))).bind fun d S2 => match d with
      | .non => .ok (.loc S.length) S2
      | _ => .bad) Q) : ∀ x dx, H x = none → H dx = none → dx ≠ x → spD K mg n Fn (.ref x :: vs) (upd (upd H dx (.own x)) x (.ins C dx [])) (fun v H2 => v = .non ∧ Q (.ref x) H2) E0 := by
  intro x dx hx hdx ne
  have nl : ∀ (a : Addr) (o : HO), (∀ xs, o ≠ .lst xs ∧ o ≠ .tup xs ∧ (∀ y, o ≠ .frz y (.lst xs)) ∧ ∀ y, o ≠ .frz y (.tup xs)) → ∀ {H : Hp}, HLen H → HLen (upd H a o) := fun a o ho H hh => hlen_oth hh ho
  have st1 := sim.stepNew (o := .own x) hdx
  have sim1 := sim.new (o := .own x) hdx (nl dx (.own x) (fun xs => ⟨nofun, nofun, fun _ => nofun, fun _ => nofun⟩) sim.hl)
  have hx1 : (upd H dx (.own x)) x = none := by rw [upd_ne ne.symm]; exact hx
  have st2 := sim1.stepAlloc (o := .ins C dx []) hx1
  have sim2 := sim1.alloc (u := .ins C dx []) (o := .ins c []) hx1 (nl x (.ins C dx []) (fun xs => ⟨nofun, nofun, fun _ => nofun, fun _ => nofun⟩) sim1.hl) ⟨C, dx, [], kc.at_, upd_same, rfl, .nil⟩
  refine ⟨by rw [List.length_cons, rel.length]; exact hn, T.add x, S ++ [.ins c []], .loc S.length :: ds, .cons (.loc sim.newGet) ((rel.step st1).step st2), sim2, ?_⟩
  revert h
  cases Fn (.loc S.length :: ds) (S ++ [.ins c []]) with
  | bad => exact fun h => h
  | exc m S2 => exact fun h => h.elim
  | ok d S2 =>
    intro h T' H' v s m rep
    cases d with
    | non => exact ⟨rep.non_of, h T' H' _ ((st1.trans st2).trans s) m (.loc (s.get sim.newGet))⟩
    | _ => exact h.elim
theorem j_make (kc : ClsOk X.K X.mg c C) (M : Mk X.K C f) (F : FnOk X.prog X.w X.K X.mg X.base (L2.CX X.prog X.w) k f fd ps (spD X.K X.mg n Fn)) (hr : Room (k + 1) X.A) (hg : Gl X c) (hb : Binds X.K fd ps [])
    (ha : PA X (e :: es) (tDA X.K X.mg Wx ms)) (hdb : (c == ("__debug__" : Str)) = false := by decide) (he : starEach (e :: es) X.env = (false, eval e X.env) :: starEach es X.env := by rfl) (hpl : (backTo pos (starEach es X.env)).any (·.1) = false := by rfl) :
    PE X (.Call (.Name c p) (e :: es) [] pos) (tD X.K X.mg Wx (mMake c n Fn ms)) :=
  pe_imp (pe_make (E := E0) M F hr hg kc.at_ hb .nil passL ha hdb he hpl) fun g H Q h => by
    obtain ⟨T, r, S, rs, sim, h⟩ := h
    refine ⟨T, r, S, rs, sim, Out.bind h fun ds S1 T1 H1 vs st sim1 rel h1 => ?_⟩
    split at h1
    · rename_i hn
      rw [List.append_nil]
      exact make_ok kc sim1 rel hn h1
    · exact h1.elim
end
end Dv
set_option maxHeartbeats 1000000
namespace Dv
open PySem L2
section
variable {α : Type}
def insL (lt : α → α → Bool) (x : α) : List α → List α
  | [] => [x]
  | y :: ys => if lt y x = true then y :: insL lt x ys else x :: y :: ys
def sortL (lt : α → α → Bool) : List α → List α
  | [] => []
  | x :: xs => insL lt x (sortL lt xs)
variable {lt : α → α → Bool}
theorem insL_perm (x : α) : ∀ l : List α, (insL lt x l).Perm (x :: l)
  | [] => List.Perm.refl _
  | y :: ys => by
    unfold insL
    split
    · exact ((insL_perm x ys).cons y).trans (List.Perm.swap x y ys)
    · exact List.Perm.refl _
theorem sortL_perm : ∀ l : List α, (sortL lt l).Perm l
  | [] => List.Perm.refl _
  | x :: xs => (insL_perm x _).trans ((sortL_perm xs).cons x)
theorem insL_srtd (O : SrtO.Swo lt) (x : α) : ∀ {l : List α}, SrtO.Srtd lt l → SrtO.Srtd lt (insL lt x l)
  | [], _ => List.pairwise_singleton _ _
  | y :: ys, h => by
    unfold insL
    split
    · rename_i hy
      refine List.pairwise_cons.mpr ⟨fun z hz => ?_, insL_srtd O x (List.pairwise_cons.mp h).2⟩
      rcases List.mem_cons.mp ((insL_perm x ys).mem_iff.mp hz) with e | e
      · rw [e]
        exact O.asym _ _ hy
      · exact (List.pairwise_cons.mp h).1 z e
    · rename_i hy
      refine List.pairwise_cons.mpr ⟨fun z hz => ?_, h⟩
      have hy : lt y x = false := by simpa using hy
      rcases List.mem_cons.mp hz with e | e
      · rw [e]
        exact hy
      · exact O.tr x y z hy ((List.pairwise_cons.mp h).1 z e)
theorem sortL_srtd (O : SrtO.Swo lt) : ∀ l : List α, SrtO.Srtd lt (sortL lt l)
  | [] => List.Pairwise.nil
  | x :: xs => insL_srtd O x (sortL_srtd O xs)
theorem insL_cls (O : SrtO.Swo lt) (x z : α) : ∀ l : List α, (insL lt x l).filter (SrtO.eqv lt z) = (x :: l).filter (SrtO.eqv lt z)
  | [] => rfl
  | y :: ys => by
    unfold insL
    split
    · rename_i hy
      have ih := insL_cls O x z ys
      by_cases hz : SrtO.eqv lt z y = true
      · have hx : SrtO.eqv lt z x = false := by
          by_cases q : SrtO.eqv lt z x = true
          · have h1 := SrtO.eqv_iff.mp hz
            have h2 := SrtO.eqv_iff.mp q
            have : lt y x = false := O.tr x z y h2.1 h1.2
            rw [hy] at this
            cases this
          · simpa using q
        rw [List.filter_cons_of_pos hz, ih, List.filter_cons_of_neg (by rw [hx]; exact Bool.false_ne_true), List.filter_cons_of_neg (by rw [hx]; exact Bool.false_ne_true), List.filter_cons_of_pos hz]
      · rw [List.filter_cons_of_neg hz, ih]
        by_cases hx : SrtO.eqv lt z x = true
        · rw [List.filter_cons_of_pos hx, List.filter_cons_of_pos hx, List.filter_cons_of_neg hz]
        · rw [List.filter_cons_of_neg hx, List.filter_cons_of_neg hx, List.filter_cons_of_neg hz]
    · rfl
theorem sortL_stb (O : SrtO.Swo lt) : ∀ l : List α, SrtO.Stb lt (sortL lt l) l
  | [] => SrtO.Stb.refl _
  | x :: xs => ⟨sortL_perm _, fun z => by
    show (insL lt x (sortL lt xs)).filter (SrtO.eqv lt z) = (x :: xs).filter (SrtO.eqv lt z)
    rw [insL_cls O]
    by_cases hx : SrtO.eqv lt z x = true
    · rw [List.filter_cons_of_pos hx, List.filter_cons_of_pos hx, (sortL_stb O xs).cls z]
    · rw [List.filter_cons_of_neg hx, List.filter_cons_of_neg hx, (sortL_stb O xs).cls z]⟩
theorem sortL_uniq (O : SrtO.Swo lt) {l m : List α} (h1 : SrtO.Srtd lt m) (h2 : SrtO.Stb lt m l) : m = sortL lt l :=
  SrtO.stb_uniq O h1 (sortL_srtd O l) (h2.trans ⟨(sortL_stb O l).perm.symm, fun z => ((sortL_stb O l).cls z).symm⟩)
theorem sortL_len (l : List α) : (sortL lt l).length = l.length := (sortL_perm l).length_eq
end
def ltI (a b : Int) : Bool := decide (a < b)
theorem ltI_swo : SrtO.Swo ltI := ⟨fun x y h => decide_eq_false (by have := of_decide_eq_true h; omega), fun x y z h1 h2 => decide_eq_false (by have := of_decide_eq_false h1; have := of_decide_eq_false h2; omega)⟩
abbrev ltR : List Int → List Int → Bool := HT.lexLt
theorem ltR_asym : ∀ x y : List Int, ltR x y = true → ltR y x = false
  | [], [], h => by cases h
  | [], _ :: _, _ => rfl
  | _ :: _, [], h => by cases h
  | a :: x, b :: y, h => by
    have h : (if a = b then HT.lexLt x y else decide (a < b)) = true := h
    show (if b = a then HT.lexLt y x else decide (b < a)) = false
    by_cases e : a = b
    · subst e
      rw [if_pos rfl] at h ⊢
      exact ltR_asym x y h
    · rw [if_neg e] at h
      rw [if_neg (Ne.symm e)]
      have := of_decide_eq_true h
      exact decide_eq_false (by omega)
theorem ltR_tr : ∀ x y z : List Int, ltR y x = false → ltR z y = false → ltR z x = false
  | [], [], z, _, h => h
  | [], b :: y, [], _, _ => rfl
  | [], b :: y, c :: z, _, _ => rfl
  | a :: x, [], z, h, _ => by cases h
  | a :: x, b :: y, [], _, h => by cases h
  | a :: x, b :: y, c :: z, g1, g2 => by
    have h1 : (if b = a then HT.lexLt y x else decide (b < a)) = false := g1
    have h2 : (if c = b then HT.lexLt z y else decide (c < b)) = false := g2
    clear g1 g2
    show (if c = a then HT.lexLt z x else decide (c < a)) = false
    by_cases e1 : b = a
    · subst e1
      rw [if_pos rfl] at h1
      by_cases e2 : c = b
      · subst e2
        rw [if_pos rfl] at h2 ⊢
        exact ltR_tr x y z h1 h2
      · rw [if_neg e2] at h2 ⊢
        exact h2
    · rw [if_neg e1] at h1
      have h3 := of_decide_eq_false h1
      by_cases e2 : c = b
      · subst e2
        rw [if_neg e1]
        exact h1
      · rw [if_neg e2] at h2
        have h4 := of_decide_eq_false h2
        rw [if_neg (by omega)]
        exact decide_eq_false (by omega)
theorem ltR_swo : SrtO.Swo ltR := ⟨ltR_asym, ltR_tr⟩
section
variable {prog : Program} {w : World} {A : Around} {s : Shared} {Q : Bool → Shared → Prop}
theorem lexI {b fin : Bool} : ∀ {xs ys : List Value} {ns ms : List Int} (i : Nat), PyProof.Rows.IntsAre xs ns → PyProof.Rows.IntsAre ys ms → fin = decide (ns.length < ms.length) → Q (ltR ns ms) s → PySem.W.KatLex prog w A b fin Q (xs.zip ys) i s
  | _, _, _, _, i, .nil, .nil, hf, h => by
    rw [hf]
    exact h
  | _, _, _, _, i, .nil, .cons q u hy, hf, h => by
    rw [hf]
    exact h
  | _, _, _, _, i, .cons p t hx, .nil, hf, h => by
    rw [hf]
    exact h
  | _, _, _, _, i, @PyProof.Rows.IntsAre.cons p t xs ns hx, @PyProof.Rows.IntsAre.cons q u ys ms hy, hf, h => by
    show PySem.W.KatLex prog w A b fin Q ((Value.int p t, Value.int q u) :: xs.zip ys) i s
    refine PySem.W.kat_cons (wpAny_eqBool_int ?_)
    have h : Q (if p = q then HT.lexLt ns ms else decide (p < q)) s := h
    by_cases e : p = q
    · subst e
      rw [if_pos rfl] at h
      rw [beq_self_eq_true]
      refine PySem.W.kat_yes (lexI (i + 1) hx hy ?_ h)
      rw [hf]
      simp only [List.length_cons, Nat.add_lt_add_iff_right]
    · rw [if_neg e] at h
      rw [show (p == q) = false from beq_eq_false_iff_ne.mpr e]
      exact PySem.W.kat_no (TS.oneLt_ints _ h)
def RowsIn (h : Heap) (vs : List Value) : Prop := ∀ v ∈ vs, ∃ ns, TS.TupInts h v ns ∧ ns ≠ []
theorem rows_firsts {h : Heap} : ∀ vs : List Value, RowsIn h vs → ∃ fs, PySem.W.KatTups h vs fs ∧ fs.length = vs.length ∧ ∀ f ∈ fs, ∃ n t, f = Value.int n t
  | [], _ => ⟨[], PySem.W.KatTups.nil, rfl, fun f hf => by cases hf⟩
  | v :: vs, x => by
    obtain ⟨fs, k, hl, hi⟩ := rows_firsts vs fun u hu => x u (List.mem_cons_of_mem _ hu)
    obtain ⟨ns, ⟨a, xs, ev, ⟨o, ho, hc, n, hdt⟩, ii⟩, hne⟩ := x v List.mem_cons_self
    subst ev
    cases q : xs.toList with
    | nil =>
      rw [q] at ii
      cases ii
      exact absurd rfl hne
    | cons y ys =>
      have hy : ∃ m t, y = Value.int m t := by
        rw [q] at ii
        cases ii
        exact ⟨_, _, rfl⟩
      obtain ⟨m, t, hy⟩ := hy
      refine ⟨y :: fs, PySem.W.KatTups.cons ho hc hdt ?_ k, by rw [List.length_cons, List.length_cons, hl], fun f hf => ?_⟩
      · have z := congrArg (fun l : List Value => l[0]?) q
        simpa using z
      · rcases List.mem_cons.mp hf with e | e
        · exact ⟨m, t, e.trans hy⟩
        · exact hi f e
theorem rows_sortable {h0 : Heap} {a : Addr} {vs : List Value} (x : RowsIn s.heap vs) (h2 : 2 ≤ vs.length) (ha : ∀ o, s.heap.get? a = some o → o.cls ≠ .type "tuple") (hf : ∀ v ∈ vs, ∀ ns, TS.TupInts s.heap v ns → TS.intsOf h0 v = ns) :
    SrtO.SortableO prog w A s a vs fun v u => ltR (TS.intsOf h0 v) (TS.intsOf h0 u) := by
  intro h' keep
  have kp : ∀ {v : Value} {ns : List Int}, TS.TupInts s.heap v ns → TS.TupInts h' v ns := fun q => q.keeps fun b o e c => keep b o (fun z => by subst z; exact ha o e c) e
  have x' : RowsIn h' vs := fun v hv => by
    obtain ⟨ns, h1, h2⟩ := x v hv
    exact ⟨ns, kp h1, h2⟩
  obtain ⟨fs, k1, k2, k3⟩ := rows_firsts vs x'
  refine ⟨PyProof.Rows.tuples' true, fun Q E hq => ?_, fun p q hp hq => ?_⟩
  · refine PySem.W.kat_kind (T := .type "int") k1 (by omega) (fun f hm => ?_) (by rfl) ?_
    · obtain ⟨m, t, e⟩ := k3 f hm
      subst e
      exact PySem.W.Looks.now
    · have e : (Value.type "int" != Value.type "tuple") = true := by first | decide +kernel | rfl | decide
      rw [e]
      exact hq
  · obtain ⟨ns, t1, _⟩ := x p.1 hp
    obtain ⟨ms, t2, _⟩ := x q.1 hq
    have e1 := hf _ hp _ t1
    have e2 := hf _ hq _ t2
    show wpAny (model prog w) A (PyProof.Rows.keyLt' (PyProof.Rows.tuples' true) p.1 q.1) (fun r s' => s' = { s with heap := h' } ∧ r = ltR (TS.intsOf h0 p.1) (TS.intsOf h0 q.1)) (fun _ _ => False) _
    rw [e1, e2]
    obtain ⟨a1, xs, f1, ⟨o1, ho1, hc1, n1, hd1⟩, i1⟩ := kp t1
    obtain ⟨a2, ys, f2, ⟨o2, ho2, hc2, n2, hd2⟩, i2⟩ := kp t2
    rw [f1, f2]
    refine PySem.W.kat_lt ho1 hd1 ho2 hd2 (lexI 0 i1 i2 ?_ ⟨rfl, rfl⟩)
    have l1 := i1.length
    have l2 := i2.length
    rw [Array.length_toList] at l1 l2
    rw [l1, l2]
end
def RowV (K : PySem.W.Frag) (H : Hp) (x : V) (ns : List Int) : Prop := ns ≠ [] ∧ ∃ t, x = .ref t ∧ SqT K H t (ns.map V.int)
def rSortR (K : PySem.W.Frag) : List V → Hp → VK → Prop := fun vs H Q => ∃ (a : Addr) (xs : List V) (rows : List (List Int)) (Pr : V → List Int → Prop), vs = [V.ref a] ∧ SqL K H a xs ∧ (∀ x ns, Pr x ns → RowV K H x ns) ∧ Paired Pr xs rows ∧
  ∀ ys p, Paired Pr ys (sortL ltR rows) → H p = none → Q (.ref p) (upd H p (.lst ys))
theorem paired_mem {α β : Type} {Pr : α → β → Prop} : ∀ {xs : List α} {ys : List β} {i : Nat} {x : α}, Paired Pr xs ys → xs[i]? = some x → ∃ y, ys[i]? = some y ∧ Pr x y
  | _, _, i, _, .nil, e => by simp at e
  | _, _, 0, _, .cons r _, e => by simp at e; subst e; exact ⟨_, rfl, r⟩
  | _, _, i + 1, x, .cons _ t, e => by
    obtain ⟨v, h1, h2⟩ := paired_mem (i := i) (x := x) t (by simpa using e)
    exact ⟨v, by simpa using h1, h2⟩
theorem paired_of_map {α β γ : Type} {Pr : β → γ → Prop} {f : α → β} {g : α → γ} : ∀ {l : List α}, (∀ u ∈ l, Pr (f u) (g u)) → Paired Pr (l.map f) (l.map g)
  | [], _ => .nil
  | u :: l, h => .cons (h u List.mem_cons_self) (paired_of_map fun v hv => h v (List.mem_cons_of_mem _ hv))
theorem cr_sortR {X : Cx} : CallR X (.builtin "sorted") (rSortR X.K) := by
  intro pins s g H vs us Q I r h
  obtain ⟨a, xs, rows, Pr, rfl, hs, hP, pr, q⟩ := h
  obtain ⟨its, rv, hl, hz⟩ := I.list hs
  rw [Vals.ref1 r]
  have rowOf : ∀ (i : Nat) (u : Value), its[i]? = some u → ∃ t ns, u = .ref t ∧ rows[i]? = some ns ∧ Pr (.ref t) ns ∧ TS.TupInts s.heap u ns ∧ ns ≠ [] := fun i u hu => by
    have hi : i < xs.length := by
      rw [rv.length]
      exact (List.getElem?_eq_some_iff.mp hu).1
    obtain ⟨ns, h1, h2⟩ := paired_mem pr (List.getElem?_eq_getElem hi)
    obtain ⟨u', h3, h4⟩ := rv.get (List.getElem?_eq_getElem hi)
    rw [hu] at h3
    cases h3
    obtain ⟨hne, t, et, hT⟩ := hP _ _ h2
    rw [et] at h4 h2
    cases h4
    exact ⟨t, ns, rfl, h1, h2, tupI_raw I hT, hne⟩
  have mem : ∀ u ∈ its, ∃ t ns, u = .ref t ∧ Pr (.ref t) ns ∧ TS.TupInts s.heap u ns ∧ ns ≠ [] := fun u hu => by
    obtain ⟨i, hi, e⟩ := List.mem_iff_getElem.mp hu
    obtain ⟨t, ns, h1, _, h2, h3, h4⟩ := rowOf i u (by rw [List.getElem?_eq_getElem hi, e])
    exact ⟨t, ns, h1, h2, h3, h4⟩
  have erow : its.map (TS.intsOf s.heap) = rows := by
    refine List.ext_getElem? fun i => ?_
    rw [List.getElem?_map]
    cases e : its[i]? with
    | none =>
      have h1 : its.length ≤ i := List.getElem?_eq_none_iff.mp e
      rw [List.getElem?_eq_none (by rw [← Paired.length pr, rv.length]; exact h1)]
      rfl
    | some u =>
      obtain ⟨t, ns, _, h1, _, h3, _⟩ := rowOf i u e
      rw [h1, ← h3.ints]
      rfl
  have rin : RowsIn s.heap its := fun u hu => by
    obtain ⟨t, ns, _, _, h3, h4⟩ := mem u hu
    exact ⟨ns, h3, h4⟩
  refine SrtO.sorted_ord (ltv := fun v u => ltR (TS.intsOf s.heap v) (TS.intsOf s.heap u)) ⟨fun x y => ltR_swo.asym _ _, fun x y z => ltR_swo.tr _ _ _⟩ hl.isList (by rw [← rv.length]; exact hz) (fun h2 h1 b hb kk => ?_) fun out h1 h2 => ?_
  · refine rows_sortable (s := { s with heap := h1 }) (h0 := s.heap) (fun v hv => ?_) h2 (fun o e => ?_) fun v hv ns t => ?_
    · obtain ⟨ns, t, hne⟩ := rin v hv
      exact ⟨ns, t.keeps fun b o e _ => (kk b o e).2, hne⟩
    · have e' : some o = some (PyProof.Rows.seqObj "list" its.toArray 0) := e.symm.trans hb
      cases e'
      intro c
      exact absurd (Value.type.inj c) (by decide)
    · obtain ⟨ms, t', _⟩ := rin v hv
      have t2 := t'.keeps (h' := h1) fun b o e _ => (kk b o e).2
      rw [t'.ints, ← t2.ints]
      exact t.ints
  · obtain ⟨n, hn⟩ := PyProof.Rows.sortedAll_at s.heap its out.toArray
    have mo : ∀ u ∈ out, ∃ t ns, u = .ref t ∧ Pr (.ref t) ns ∧ TS.TupInts s.heap u ns ∧ ns ≠ [] := fun u hu => mem u (h2.perm.mem_iff.mp hu)
    have eo : out.map (TS.intsOf s.heap) = sortL ltR rows := by
      rw [← erow]
      exact sortL_uniq ltR_swo (SrtO.srtd_map h1) (SrtO.Stb.map ltR_swo _ h2)
    have hp : Paired Pr (out.map backV) (sortL ltR rows) := by
      rw [← eo]
      exact paired_of_map fun u hu => by
        obtain ⟨t, ns, e, h3, h4, _⟩ := mo u hu
        rw [h4.ints, e]
        exact h3
    refine ⟨.ref _, upd H (s.heap.objs.size + 1) (.lst (out.map backV)), I.laid (t' := s.toks) (fun _ _ => PyProof.Rows.sortedAll_old) (Nat.le_succ _) ⟨?_, out, n, vals_back fun u hu => ?_, hn⟩, rfl, q _ _ hp (I.hok.fresh (Nat.le_succ _))⟩
    · rw [List.length_map, h2.len, ← rv.length]
      exact hz
    · obtain ⟨t, ns, e, _⟩ := mo u hu
      exact ⟨t, e⟩
def rowD (ns : List Int) : D := .tup (ns.map D.int)
def rowsOf : List D → Option (List (List Int))
  | [] => some []
  | .tup xs :: ds => (intsOf xs).bind fun ns => if ns = [] then none else (rowsOf ds).map (ns :: ·)
  | _ :: _ => none
theorem rowsOf_some : ∀ {ds : List D} {rows : List (List Int)}, rowsOf ds = some rows → ds = rows.map rowD ∧ ∀ ns ∈ rows, ns ≠ []
  | [], _, e => by cases e; exact ⟨rfl, fun _ h => by cases h⟩
  | d :: ds, rows, e => by
    cases d <;> try cases e
    rename_i xs
    simp only [rowsOf] at e
    cases q : intsOf xs with
    | none => rw [q] at e; cases e
    | some ns =>
      rw [q] at e
      have e : (if ns = [] then none else (rowsOf ds).map (ns :: ·)) = some rows := e
      split at e
      · cases e
      · rename_i hne
        cases q2 : rowsOf ds with
        | none => rw [q2] at e; cases e
        | some rs =>
          rw [q2] at e
          cases e
          obtain ⟨h1, h2⟩ := rowsOf_some q2
          refine ⟨by rw [h1, intsOf_some q]; rfl, fun m hm => (List.mem_cons.mp hm).elim (fun e => by rw [e]; exact hne) (h2 m)⟩
theorem rowsOf_map : ∀ {rows : List (List Int)}, (∀ ns ∈ rows, ns ≠ []) → rowsOf (rows.map rowD) = some rows
  | [], _ => rfl
  | ns :: rows, h => by
    show (intsOf (ns.map D.int)).bind (fun ns => if ns = [] then none else (rowsOf (rows.map rowD)).map (ns :: ·)) = _
    rw [intsOf_map, rowsOf_map fun m hm => h m (List.mem_cons_of_mem _ hm)]
    show (if ns = [] then none else some (ns :: rows)) = _
    rw [if_neg (h ns List.mem_cons_self)]
def sortD (ds : List D) (_ : Store) : Option D := match ds with
  | [.lst xs] => match intsOf xs with
    | some ns => some (.lst ((sortL ltI ns).map D.int))
    | none => (rowsOf xs).map fun rows => .lst ((sortL ltR rows).map rowD)
  | _ => none
section
variable {X : Cx} {K : PySem.W.Frag} {mg : Str → Option Value}
def rSortA (K : PySem.W.Frag) : List V → Hp → VK → Prop := fun vs H Q => rSortedI K vs H Q ∨ rSortR K vs H Q
theorem cr_sortA : CallR X (.builtin "sorted") (rSortA X.K) := cr_sortedI.or cr_sortR
theorem sortI_uniq {ns ms : List Int} (h1 : ms.Perm ns) (h2 : ms.Pairwise (· ≤ ·)) : ms = sortL ltI ns := by
  refine sortL_uniq ltI_swo (h2.imp fun {x y} h => decide_eq_false (by omega)) ⟨h1, fun z => ?_⟩
  have e : SrtO.eqv ltI z = fun y => decide (y = z) := funext fun y => by
    unfold SrtO.eqv ltI
    by_cases q : y = z
    · subst q
      simp
    · rw [decide_eq_false q]
      by_cases q2 : z < y
      · simp [q2]
      · have q3 : y < z := by omega
        simp [q3]
  rw [e]
  have h3 := h1.filter (fun y => decide (y = z))
  have h4 : ∀ l : List Int, l.filter (fun y => decide (y = z)) = List.replicate (l.filter (fun y => decide (y = z))).length z := fun l => List.eq_replicate_iff.mpr ⟨rfl, fun y hy => of_decide_eq_true (List.mem_filter.mp hy).2⟩
  rw [h4 ms, h4 ns, h3.length_eq]
theorem RepL.pr {T : Tb} {H : Hp} : ∀ {vs : List V} {rows : List (List Int)}, RepL K T H vs (rows.map rowD) → (∀ ns ∈ rows, ns ≠ []) → Paired (fun x ns => ns ≠ [] ∧ Rep K T H x (rowD ns)) vs rows
  | _, [], .nil, _ => .nil
  | _, ns :: rows, .cons h r, hn => .cons ⟨hn ns List.mem_cons_self, h⟩ (RepL.pr r fun m hm => hn m (List.mem_cons_of_mem _ hm))
theorem RepL.of_pr {T : Tb} {H : Hp} : ∀ {vs : List V} {rows : List (List Int)}, Paired (fun x ns => ns ≠ [] ∧ Rep K T H x (rowD ns)) vs rows → RepL K T H vs (rows.map rowD)
  | _, _, .nil => .nil
  | _, _, .cons h r => .cons h.2 (RepL.of_pr r)
theorem pok_sort : POk K mg (rSortA K) sortD := fun T S H vs ds d Q sim rep e k => by
  unfold sortD at e
  split at e
  · rename_i xs
    obtain ⟨v, rfl, r⟩ := rep.one
    cases r with
    | @lst a ys _ h n r =>
      split at e
      · rename_i ns q
        cases e
        have e3 := intsOf_some q
        subst e3
        rw [r.of_ints] at h
        refine .inl ⟨a, ns, rfl, SqL.of h, fun ms p h1 h2 hp => ?_⟩
        have e4 := sortI_uniq h1 h2
        subst e4
        have st := sim.stepNew (o := .lst ((sortL ltI ns).map V.int)) hp
        refine k _ _ st (sim.new hp (hlen_lst sim.hl ?_)) (.lst upd_same (sim.off hp) (RepL.ints _))
        have := sim.hl _ _ (.inl (.inl h))
        rw [List.length_map] at this ⊢
        rw [sortL_len]
        exact this
      · rename_i q
        cases q2 : rowsOf xs with
        | none => rw [q2] at e; cases e
        | some rows =>
          rw [q2] at e
          cases e
          obtain ⟨e3, hne⟩ := rowsOf_some q2
          subst e3
          refine .inr ⟨a, ys, rows, fun x ns => ns ≠ [] ∧ Rep K T H x (rowD ns), rfl, SqL.of h, fun x ns hx => ⟨hx.1, ?_⟩, r.pr hne, fun zs p hz hp => ?_⟩
          · obtain ⟨_, hx⟩ := hx
            cases hx with
            | tup h1 h2 h3 =>
              rw [h3.of_ints] at h1
              exact ⟨_, rfl, SqT.of h1⟩
          · have rz := RepL.of_pr hz
            have st := sim.stepNew (o := .lst zs) hp
            refine k _ _ st (sim.new hp (hlen_lst sim.hl ?_)) (.lst upd_same (sim.off hp) (rz.step st))
            have h1 := sim.hl _ _ (.inl (.inl h))
            have h2 := rz.length
            rw [List.length_map, sortL_len] at h2
            have h3 := r.length
            rw [List.length_map] at h3
            omega
  · cases e
end
theorem room65 {k : Nat} {A : Around} (r : Room k A) : A.units + 65 < cLine := by
  have := r.un
  omega
end Dv
namespace Dv
open PySem L2
theorem hlen_of {P : Program} {w : World} {H : Hp} {h : Heap} (x : HOk P w H h) : HLen H := fun a xs q => by
  rcases q with q | q
  · obtain ⟨z, _⟩ := q.ok x
    exact z
  · obtain ⟨z, _⟩ := q.ok x
    exact z
def spLaw (K : PySem.W.Frag) : Sp := fun vs H Q _ => ∃ (a : Addr) (ns : List Int), vs = [.ref a] ∧ SqL K H a (ns.map V.int) ∧ ns.length ≤ 63 ∧ ∀ H', Q (.bl true) H'
theorem law_fn {P : Program} {w : World} {K : PySem.W.Frag} {mg : Str → Option Value} {base : Heap} {CX : CXT} {k : Nat} {f : Addr} {fd : FuncData} {F : Nat → List D → Store → R D} (h : ∀ fu, FnOk P w K mg base CX k f fd ["script"] (spD K mg 1 (F fu)))
    (ht : ∀ ns : List Int, ns.length ≤ 63 → ∃ fu S, F fu [.scr ns] [] = .ok (.bl true) S) : FnOk P w K mg base CX k f fd ["script"] (spLaw K) := by
  refine ⟨fun vs H Q E q => ?_, fun A outer s H args us vs Q E hr he hb hv hs => ?_⟩
  · obtain ⟨a, ns, rfl, _⟩ := q
    rfl
  · obtain ⟨a, ns, rfl, hq, hl, q⟩ := hs
    obtain ⟨fu, S', e⟩ := ht ns hl
    refine (h fu).run A outer s H args us _ Q E hr he hb hv ⟨rfl, ⟨[], []⟩, [], [.scr ns], .cons (.scr ?_) .nil, ⟨rfl, List.nodup_nil, fun i a o h1 => ?_, fun a h1 => ?_, hlen_of he.hok⟩, ?_⟩
    · rcases hq with hq | hq
      · exact .inl ⟨hq, (by intro z; cases z), (by intro z; cases z)⟩
      · exact .inr (.inr hq)
    · cases h1
    · cases h1
    · rw [e]
      intro T' H' v _ _ r
      rw [r.bl_of]
      exact q H'
theorem sp_start {K : PySem.W.Frag} {H : Hp} {a : Addr} {ns : List Int} (hl : ns.length ≤ 63) (hS : SqL K H a (ns.map V.int)) : spLaw K [.ref a] H (fun v _ => v = .bl true) fun _ _ _ => False := ⟨a, ns, rfl, hS, hl, fun _ => rfl⟩
theorem no_exc {P : Program} {w : World} {l : List PySem.Env} {H : Hp} {s : Shared} {e : Value} {s' : Shared} (h : L2.CX P w l H s (fun _ _ _ => False) e s') : False := by
  obtain ⟨_, _, _, _, _, _, _, _, _, _, _, _, z⟩ := h
  exact z
end Dv
namespace Dv
open PySem L2
section
variable {r : Env} {S : Store} {ma mb mc m mo mi : EM} {ms : AM} {ta tb : BM} {sa sb : SM}
@[simp] theorem rb_ok {α β : Type} (a : α) (S : Store) (f : α → Store → R β) : (R.ok a S).bind f = f a S := rfl
@[simp] theorem rb_exc {α β : Type} (n : Str) (S : Store) (f : α → Store → R β) : (R.exc n S : R α).bind f = .exc n S := rfl
@[simp] theorem rb_bad {α β : Type} (f : α → Store → R β) : (R.bad : R α).bind f = .bad := rfl
@[simp] theorem ofO_some {α : Type} (a : α) : ofO (some a) S = .ok a S := rfl
@[simp] theorem ofO_none {α : Type} : ofO (none : Option α) S = .bad := rfl
@[simp] theorem mVar_ap (i : Nat) : mVar i r S = (match r[i]? with | some (some d) => .ok d S | _ => .bad) := rfl
@[simp] theorem mC_ap (d : D) : mC d r S = .ok d S := rfl
@[simp] theorem mNil_ap : mNil r S = .ok [] S := rfl
@[simp] theorem mCons_ap : mCons m ms r S = (m r S).bind fun d S1 => (ms r S1).bind fun ds S2 => .ok (d :: ds) S2 := rfl
@[simp] theorem mTup_ap : mTup ms r S = (ms r S).bind fun ds S1 => if ds.length ≤ 100000 then .ok (.tup ds) S1 else .bad := rfl
@[simp] theorem mLst_ap : mLst ms r S = (ms r S).bind fun ds S1 => if ds.length ≤ 100000 then .ok (.lst ds) S1 else .bad := rfl
@[simp] theorem mNewL_ap : mNewL ms r S = (ms r S).bind fun ds S1 => if ds.length ≤ 100000 then .ok (.loc S1.length) (S1 ++ [.lst ds]) else .bad := rfl
@[simp] theorem mBin_ap (f : D → D → Store → Option D) : mBin f ma mb r S = (ma r S).bind fun a S1 => (mb r S1).bind fun b S2 => ofO (f a b S2) S2 := rfl
@[simp] theorem mUn_ap (f : D → Store → Option D) : mUn f ma r S = (ma r S).bind fun a S1 => ofO (f a S1) S1 := rfl
@[simp] theorem mCall_ap (f : List D → Store → Option D) : mCall f ms r S = (ms r S).bind fun ds S1 => ofO (f ds S1) S1 := rfl
@[simp] theorem mT_ap : mT m r S = (m r S).bind fun d S1 => ofO (asB d) S1 := rfl
@[simp] theorem asB_bl (b : Bool) : asB (.bl b) = some b := rfl
@[simp] theorem mTru_ap : mTru m r S = (m r S).bind fun d S1 => ofO (truD d S1) S1 := rfl
@[simp] theorem mNotT_ap : mNotT ta r S = (ta r S).bind fun b S1 => .ok (!b) S1 := rfl
@[simp] theorem mAndT_ap : mAndT ta tb r S = (ta r S).bind fun b S1 => if b = true then tb r S1 else .ok false S1 := rfl
@[simp] theorem mOrT_ap : mOrT ta tb r S = (ta r S).bind fun b S1 => if b = true then .ok true S1 else tb r S1 := rfl
@[simp] theorem mAnd_ap : mAnd ma mb r S = (ma r S).bind fun d S1 => match d with
  | .bl true => mb r S1
  | .bl false => .ok (.bl false) S1
  | _ => .bad := rfl
@[simp] theorem mOr_ap : mOr ma mb r S = (ma r S).bind fun d S1 => match d with
  | .bl true => .ok (.bl true) S1
  | .bl false => mb r S1
  | _ => .bad := rfl
@[simp] theorem mNot_ap : mNot ma r S = (ma r S).bind fun d S1 => match d with
  | .bl b => .ok (.bl (!b)) S1
  | _ => .bad := rfl
@[simp] theorem mIf_ap : mIf ta ma mb r S = (ta r S).bind fun b S1 => if b = true then ma r S1 else mb r S1 := rfl
@[simp] theorem mChain_ap (f f' : D → D → Store → Option D) : mChain f f' ma mb mc r S = (ma r S).bind fun a S1 => (mb r S1).bind fun b S2 => (ofO (f a b S2) S2).bind fun d S3 => match d with
  | .bl true => (mc r S3).bind fun c S4 => ofO (f' b c S4) S4
  | .bl false => .ok (.bl false) S3
  | _ => .bad := rfl
@[simp] theorem bs_ok {α : Type} (a : α) (f : α → Store → Z) : bindS (.ok a S) r f = f a S := rfl
@[simp] theorem bs_exc {α : Type} (n : Str) (f : α → Store → Z) : bindS (.exc n S : R α) r f = .exc n r S := rfl
@[simp] theorem bs_bad {α : Type} (f : α → Store → Z) : bindS (.bad : R α) r f = .bad := rfl
@[simp] theorem sNil_ap : sNil r S = .ok .next r S := rfl
@[simp] theorem sSeq_ap : sSeq sa sb r S = (match sa r S with | .ok .next r1 S1 => sb r1 S1 | z => z) := rfl
@[simp] theorem sSet_ap (i : Nat) : sSet i m r S = bindS (m r S) r fun d S1 => .ok .next (r.set i (some d)) S1 := rfl
@[simp] theorem sDrop_ap : sDrop m r S = bindS (m r S) r fun _ S1 => .ok .next r S1 := rfl
@[simp] theorem sRet_ap : sRet m r S = bindS (m r S) r fun d S1 => .ok (.ret d) r S1 := rfl
@[simp] theorem sRetN_ap : sRetN r S = .ok (.ret .non) r S := rfl
@[simp] theorem sIf_ap : sIf ta sa sb r S = bindS (ta r S) r fun k S1 => if k = true then sa r S1 else sb r S1 := rfl
@[simp] theorem sBrk_ap : sBrk r S = .ok .brk r S := rfl
@[simp] theorem sCont_ap : sCont r S = .ok .cont r S := rfl
@[simp] theorem sNever_ap : sNever r S = .bad := rfl
@[simp] theorem sForget_ap (i : Nat) : sForget i sa r S = sa (r.set i none) S := rfl
@[simp] theorem sAug_ap (i : Nat) (f : Int → Int → Int) : sAug i f m r S = (match r[i]? with
  | some (some (.int a)) => bindS (m r S) r fun d S1 => match d with
    | .int b => .ok .next (r.set i (some (.int (f a b)))) S1
    | _ => .bad
  | _ => .bad) := rfl
@[simp] theorem sPar_ap (i j : Nat) : sPar i j ms r S = bindS (ms r S) r fun ds S1 => match ds with
  | [a, b] => .ok .next ((r.set i (some a)).set j (some b)) S1
  | _ => .bad := rfl
@[simp] theorem tgN_ap (i : Nat) (d : D) : tgN i d r = some (r.set i (some d)) := rfl
@[simp] theorem tgsNil_ap : tgsNil [] r = some r := rfl
@[simp] theorem tgsCons_ap (a : D → Env → Option Env) (b : List D → Env → Option Env) (d : D) (ds : List D) : tgsCons a b (d :: ds) r = (a d r).bind fun r1 => b ds r1 := rfl
@[simp] theorem tgT_ap (n : Nat) (b : List D → Env → Option Env) (ds : List D) : tgT n b (.tup ds) r = if ds.length = n then b ds r else none := rfl
@[simp] theorem sAsg_ap (gm : D → Env → Option Env) : sAsg m gm r S = bindS (m r S) r fun d S1 => match gm d r with
  | some r1 => .ok .next r1 S1
  | none => .bad := rfl
@[simp] theorem sFor_ap (im : IM) (gm : D → Env → Option Env) : sFor im gm sb r S = bindS (im r S) r fun ds S1 => sLoop gm sb ds r S1 := rfl
@[simp] theorem mIter_ap : mIter m r S = (m r S).bind fun d S1 => ofO (seqD d) S1 := rfl
@[simp] theorem mRng1_ap : mRng1 ms r S = (ms r S).bind fun ds S1 => ofO (rng1 ds) S1 := rfl
@[simp] theorem mRng2_ap : mRng2 ms r S = (ms r S).bind fun ds S1 => ofO (rng2 ds) S1 := rfl
@[simp] theorem mZip_ap : mZip ms r S = (ms r S).bind fun ds S1 => ofO (zipD ds) S1 := rfl
@[simp] theorem mLc_ap (im : IM) (vs : List Nat) (gm : D → Env → Option Env) (te : EM) : mLc im vs gm ta te r S = (im r S).bind fun ds S1 => (lcL gm ta te (wipeE r vs) ds S1).bind fun ys S2 => .ok (.lst ys) S2 := rfl
@[simp] theorem mYes_ap : mYes r S = .ok true S := rfl
@[simp] theorem nox_ok {α : Type} (a : α) : nox (.ok a S) = .ok a S := rfl
@[simp] theorem mApp_ap (n : Nat) (F : List D → Store → R D) : mApp n F ms r S = (ms r S).bind fun ds S1 => if ds.length = n then F ds S1 else .bad := rfl
@[simp] theorem mNoP_ap : mNoP r S = .ok none S := rfl
@[simp] theorem mP_ap : mP m r S = (m r S).bind fun d S1 => match d with
  | .int i => .ok (some i) S1
  | _ => .bad := rfl
@[simp] theorem mSl_ap (ml mh : OM) : mSl m ml mh r S = (m r S).bind fun d S1 => (ml r S1).bind fun lo S2 => (mh r S2).bind fun hi S3 => ofO (slD d lo hi S3) S3 := rfl
@[simp] theorem mAppend_ap : mAppend mo m r S = (mo r S).bind fun o S1 => if isLoc o S1 = true then (m r S1).bind fun d S2 => appD o d S2 else .bad := rfl
@[simp] theorem isLoc_ap (n : Nat) : isLoc (.loc n) S = (match S[n]? with | some (.lst _) => true | _ => false) := rfl
@[simp] theorem appD_ap (n : Nat) (d : D) : appD (.loc n) d S = (match S[n]? with
    | some (.lst xs) => if xs.length < 100000 then .ok .non (S.set n (.lst (xs ++ [d]))) else .bad
    | _ => .bad) := rfl
@[simp] theorem mPop_ap : mPop mo r S = (mo r S).bind fun o S1 => popD o S1 := rfl
@[simp] theorem popD_ap (n : Nat) : popD (.loc n) S = (match S[n]? with
    | some (.lst xs) => match xs[xs.length - 1]? with
      | some d => .ok d (S.set n (.lst xs.dropLast))
      | none => .bad
    | _ => .bad) := rfl
@[simp] theorem sSetIx_ap : sSetIx mo mi m r S = bindS (m r S) r fun d S1 => bindS (mo r S1) r fun o S2 => bindS (mi r S2) r fun i S3 => putD o i d r S3 := rfl
@[simp] theorem putD_ap (n : Nat) (k : Int) (d : D) : putD (.loc n) (.int k) d r S = (match S[n]? with
    | some (.lst xs) => match ixN xs.length k with
      | some j => .ok .next r (S.set n (.lst (xs.set j d)))
      | none => .bad
    | _ => .bad) := rfl
@[simp] theorem sAugIx_ap (f : Int → Int → Int) : sAugIx f mo mi m r S = bindS (mo r S) r fun o S1 => bindS (mi r S1) r fun i S2 => bindS (ofO (getL o i S2) S2) r fun x S3 => bindS (m r S3) r fun y S4 => bindS (ofO (ipD f x y) S4) r fun z S5 => putD o i z r S5 := rfl
@[simp] theorem getL_ap (n : Nat) (k : Int) : getL (.loc n) (.int k) S = (match S[n]? with
    | some (.lst xs) => if 0 ≤ k then xs[k.toNat]? else none
    | _ => none) := rfl
@[simp] theorem ipD_ap (f : Int → Int → Int) (a b : Int) : ipD f (.int a) (.int b) = some (.int (f a b)) := rfl
@[simp] theorem mFld_ap (c f : Str) : mFld c f m r S = (m r S).bind fun a S1 => ofO (fldD c f a S1) S1 := rfl
@[simp] theorem fldD_ap (c f : Str) (n : Nat) : fldD c f (.loc n) S = (match S[n]? with
    | some (.ins c' fs) => if c' = c then fs.lookup f else none
    | _ => none) := rfl
@[simp] theorem sFldD_ap (c f : Str) : sFldD c f mo m r S = bindS (m r S) r fun v S1 => bindS (mo r S1) r fun o S2 => setFD c f o v r S2 := rfl
@[simp] theorem setFD_ap (c f : Str) (n : Nat) (v : D) : setFD c f (.loc n) v r S = (match S[n]? with
    | some (.ins c' fs) => if c' = c ∧ fs.length < 900 then .ok .next r (S.set n (.ins c' (putFD f v fs))) else .bad
    | _ => .bad) := rfl
@[simp] theorem sFldAugD_ap (c f : Str) (h : Int → Int → Int) : sFldAugD c f h mo m r S = bindS (mo r S) r fun o S1 => bindS (ofO (fldD c f o S1) S1) r fun x S2 => bindS (m r S2) r fun y S3 => bindS (ofO (ipD h x y) S3) r fun z S4 => setFD c f o z r S4 := rfl
@[simp] theorem isIns_ap (c mth : Str) (n : Nat) : isIns c mth (.loc n) S = (match S[n]? with
    | some (.ins c' fs) => decide (c' = c) && (fs.lookup mth).isNone
    | _ => false) := rfl
@[simp] theorem mMeth_ap (c mth : Str) (n : Nat) (F : List D → Store → R D) : mMeth c mth n F mo ms r S = (mo r S).bind fun o S1 => if isIns c mth o S1 = true then (ms r S1).bind fun ds S2 => if (o :: ds).length = n then F (o :: ds) S2 else .bad else .bad := rfl
@[simp] theorem mMake_ap (c : Str) (n : Nat) (F : List D → Store → R D) : mMake c n F ms r S = (ms r S).bind fun ds S1 => if (ds.length + 1) = n then (nox (F (.loc S1.length :: ds) (S1 ++ [.ins c []]))).bind fun d S2 => match d with
  | .non => .ok (.loc S1.length) S2
  | _ => .bad else .bad := rfl
@[simp] theorem sLoop_nil (gm : D → Env → Option Env) : sLoop gm sb [] r S = .ok .next r S := rfl
@[simp] theorem subD_int (i j : Int) : subD (.int i) (.int j) S = some (.int (i - j)) := rfl
@[simp] theorem addD_int (i j : Int) : addD (.int i) (.int j) S = some (.int (i + j)) := rfl
@[simp] theorem addD_lst (xs ys : List D) : addD (.lst xs) (.lst ys) S = if xs.length + ys.length ≤ 100000 then some (.lst (xs ++ ys)) else none := rfl
@[simp] theorem addD_tup (xs ys : List D) : addD (.tup xs) (.tup ys) S = if xs.length + ys.length ≤ 100000 then some (.tup (xs ++ ys)) else none := rfl
@[simp] theorem fdivD_int (i j : Int) : fdivD (.int i) (.int j) S = if 0 < j ∧ j < 1073741824 then some (.int (i / j)) else none := rfl
@[simp] theorem modD_int (i j : Int) : modD (.int i) (.int j) S = if 0 < j then some (.int (i % j)) else none := rfl
@[simp] theorem negD_int (i : Int) : negD (.int i) S = some (.int (-i)) := rfl
@[simp] theorem mulD_int (i j : Int) : mulD (.int i) (.int j) S = if (-(2 ^ 64) < i ∧ i < 2 ^ 64) ∨ (-(2 ^ 64) < j ∧ j < 2 ^ 64) then some (.int (i * j)) else none := rfl
@[simp] theorem mulD_lst (xs : List D) (k : Int) : mulD (.lst xs) (.int k) S = if -100000 ≤ k ∧ k ≤ 100000 ∧ xs.length * k.toNat ≤ 100000 then some (.lst (List.replicate k.toNat xs).flatten) else none := rfl
@[simp] theorem ltD_int (i j : Int) : ltD (.int i) (.int j) S = some (.bl (decide (i < j))) := rfl
@[simp] theorem leD_int (i j : Int) : leD (.int i) (.int j) S = some (.bl (decide (i ≤ j))) := rfl
@[simp] theorem gtD_int (i j : Int) : gtD (.int i) (.int j) S = some (.bl (decide (j < i))) := rfl
@[simp] theorem geD_int (i j : Int) : geD (.int i) (.int j) S = some (.bl (decide (j ≤ i))) := rfl
@[simp] theorem eqD_int (i j : Int) : eqD (.int i) (.int j) S = some (.bl (decide (i = j))) := rfl
@[simp] theorem neD_int (i j : Int) : neD (.int i) (.int j) S = some (.bl (!decide (i = j))) := rfl
@[simp] theorem lenD_lst (xs : List D) : lenD [.lst xs] S = some (.int xs.length) := rfl
@[simp] theorem lenD_tup (xs : List D) : lenD [.tup xs] S = some (.int xs.length) := rfl
@[simp] theorem lenD_scr (xs : List Int) : lenD [.scr xs] S = some (.int xs.length) := rfl
@[simp] theorem lenD_loc (n : Nat) : lenD [.loc n] S = (match S[n]? with
    | some (.lst xs) => some (.int xs.length)
    | _ => none) := rfl
@[simp] theorem absD_int (i : Int) : absD [.int i] S = some (.int (if i < 0 then -i else i)) := rfl
@[simp] theorem intD_bl (b : Bool) : intD [.bl b] S = some (.int (if b = true then 1 else 0)) := rfl
@[simp] theorem tupD_lst (xs : List D) : tupD [.lst xs] S = some (.tup xs) := rfl
@[simp] theorem tupD_loc (n : Nat) : tupD [.loc n] S = (match S[n]? with
    | some (.lst xs) => some (.tup xs)
    | _ => none) := rfl
@[simp] theorem maxD_ints (ns : List Int) : maxD [.lst (ns.map D.int)] S = (maxI ns).map D.int := by
  show ((intsOf (ns.map D.int)).bind maxI).map D.int = _
  rw [intsOf_map]
  rfl
@[simp] theorem sumD_ints (ns : List Int) : sumD [.lst (ns.map D.int)] S = some (.int ns.sum) := by
  show (intsOf (ns.map D.int)).map _ = _
  rw [intsOf_map]
  rfl
@[simp] theorem allD_bls (bs : List Bool) : allD [.lst (bs.map D.bl)] S = some (.bl (bs.all id)) := by
  show (blsOf (bs.map D.bl)).map _ = _
  rw [blsOf_map]
  rfl
@[simp] theorem truD_bl (b : Bool) : truD (.bl b) S = some b := rfl
@[simp] theorem truD_int (i : Int) : truD (.int i) S = some (i != 0) := rfl
@[simp] theorem truD_tup (xs : List D) : truD (.tup xs) S = some (!xs.isEmpty) := rfl
@[simp] theorem truD_lst (xs : List D) : truD (.lst xs) S = some (!xs.isEmpty) := rfl
@[simp] theorem truD_scr (xs : List Int) : truD (.scr xs) S = some (!xs.isEmpty) := rfl
@[simp] theorem truD_loc (n : Nat) : truD (.loc n) S = (match S[n]? with
    | some (.lst xs) => some (!xs.isEmpty)
    | _ => none) := rfl
@[simp] theorem ixD_lst (xs : List D) (i : Int) : ixD (.lst xs) (.int i) S = atI xs i := rfl
@[simp] theorem ixD_tup (xs : List D) (i : Int) : ixD (.tup xs) (.int i) S = atI xs i := rfl
@[simp] theorem ixD_scr (xs : List Int) (i : Int) : ixD (.scr xs) (.int i) S = (atI xs i).map .int := rfl
@[simp] theorem ixD_loc (n : Nat) (i : Int) : ixD (.loc n) (.int i) S = (match S[n]? with
    | some (.lst xs) => atI xs i
    | _ => none) := rfl
@[simp] theorem seqD_lst (xs : List D) : seqD (.lst xs) = some xs := rfl
@[simp] theorem seqD_tup (xs : List D) : seqD (.tup xs) = some xs := rfl
@[simp] theorem seqD_scr (xs : List Int) : seqD (.scr xs) = some (xs.map D.int) := rfl
@[simp] theorem rng1_int (j : Int) : rng1 [.int j] = if -100000 ≤ j ∧ j ≤ 100000 then some (rng 0 j.toNat) else none := rfl
@[simp] theorem rng2_int (i j : Int) : rng2 [.int i, .int j] = if (-100000 ≤ i ∧ i ≤ 100000) ∧ (-100000 ≤ j ∧ j ≤ 100000) then some (rng i (j - i).toNat) else none := rfl
@[simp] theorem slD_lst (xs : List D) (lo hi : Option Int) : slD (.lst xs) lo hi S = some (.lst (cutL xs lo hi)) := rfl
@[simp] theorem slD_tup (xs : List D) (lo hi : Option Int) : slD (.tup xs) lo hi S = some (.tup (cutL xs lo hi)) := rfl
@[simp] theorem wipeE_nil : wipeE r [] = r := rfl
@[simp] theorem wipeE_cons (v : Nat) (vs : List Nat) : wipeE r (v :: vs) = (wipeE r vs).set v none := rfl
@[simp] theorem isND_non : isND .non .non S = some (.bl true) := rfl
end
theorem atI_zero {α : Type} (x : α) (xs : List α) : atI (x :: xs) 0 = some x := atI_nat (j := 0) rfl
theorem atI_neg1 {α : Type} (xs : List α) (x : α) : atI (xs ++ [x]) (-1) = some x := atI_last xs x
theorem ixN_nat {n j : Nat} (h : j < n) : ixN n (j : Int) = some j := by
  unfold ixN
  rw [if_pos (by omega), if_pos (by omega)]
  simp
theorem ixN_zero {n : Nat} (h : 0 < n) : ixN n 0 = some 0 := ixN_nat (j := 0) h
end Dv
namespace Dv
open PySem L2
def mDraw2 : SM :=
    (sSeq (sDrop (mAppend (mVar 1) (mC (.int 0))))
    (sSeq (sSet 3 (mCall lenD (mCons (mVar 1) mNil)))
    (sSeq (sSet 4 (mIf (mTru (mVar 0)) (mBin ixD (mVar 0) (mBin modD (mVar 3) (mCall lenD (mCons (mVar 0) mNil)))) (mC (.int 0))))
    (sSeq (sSet 5 (mBin modD (mBin ixD (mVar 1) (mC (.int 0))) (mC (.int 65536))))
    (sSeq (sSetIx (mVar 1) (mC (.int 0)) (mBin fdivD (mBin ixD (mVar 1) (mC (.int 0))) (mC (.int 65536))))
    (sSeq (sSet 6 (mBin modD (mBin addD (mBin addD (mVar 4) (mBin mulD (mC (.int 40503)) (mVar 5))) (mBin mulD (mC (.int 104729)) (mVar 3))) (mC (.int 4294967291))))
    (sSeq (sSet 6 (mBin modD (mBin mulD (mBin modD (mBin mulD (mVar 6) (mVar 6)) (mC (.int 4294967279))) (mC (.int 48271))) (mC (.int 4294967291))))
    (sSeq (sSet 7 (mBin modD (mBin mulD (mBin modD (mBin mulD (mVar 6) (mVar 6)) (mC (.int 4294967279))) (mC (.int 69621))) (mC (.int 4294967291))))
    (sRet (mBin modD (mBin addD (mBin mulD (mBin fdivD (mVar 6) (mC (.int 64))) (mC (.int 67108864))) (mBin fdivD (mVar 7) (mC (.int 64)))) (mVar 2)))))))))))
def mDraw : SM :=
    (sSeq (sIf (mNotT (mTru (mVar 1))) (sDrop (mAppend (mVar 1) (mCall maxD (mCons (mBin addD (mLc (mIter (mVar 0)) [4] (tgN 4) mYes (mCall absD (mCons (mVar 4) mNil))) (mLst (mCons (mC (.int 0)) mNil))) mNil)))) sNil)
    mDraw2)
noncomputable def FDraw : List D → Store → R D := runT 8 mDraw
def absI (i : Int) : Int := if i < 0 then -i else i
theorem lc_abs (r0 : Env) (h4 : 4 < r0.length) (S : Store) : ∀ ns : List Int, lcL (tgN 4) mYes (mCall absD (mCons (mVar 4) mNil)) r0 (ns.map D.int) S = .ok ((ns.map absI).map D.int) S
  | [] => rfl
  | n :: ns => by
    have e : (r0.set 4 (some (D.int n)))[4]? = some (some (D.int n)) := List.getElem?_set_self h4
    rw [List.map_cons, lcL]
    simp [lc_abs r0 h4 S ns, absI, h4]
theorem maxI_cons : ∀ (x : Int) (xs : List Int), ∃ m, maxI (x :: xs) = some m
  | x, [] => ⟨x, rfl⟩
  | x, y :: ys => by
    obtain ⟨m, e⟩ := maxI_cons y ys
    show ∃ m, (maxI (y :: ys)).map (fun m => if m < x then x else m) = some m
    rw [e]
    exact ⟨_, rfl⟩
theorem maxI_app : ∀ (xs : List Int) (x : Int), ∃ m, maxI (xs ++ [x]) = some m
  | [], x => ⟨x, rfl⟩
  | y :: ys, x => maxI_cons y (ys ++ [x])
theorem atI_mod {α : Type} (x : α) (xs : List α) (k : Int) : ∃ y, atI (x :: xs) (k % ((xs.length : Int) + 1)) = some y := by
  have h1 : 0 ≤ k % ((xs.length : Int) + 1) := Int.emod_nonneg _ (by omega)
  have h2 : k % ((xs.length : Int) + 1) < xs.length + 1 := Int.emod_lt_of_pos _ (by omega)
  obtain ⟨j, ej⟩ : ∃ j : Nat, k % ((xs.length : Int) + 1) = j := ⟨_, (Int.toNat_of_nonneg h1).symm⟩
  rw [ej] at h2 ⊢
  have h3 : j < (x :: xs).length := by rw [List.length_cons]; omega
  exact ⟨(x :: xs)[j], atI_nat (List.getElem?_eq_getElem h3)⟩
theorem gs {S : Store} {t : Nat} {o : O} (h : S[t]? = some o) (o' : O) : (List.set S t o')[t]? = some o' := List.getElem?_set_self (List.getElem?_eq_some_iff.mp h).1
theorem draw_tail (ns ts : List Int) (t0 many : Int) (S : Store) (t : Nat) (hS : S[t]? = some (.lst ((t0 :: ts).map D.int))) (hl : ts.length < 99990) (hm : 0 < many) (y4 : Option D) : ∃ (r : Int) (ts' : List Int) (rho : Env), 0 ≤ r ∧ r < many ∧ ts'.length = ts.length + 2 ∧
    mDraw2 [some (.scr ns), some (.loc t), some (.int many), none, y4, none, none, none] S =
      .ok (.ret (.int r)) rho (S.set t (.lst (ts'.map D.int))) := by
  have ht : t < S.length := (List.getElem?_eq_some_iff.mp hS).1
  obtain ⟨c, hc⟩ : ∃ c, ∀ S' : Store, (mIf (mTru (mVar 0)) (mBin ixD (mVar 0) (mBin modD (mVar 3) (mCall lenD (mCons (mVar 0) mNil)))) (mC (.int 0))) [some (.scr ns), some (.loc t), some (.int many), some (.int ((ts.length : Int) + 1 + 1)), y4, none, none, none] S' = .ok (.int c) S' := by
    cases ns with
    | nil => exact ⟨0, fun _ => rfl⟩
    | cons n ns =>
      obtain ⟨x, ex⟩ := atI_mod n ns ((ts.length : Int) + 1 + 1)
      refine ⟨x, fun S' => ?_⟩
      have hp : (0 : Int) < (ns.length : Int) + 1 := by omega
      simp [hp, ex]
  have hlt : ts.length + 1 < 100000 := by omega
  have e1 : atI (D.int t0 :: (List.map D.int ts ++ [D.int 0])) 0 = some (D.int t0) := atI_zero _ _
  have e2 : ixN (ts.length + 1 + 1) 0 = some 0 := ixN_zero (by omega)
  have sm : ∀ a : Int, (-18446744073709551616 < a % 4294967291 ∧ a % 4294967291 < 18446744073709551616) := fun a => by omega
  have h : ∃ (a : Int) (rho : Env), mDraw2 [some (.scr ns), some (.loc t), some (.int many), none, y4, none, none, none] S = .ok (.ret (.int (a % many))) rho (S.set t (.lst (((t0 / 65536) :: (ts ++ [0])).map D.int))) := by
    unfold mDraw2
    simp [hS, gs hS, hlt, hc, e1, e2, sm, hm, -mIf_ap]
    exact ⟨_, rfl⟩
  obtain ⟨a, rho, e⟩ := h
  exact ⟨a % many, _, rho, Int.emod_nonneg _ (by omega), Int.emod_lt_of_pos _ hm, by simp, e⟩
theorem start_draw (ns : List Int) (t : Nat) (many : Int) : frame 8 [.scr ns, .loc t, .int many] = [some (.scr ns), some (.loc t), some (.int many), none, none, none, none, none] := rfl
section
variable {S S1 : Store} {rho : Env} {d d' : D}
open Classical in
theorem finT_ret (tr : Tr S S1) (e : fzD S.length S1 d = some d') : finT S (.ok (.ret d) rho S1) = .ok d' (S1.take S.length) := by
  have e' : fzE S.length S1 d = some d' := by unfold fzE; rw [e]
  simp only [finT, if_pos tr, e']
open Classical in
theorem finT_next (tr : Tr S S1) : finT S (.ok .next rho S1) = .ok .non (S1.take S.length) := by
  simp only [finT, if_pos tr]
theorem take_app (E : Store) : (S ++ E).take S.length = S := by simp
theorem fz_clo (h : clo S.length d = true) : fzD S.length S1 d = some d := by
  cases d with
  | loc m =>
    have : m < S.length := of_decide_eq_true h
    show (if m < S.length then _ else _) = _
    rw [if_pos this]
  | _ => exact (if_pos h : (if clo S.length _ = true then some _ else none) = some _)
theorem fin_ret0 (h : clo S.length d = true) : finT S (.ok (.ret d) rho S) = .ok d S := by
  have t := Tr.app S []
  rw [List.append_nil] at t
  rw [finT_ret t (fz_clo h), List.take_length]
theorem fin_ret_app (E : Store) (h : fzD S.length (S ++ E) d = some d') : finT S (.ok (.ret d) rho (S ++ E)) = .ok d' S := by
  rw [finT_ret (Tr.app S E) h, take_app]
theorem fin_ret_set (n : Nat) (o : O) (ho : cloO S.length o = true) (h : clo S.length d = true) : finT S (.ok (.ret d) rho (List.set S n o)) = .ok d (List.set S n o) := by
  have t := Tr.set S [] n o ho
  rw [List.append_nil] at t
  rw [finT_ret t (fz_clo h), List.take_of_length_le (by rw [List.length_set]; exact Nat.le_refl _)]
theorem fin_next_set (n : Nat) (o : O) (ho : cloO S.length o = true) : finT S (.ok .next rho (List.set S n o)) = .ok .non (List.set S n o) := by
  have t := Tr.set S [] n o ho
  rw [List.append_nil] at t
  rw [finT_next t, List.take_of_length_le (by rw [List.length_set]; exact Nat.le_refl _)]
end
theorem draw_ok (ns ts : List Int) (many : Int) (S : Store) (t : Nat) (hS : S[t]? = some (.lst (ts.map D.int))) (h63 : ns.length ≤ 63) (hl : ts.length < 99990) (hm : 0 < many) : ∃ (r : Int) (ts' : List Int), 0 ≤ r ∧ r < many ∧ ts'.length ≤ ts.length + 2 ∧
    FDraw [.scr ns, .loc t, .int many] S = .ok (.int r) (S.set t (.lst (ts'.map D.int))) := by
  have ht : t < S.length := (List.getElem?_eq_some_iff.mp hS).1
  obtain ⟨r, ts', rho, h0, h1, h2, e⟩ : ∃ (r : Int) (ts' : List Int) (rho : Env), 0 ≤ r ∧ r < many ∧ ts'.length ≤ ts.length + 2 ∧ mDraw (frame 8 [.scr ns, .loc t, .int many]) S = .ok (.ret (.int r)) rho (S.set t (.lst (ts'.map D.int))) := by
    rw [start_draw]
    unfold mDraw
    cases ts with
    | nil =>
      obtain ⟨m, em⟩ := maxI_app (ns.map absI) 0
      have hS' : (S.set t (.lst ([m].map D.int)))[t]? = some (.lst ([m].map D.int)) := gs hS _
      obtain ⟨r, ts', rho, h0, h1, h2, e⟩ := draw_tail ns [] m many (S.set t (.lst ([m].map D.int))) t hS' (by simp) hm none
      refine ⟨r, ts', rho, h0, h1, by simp at h2; simp [h2], ?_⟩
      rw [List.set_set] at e
      have hx : ns.length + 1 ≤ 100000 := by omega
      have em' : maxD [D.lst (List.map D.int (List.map absI ns) ++ [D.int 0])] S = some (.int m) := by
        rw [show List.map D.int (List.map absI ns) ++ [D.int 0] = (ns.map absI ++ [0]).map D.int by simp, maxD_ints, em]
        rfl
      rw [← e]
      simp only [List.map_nil] at hS
      have hlc := lc_abs [some (D.scr ns), some (D.loc t), some (D.int many), none, none, none, none, none] (by simp) S ns
      simp [hS, hlc, hx, em', -List.map_map]
    | cons t0 ts =>
      obtain ⟨r, ts', rho, h0, h1, h2, e⟩ := draw_tail ns ts t0 many S t hS (by simp at hl; omega) hm none
      refine ⟨r, ts', rho, h0, h1, by simp [h2], ?_⟩
      rw [← e]
      simp only [List.map_cons] at hS
      simp [hS]
  refine ⟨r, ts', h0, h1, h2, ?_⟩
  show finT S (mDraw (frame 8 _) S) = _
  rw [e]
  exact fin_ret_set t _ (cloL_ints _ _) rfl
end Dv
namespace Dv
open PySem L2
noncomputable instance : DecidableEq D := fun a b => Classical.propDecidable (a = b)
def pl : Nat → D → Bool
  | _, .non => true
  | _, .int _ => true
  | _, .str x => PyData.strOk x
  | k + 1, .tup xs => xs.all (pl k)
  | k + 1, .lst xs => xs.all (pl k)
  | _, _ => false
theorem pl_dat : ∀ (k : Nat) (d : D), pl k d = true → dat d = true ∧ (pyD d).canLay0 = true ∧ (pyD d).depth ≤ k
  | _, .non, _ => ⟨rfl, rfl, Nat.zero_le _⟩
  | _, .int _, _ => ⟨rfl, rfl, Nat.zero_le _⟩
  | _, .str x, h => ⟨rfl, by cases ‹Nat› <;> exact h, Nat.zero_le _⟩
  | 0, .tup _, h => by cases h
  | 0, .lst _, h => by cases h
  | 0, .bl _, h => by cases h
  | _ + 1, .bl _, h => by cases h
  | 0, .scr _, h => by cases h
  | _ + 1, .scr _, h => by cases h
  | 0, .dct _, h => by cases h
  | _ + 1, .dct _, h => by cases h
  | 0, .dtt _, h => by cases h
  | _ + 1, .dtt _, h => by cases h
  | 0, .dpr _ _, h => by cases h
  | _ + 1, .dpr _ _, h => by cases h
  | 0, .adr _, h => by cases h
  | _ + 1, .adr _, h => by cases h
  | 0, .loc _, h => by cases h
  | _ + 1, .loc _, h => by cases h
  | 0, .ty _, h => by cases h
  | _ + 1, .ty _, h => by cases h
  | 0, .tux _, h => by cases h
  | _ + 1, .tux _, h => by cases h
  | k + 1, .tup xs, h => by
    have h : xs.all (pl k) = true := h
    have r : ∀ ys : List D, ys.all (pl k) = true → dats ys = true ∧ PyData.canLayAll0 (pyDs ys) = true ∧ PyData.depthAll (pyDs ys) ≤ k := fun ys => by
      induction ys with
      | nil => exact fun _ => ⟨rfl, rfl, Nat.zero_le _⟩
      | cons y ys ih =>
        intro h
        rw [List.all_cons, Bool.and_eq_true] at h
        obtain ⟨a, b, c⟩ := pl_dat k y h.1
        obtain ⟨a', b', c'⟩ := ih h.2
        refine ⟨by show (dat y && dats ys) = true; rw [a, a']; rfl, by show (PyData.canLay0 (pyD y) && PyData.canLayAll0 (pyDs ys)) = true; rw [b, b']; rfl, ?_⟩
        show max (PyData.depth (pyD y)) (PyData.depthAll (pyDs ys)) ≤ k
        omega
    obtain ⟨a, b, c⟩ := r xs h
    exact ⟨a, b, by show PyData.depthAll (pyDs xs) + 1 ≤ _; omega⟩
  | k + 1, .lst xs, h => by
    have h : xs.all (pl k) = true := h
    have r : ∀ ys : List D, ys.all (pl k) = true → dats ys = true ∧ PyData.canLayAll0 (pyDs ys) = true ∧ PyData.depthAll (pyDs ys) ≤ k := fun ys => by
      induction ys with
      | nil => exact fun _ => ⟨rfl, rfl, Nat.zero_le _⟩
      | cons y ys ih =>
        intro h
        rw [List.all_cons, Bool.and_eq_true] at h
        obtain ⟨a, b, c⟩ := pl_dat k y h.1
        obtain ⟨a', b', c'⟩ := ih h.2
        refine ⟨by show (dat y && dats ys) = true; rw [a, a']; rfl, by show (PyData.canLay0 (pyD y) && PyData.canLayAll0 (pyDs ys)) = true; rw [b, b']; rfl, ?_⟩
        show max (PyData.depth (pyD y)) (PyData.depthAll (pyDs ys)) ≤ k
        omega
    obtain ⟨a, b, c⟩ := r xs h
    exact ⟨a, b, by show PyData.depthAll (pyDs xs) + 1 ≤ _; omega⟩
theorem pl_ok {k : Nat} {d : D} (h : pl k d = true) (hk : k ≤ 64) : okD d = true := by
  obtain ⟨a, b, c⟩ := pl_dat k d h
  unfold okD SeqAt.shaped
  rw [a, b, decide_eq_true (show (pyD d).depth ≤ 64 by omega)]
  rfl
theorem pl_all_eqv (k : Nat) (ih : ∀ a b : D, pl k a = true → pl k b = true → (PyData.eqv (pyD a) (pyD b) = true ↔ a = b)) : ∀ xs ys : List D, xs.all (pl k) = true → ys.all (pl k) = true → (PyData.eqvAll (pyDs xs) (pyDs ys) = true ↔ xs = ys)
  | [], [], _, _ => ⟨fun _ => rfl, fun _ => rfl⟩
  | [], y :: ys, _, _ => ⟨(by intro h; cases h), (by intro h; cases h)⟩
  | x :: xs, [], _, _ => ⟨(by intro h; cases h), (by intro h; cases h)⟩
  | x :: xs, y :: ys, h1, h2 => by
    rw [List.all_cons, Bool.and_eq_true] at h1 h2
    show (PyData.eqv (pyD x) (pyD y) && PyData.eqvAll (pyDs xs) (pyDs ys)) = true ↔ _
    rw [Bool.and_eq_true, ih x y h1.1 h2.1, pl_all_eqv k ih xs ys h1.2 h2.2, List.cons.injEq]
theorem pl_eqv : ∀ (k : Nat) (a b : D), pl k a = true → pl k b = true → (PyData.eqv (pyD a) (pyD b) = true ↔ a = b) := fun k => by
  induction k with
  | zero =>
    intro a b ha hb
    cases a <;> cases b <;> first | (simp [pl] at ha; done) | (simp [pl] at hb; done) | simp [pyD, PyData.eqv]
  | succ k ih =>
    intro a b ha hb
    cases a <;> cases b <;> first | (simp [pl] at ha; done) | (simp [pl] at hb; done) | simp [pyD, PyData.eqv]
    · exact pl_all_eqv k ih _ _ ha hb
    · exact pl_all_eqv k ih _ _ ha hb
theorem pl_eqvD {k : Nat} {a b : D} (ha : pl k a = true) (hb : pl k b = true) : eqvD a b = decide (a = b) := by
  by_cases h : a = b
  · rw [decide_eq_true h]
    exact (pl_eqv k a b ha hb).mpr h
  · rw [decide_eq_false h]
    cases q : eqvD a b with
    | false => rfl
    | true => exact absurd ((pl_eqv k a b ha hb).mp q) h
theorem eqO_pl {k : Nat} {a b : D} (ha : pl k a = true) (hb : pl k b = true) (hk : k ≤ 64) : eqO a b = some (decide (a = b)) := by
  have h : (if okD a = true ∧ okD b = true then some (eqvD a b) else none) = some (decide (a = b)) := by
    rw [if_pos ⟨pl_ok ha hk, pl_ok hb hk⟩, pl_eqvD ha hb]
  unfold eqO
  split
  · congr 1
    simp
  · congr 1
    simp
  · congr 1
    simp
  · exact h
theorem eqD_pl {k : Nat} {a b : D} {S : Store} (ha : pl k (now a S) = true) (hb : pl k (now b S) = true) (hk : k ≤ 64) : eqD a b S = some (.bl (decide (now a S = now b S))) := by
  unfold eqD
  rw [eqO_pl ha hb hk]
  rfl
theorem neD_pl {k : Nat} {a b : D} {S : Store} (ha : pl k (now a S) = true) (hb : pl k (now b S) = true) (hk : k ≤ 64) : neD a b S = some (.bl (!decide (now a S = now b S))) := by
  unfold neD
  rw [eqO_pl ha hb hk]
  rfl
theorem any_pl {k : Nat} {a : D} (ha : pl k a = true) : ∀ xs : List D, xs.all (pl k) = true → (xs.any fun z => eqvD z a) = decide (a ∈ xs)
  | [], _ => by simp
  | x :: xs, h => by
    rw [List.all_cons, Bool.and_eq_true] at h
    rw [List.any_cons, any_pl ha xs h.2, pl_eqvD h.1 ha]
    by_cases e : a = x
    · subst e; simp
    · have : ¬ x = a := fun z => e z.symm
      simp [e, this]
theorem inO_pl {k : Nat} {a : D} {xs : List D} (ha : pl k a = true) (hb : xs.all (pl k) = true) (hk : k + 1 ≤ 64) : inO a (.lst xs) = some (decide (a ∈ xs)) := by
  show (if okD a = true ∧ okD (.lst xs) = true then some (xs.any fun z => eqvD z a) else none) = _
  rw [if_pos ⟨pl_ok ha (by omega), pl_ok (k := k + 1) hb hk⟩, any_pl ha xs hb]
theorem pl_rowD (k : Nat) (ns : List Int) : pl (k + 1) (rowD ns) = true := by
  show (ns.map D.int).all (pl k) = true
  rw [List.all_map, List.all_eq_true]
  intro n _
  cases k <;> rfl
theorem pl_rows (k : Nat) (rows : List (List Int)) : (rows.map rowD).all (pl (k + 1)) = true := by
  rw [List.all_map, List.all_eq_true]
  intro n _
  exact pl_rowD k n
theorem map_int_inj {a b : List Int} (h : a.map D.int = b.map D.int) : a = b := by
  induction a generalizing b with
  | nil => cases b with
    | nil => rfl
    | cons => cases h
  | cons x xs ih => cases b with
    | nil => cases h
    | cons y ys =>
      rw [List.map_cons, List.map_cons, List.cons.injEq, D.int.injEq] at h
      rw [h.1, ih h.2]
theorem rowD_inj {a b : List Int} (h : rowD a = rowD b) : a = b := by
  unfold rowD at h
  injection h with h
  exact map_int_inj h
theorem rowD_iff {a b : List Int} : rowD a = rowD b ↔ a = b := ⟨rowD_inj, fun h => by rw [h]⟩
theorem eqD_row {S : Store} (a b : List Int) : eqD (rowD a) (rowD b) S = some (.bl (decide (a = b))) := by
  have := eqD_pl (k := 1) (a := rowD a) (b := rowD b) (S := S) (by exact pl_rowD 0 a) (by exact pl_rowD 0 b) (by decide)
  rw [this]
  congr 2
  exact decide_eq_decide.mpr rowD_iff
theorem mem_rowD {a : List Int} {rows : List (List Int)} : rowD a ∈ rows.map rowD ↔ a ∈ rows := by
  constructor
  · intro h
    obtain ⟨b, hb, e⟩ := List.mem_map.mp h
    rw [← rowD_inj e]
    exact hb
  · exact fun h => List.mem_map.mpr ⟨a, h, rfl⟩
end Dv
namespace Dv
open PySem L2
theorem sLoop_cons (gm : D → Env → Option Env) (b : SM) (d : D) (ds : List D) (r : Env) (S : Store) : sLoop gm b (d :: ds) r S = (match gm d r with
    | none => .bad
    | some r1 => match b r1 S with
      | .ok .next r2 S2 => sLoop gm b ds r2 S2
      | .ok .cont r2 S2 => sLoop gm b ds r2 S2
      | .ok .brk r2 S2 => .ok .next r2 S2
      | .ok (.ret d) r2 S2 => .ok (.ret d) r2 S2
      | .exc x r2 S2 => .exc x r2 S2
      | .bad => .bad) := rfl
theorem loop_inv {gm : D → Env → Option Env} {b : SM} (I : Nat → Env → Store → Prop) : ∀ (ds : List D) (k : Nat) (r : Env) (S : Store),
    (∀ i d r S, ds[i]? = some d → I (k + i) r S → ∃ r1 r2 S2, gm d r = some r1 ∧ (b r1 S = .ok .next r2 S2 ∨ b r1 S = .ok .cont r2 S2) ∧ I (k + i + 1) r2 S2) →
    I k r S → ∃ r' S', sLoop gm b ds r S = .ok .next r' S' ∧ I (k + ds.length) r' S'
  | [], k, r, S, _, h => ⟨r, S, rfl, h⟩
  | d :: ds, k, r, S, st, h => by
    obtain ⟨r1, r2, S2, e1, e2, h2⟩ := st 0 d r S rfl h
    obtain ⟨r', S', e3, h3⟩ := loop_inv I ds (k + 1) r2 S2 (fun i d' r S q h => by
      have := st (i + 1) d' r S q
      rw [show k + (i + 1) = k + 1 + i by omega] at this
      exact this h) h2
    refine ⟨r', S', ?_, by rw [List.length_cons, show k + (ds.length + 1) = k + 1 + ds.length by omega]; exact h3⟩
    rw [sLoop_cons, e1]
    rcases e2 with e2 | e2 <;> simp only [e2] <;> exact e3
theorem lcL_cons (gm : D → Env → Option Env) (tt : BM) (te : EM) (r0 : Env) (d : D) (ds : List D) (S : Store) : lcL gm tt te r0 (d :: ds) S = (match gm d r0 with
    | none => .bad
    | some r1 => (nox (tt r1 S)).bind fun b S1 => if b = true then (nox (te r1 S1)).bind fun y S2 => (lcL gm tt te r0 ds S2).bind fun ys S3 => .ok (y :: ys) S3 else lcL gm tt te r0 ds S1) := rfl
theorem lc_inv {gm : D → Env → Option Env} {te : EM} {r0 : Env} (I : Nat → List D → Store → Prop) : ∀ (ds : List D) (k : Nat) (zs : List D) (S : Store),
    (∀ i d zs S, ds[i]? = some d → I (k + i) zs S → ∃ r1 y S2, gm d r0 = some r1 ∧ te r1 S = .ok y S2 ∧ I (k + i + 1) (zs ++ [y]) S2) →
    I k zs S → ∃ ys S', lcL gm mYes te r0 ds S = .ok ys S' ∧ I (k + ds.length) (zs ++ ys) S'
  | [], k, zs, S, _, h => ⟨[], S, rfl, by rw [List.append_nil]; exact h⟩
  | d :: ds, k, zs, S, st, h => by
    obtain ⟨r1, y, S2, e1, e2, h2⟩ := st 0 d zs S rfl h
    obtain ⟨ys, S', e3, h3⟩ := lc_inv I ds (k + 1) (zs ++ [y]) S2 (fun i d' zs S q h => by
      have := st (i + 1) d' zs S q
      rw [show k + (i + 1) = k + 1 + i by omega] at this
      exact this h) h2
    refine ⟨y :: ys, S', ?_, by rw [List.length_cons, show k + (ds.length + 1) = k + 1 + ds.length by omega]; rwa [List.append_assoc] at h3⟩
    rw [lcL_cons, e1]
    simp [e2, e3]
theorem lc_pure {gm : D → Env → Option Env} {tt : BM} {te : EM} {r0 : Env} {S : Store} (p : D → Bool) (f : D → D) : ∀ ds : List D,
    (∀ d ∈ ds, ∃ r1, gm d r0 = some r1 ∧ tt r1 S = .ok (p d) S ∧ (p d = true → te r1 S = .ok (f d) S)) → lcL gm tt te r0 ds S = .ok ((ds.filter p).map f) S
  | [], _ => rfl
  | d :: ds, h => by
    obtain ⟨r1, e1, e2, e3⟩ := h d List.mem_cons_self
    have ih := lc_pure p f ds fun d h' => h d (List.mem_cons_of_mem _ h')
    rw [lcL_cons, e1]
    cases q : p d with
    | false => simp [e2, q, ih]
    | true => simp [e2, q, e3 q, ih]
theorem lc_map {gm : D → Env → Option Env} {te : EM} {r0 : Env} {S : Store} (f : D → D) (ds : List D)
    (h : ∀ d ∈ ds, ∃ r1, gm d r0 = some r1 ∧ te r1 S = .ok (f d) S) : lcL gm mYes te r0 ds S = .ok (ds.map f) S := by
  have := lc_pure (gm := gm) (tt := mYes) (te := te) (r0 := r0) (S := S) (fun _ => true) f ds fun d hd => by
    obtain ⟨r1, a, b⟩ := h d hd
    exact ⟨r1, a, rfl, fun _ => b⟩
  rw [this, List.filter_eq_self.mpr fun _ _ => rfl]
theorem rng_get {lo : Int} {n i : Nat} {d : D} (h : (rng lo n)[i]? = some d) : i < n ∧ d = .int (lo + i) := by
  unfold rng at h
  rw [List.getElem?_map] at h
  by_cases hi : i < n
  · rw [List.getElem?_range hi] at h
    cases h
    exact ⟨hi, rfl⟩
  · rw [List.getElem?_eq_none (by rw [List.length_range]; omega)] at h
    cases h
theorem rng0_get {n i : Nat} {d : D} (h : (rng 0 n)[i]? = some d) : i < n ∧ d = .int i := by
  obtain ⟨a, b⟩ := rng_get h
  exact ⟨a, by rw [b, Int.zero_add]⟩
def Twn (t n : Nat) (S : Store) : Prop := ∃ ts : List Int, ts.length ≤ n ∧ S[t]? = some (.lst (ts.map D.int))
def Dif (t : Nat) (S S' : Store) : Prop := ∃ ts : List Int, S' = List.set S t (.lst (ts.map D.int))
theorem Twn.mono {t n m : Nat} {S : Store} (h : Twn t n S) (hm : n ≤ m) : Twn t m S := by
  obtain ⟨ts, a, b⟩ := h
  exact ⟨ts, by omega, b⟩
theorem Dif.trans {t : Nat} {S S' S'' : Store} (h : Dif t S S') (h' : Dif t S' S'') : Dif t S S'' := by
  obtain ⟨a, rfl⟩ := h
  obtain ⟨b, rfl⟩ := h'
  exact ⟨b, by rw [List.set_set]⟩
theorem Twn.dif {t n : Nat} {S : Store} (h : Twn t n S) : Dif t S S := by
  obtain ⟨ts, _, b⟩ := h
  refine ⟨ts, ?_⟩
  obtain ⟨h1, h2⟩ := List.getElem?_eq_some_iff.mp b
  rw [← h2, List.set_getElem_self]
theorem Dif.len {t : Nat} {S S' : Store} (h : Dif t S S') : S'.length = S.length := by
  obtain ⟨a, rfl⟩ := h
  exact List.length_set
theorem Dif.other {t i : Nat} {S S' : Store} (h : Dif t S S') (hi : i ≠ t) : S'[i]? = S[i]? := by
  obtain ⟨a, rfl⟩ := h
  exact List.getElem?_set_ne (fun e => hi e.symm)
theorem Dif.fin {t : Nat} {S S' : Store} {rho : Env} {d : D} (h : Dif t S S') (hd : clo S.length d = true) : finT S (.ok (.ret d) rho S') = .ok d S' := by
  obtain ⟨a, rfl⟩ := h
  exact fin_ret_set t _ (cloL_ints _ _) hd
theorem draw_tw {ns : List Int} {many : Int} {S : Store} {t n : Nat} (h63 : ns.length ≤ 63) (h : Twn t n S) (hn : n < 99990) (hm : 0 < many) : ∃ (r : Nat) (S' : Store), (r : Int) < many ∧ Twn t (n + 2) S' ∧ Dif t S S' ∧ FDraw [.scr ns, .loc t, .int many] S = .ok (.int r) S' := by
  obtain ⟨ts, h1, h2⟩ := h
  obtain ⟨r, ts', a, b, c, e⟩ := draw_ok ns ts many S t h2 h63 (by omega) hm
  refine ⟨r.toNat, _, ?_, ⟨ts', ?_, ?_⟩, ⟨ts', rfl⟩, ?_⟩
  · omega
  · omega
  · exact gs h2 _
  · rw [Int.toNat_of_nonneg a]
    exact e
theorem ltR_tri : ∀ a b : List Int, ltR a b = false → ltR b a = false → a = b
  | [], [], _, _ => rfl
  | [], _ :: _, h, _ => by cases h
  | _ :: _, [], _, h => by cases h
  | x :: xs, y :: ys, h1, h2 => by
    rw [ltR, HT.lexLt_cons] at h1 h2
    by_cases e : x = y
    · subst e
      simp only [if_true] at h1 h2
      rw [ltR_tri xs ys h1 h2]
    · rw [if_neg e] at h1
      rw [if_neg (fun z => e z.symm)] at h2
      have := of_decide_eq_false h1
      have := of_decide_eq_false h2
      omega
theorem sortL_strict {α : Type} {lt : α → α → Bool} (O : SrtO.Swo lt) (tri : ∀ a b, lt a b = false → lt b a = false → a = b) {l : List α} (nd : l.Nodup) : (sortL lt l).Pairwise fun a b => lt a b = true := by
  have h1 : (sortL lt l).Pairwise fun a b => lt b a = false := sortL_srtd O l
  have h2 : (sortL lt l).Nodup := (sortL_perm l).nodup_iff.mpr nd
  refine (h1.and h2).imp fun {a b} h => ?_
  cases q : lt a b with
  | true => rfl
  | false => exact absurd (tri a b q h.1) h.2
theorem intsOf_row (r : List Int) (rs : List (List Int)) : intsOf ((r :: rs).map rowD) = none := rfl
theorem sortD_rows {S : Store} (rows : List (List Int)) (h : ∀ r ∈ rows, r ≠ []) : sortD [.lst (rows.map rowD)] S = some (.lst ((sortL ltR rows).map rowD)) := by
  cases rows with
  | nil => rfl
  | cons r rs =>
    show (match intsOf ((r :: rs).map rowD) with
      | some ns => some (D.lst ((sortL ltI ns).map D.int))
      | none => (rowsOf ((r :: rs).map rowD)).map fun rows => D.lst ((sortL ltR rows).map rowD)) = _
    rw [intsOf_row, rowsOf_map h]
    rfl
theorem cloL_rows (n : Nat) (rows : List (List Int)) : cloL n (rows.map rowD) = true := (cloL_iff n _).mpr fun d hd => by
  obtain ⟨r, _, rfl⟩ := List.mem_map.mp hd
  exact cloL_ints n r
noncomputable def mRowsB : SM := (sSeq (sSet 7 (mCall tupD (mCons (mLc (mRng1 (mCons (mVar 2) mNil)) [8] (tgN 8) mYes (mApp 3 FDraw (mCons (mVar 0) (mCons (mVar 1) (mCons (mVar 4) mNil))))) mNil)))
    (sSet 5 (mBin addD (mVar 5) (mBin mulD (mLst (mCons (mVar 7) mNil)) (mCall intD (mCons (mBin ninD (mVar 7) (mVar 5)) mNil))))))
noncomputable def mRows : SM :=
    (sSeq (sSet 5 (mLst mNil))
    (sSeq (sFor (mRng1 (mCons (mApp 3 FDraw (mCons (mVar 0) (mCons (mVar 1) (mCons (mBin addD (mVar 3) (mC (.int 1))) mNil)))) mNil)) (tgN 6) mRowsB)
    (sRet (mCall tupD (mCons (mCall sortD (mCons (mVar 5) mNil)) mNil)))))
noncomputable def FRows : List D → Store → R D := runT 9 mRows
def Row (width : Nat) (far : Int) (r : List Int) : Prop := r.length = width ∧ ∀ x ∈ r, 0 ≤ x ∧ x < far
theorem rowsB_ok {ns : List Int} {t n width : Nat} {most far : Int} {S : Store} {rows : List (List Int)} (h63 : ns.length ≤ 63) (hw : width ≤ 1000) (hf : 0 < far) (ht : Twn t n S) (hn : n + 2 * width < 99000) (hr : rows.length < 90000) (y6 y7 y8 : Option D) :
    ∃ (row : List Int) (S' : Store) (y7' y8' : Option D), Row width far row ∧ Twn t (n + 2 * width) S' ∧ Dif t S S' ∧
    mRowsB [some (.scr ns), some (.loc t), some (.int width), some (.int most), some (.int far), some (.lst (rows.map rowD)), y6, y7, y8] S =
      .ok .next [some (.scr ns), some (.loc t), some (.int width), some (.int most), some (.int far), some (.lst ((if row ∈ rows then rows else rows ++ [row]).map rowD)), y6, y7', y8'] S' := by
  obtain ⟨ys, S', e, row, h0, h1, h2, h3, h4⟩ := lc_inv (gm := tgN 8) (te := mApp 3 FDraw (mCons (mVar 0) (mCons (mVar 1) (mCons (mVar 4) mNil))))
    (r0 := [some (.scr ns), some (.loc t), some (.int width), some (.int most), some (.int far), some (.lst (rows.map rowD)), y6, y7, none])
    (fun i zs S' => ∃ row : List Int, i ≤ width ∧ zs = row.map D.int ∧ Row i far row ∧ Twn t (n + 2 * i) S' ∧ Dif t S S') (rng 0 width) 0 [] S (fun i d zs S1 hd hi => by
      obtain ⟨hi2, rfl⟩ := rng_get hd
      obtain ⟨row, h0, h1, h2, h3, h4⟩ := hi
      obtain ⟨x, S2, a, b, c, e⟩ := draw_tw h63 h3 (by omega) hf
      refine ⟨_, .int x, S2, rfl, ?_, row ++ [(x : Int)], by omega, ?_, ⟨?_, ?_⟩, b.mono (by omega), h4.trans c⟩
      · simp
        exact e
      · rw [h1]; simp
      · simp [h2.1]
      · intro z hz
        rw [List.mem_append] at hz
        rcases hz with hz | hz
        · exact h2.2 z hz
        · rw [List.mem_singleton] at hz
          subst hz
          omega) ⟨[], Nat.zero_le _, rfl, ⟨rfl, by intro x hx; cases hx⟩, ht.mono (by omega), ht.dif⟩
  rw [rng_len, Nat.zero_add] at h0 h2 h3
  have hin : inO (rowD row) (.lst (rows.map rowD)) = some (decide (row ∈ rows)) := by
    rw [inO_pl (k := 1) (pl_rowD 0 row) (pl_rows 0 rows) (by decide)]
    congr 1
    exact decide_eq_decide.mpr mem_rowD
  have hnin : ninD (rowD row) (.lst (rows.map rowD)) S' = some (.bl (!decide (row ∈ rows))) := by
    show (inO (rowD row) (.lst (rows.map rowD))).map (fun k => D.bl (!k)) = _
    rw [hin]
    rfl
  have hys : ys = row.map D.int := by simpa using h1
  subst hys
  refine ⟨row, S', some (rowD row), y8, h2, h3, h4, ?_⟩
  have hw' : -100000 ≤ (width : Int) ∧ (width : Int) ≤ 100000 := by omega
  have hr' : rows.length ≤ 100000 := by omega
  have hr2 : rows.length + 1 ≤ 100000 := by omega
  unfold mRowsB
  have e' : D.tup (row.map D.int) = rowD row := rfl
  by_cases hm : row ∈ rows
  · simp [hw', e, e', hnin, hm, hr']
  · simp [hw', e, e', hnin, hm, hr', hr2]
theorem rows_ok {ns : List Int} {t n width most : Nat} {far : Int} {S : Store} (h63 : ns.length ≤ 63) (hw0 : 0 < width) (hw : width ≤ 1000) (hf : 0 < far) (ht : Twn t n S) (hn : n + 2 + 2 * width * most < 99000) (hr : most < 90000) :
    ∃ (rows : List (List Int)) (S' : Store), rows.length ≤ most ∧ (∀ r ∈ rows, Row width far r) ∧ (rows.Pairwise fun a b => ltR a b = true) ∧ Twn t (n + 2 + 2 * width * most) S' ∧ Dif t S S' ∧
    FRows [.scr ns, .loc t, .int width, .int most, .int far] S = .ok (.tup (rows.map rowD)) S' := by
  obtain ⟨m, S1, hm, t1, d1, e1⟩ := draw_tw (many := (most : Int) + 1) h63 ht (by omega) (by omega)
  have hmm : m ≤ most := by omega
  obtain ⟨r', S', e, rows, y6, y7, y8, rfl, h0, h1, h2, h3, h4⟩ := loop_inv (gm := tgN 6) (b := mRowsB)
    (fun i r S' => ∃ (rows : List (List Int)) (y6 y7 y8 : Option D), r = [some (.scr ns), some (.loc t), some (.int width), some (.int most), some (.int far), some (.lst (rows.map rowD)), y6, y7, y8] ∧
      rows.length ≤ i ∧ rows.Nodup ∧ (∀ r ∈ rows, Row width far r) ∧ Twn t (n + 2 + 2 * width * i) S' ∧ Dif t S S') (rng 0 m) 0 [some (.scr ns), some (.loc t), some (.int width), some (.int most), some (.int far), some (.lst (([] : List (List Int)).map rowD)), none, none, none] S1 (fun i d r S2 hd hi => by
      obtain ⟨hi2, rfl⟩ := rng_get hd
      obtain ⟨rows, y6, y7, y8, rfl, h0, h1, h2, h3, h4⟩ := hi
      have hle : 2 * width * (0 + i + 1) ≤ 2 * width * most := Nat.mul_le_mul_left _ (by omega)
      have hsu : 2 * width * (0 + i + 1) = 2 * width * (0 + i) + 2 * width := Nat.mul_succ _ _
      obtain ⟨row, S3, y7', y8', a, b, c, e⟩ := rowsB_ok (most := (most : Int)) h63 hw hf h3 (by omega) (show rows.length < 90000 by omega) (some (.int (0 + (i : Int)))) y7 y8
      refine ⟨_, _, S3, rfl, .inl e, (if row ∈ rows then rows else rows ++ [row]), _, _, _, rfl, ?_, ?_, ?_, b.mono (by omega), h4.trans c⟩
      · split
        · omega
        · rw [List.length_append, List.length_singleton]; omega
      · split
        · exact h1
        · rename_i q
          rw [List.nodup_append]
          refine ⟨h1, by simp, fun x hx y hy => ?_⟩
          rw [List.mem_singleton] at hy
          subst hy
          intro e
          subst e
          exact q hx
      · intro z hz
        split at hz
        · exact h2 z hz
        · rw [List.mem_append] at hz
          rcases hz with hz | hz
          · exact h2 z hz
          · rw [List.mem_singleton] at hz
            subst hz
            exact a) ⟨[], none, none, none, rfl, Nat.zero_le _, List.nodup_nil, (by intro x hx; cases hx), t1.mono (by omega), d1⟩
  rw [rng_len, Nat.zero_add] at h0 h3
  have hle : 2 * width * m ≤ 2 * width * most := Nat.mul_le_mul_left _ hmm
  have hne : ∀ r ∈ rows, r ≠ [] := fun r hr e => by
    have := (h2 r hr).1
    rw [e, List.length_nil] at this
    omega
  refine ⟨sortL ltR rows, S', by rw [sortL_len]; omega, fun r hr => h2 r ((sortL_perm rows).mem_iff.mp hr), sortL_strict ltR_swo ltR_tri h1, h3.mono (by omega), h4, ?_⟩
  show finT S (mRows (frame 9 _) S) = _
  have hmr : -100000 ≤ (m : Int) ∧ (m : Int) ≤ 100000 := by omega
  have ef : frame 9 [.scr ns, .loc t, .int width, .int most, .int far] = [some (.scr ns), some (.loc t), some (.int width), some (.int most), some (.int far), none, none, none, none] := rfl
  have eb : ∃ rho, mRows (frame 9 [.scr ns, .loc t, .int width, .int most, .int far]) S = .ok (.ret (.tup ((sortL ltR rows).map rowD))) rho S' := by
    rw [ef]
    unfold mRows
    simp only [List.map_nil] at e
    simp [e1, hmr, e, sortD_rows rows hne]
  obtain ⟨rho, eb⟩ := eb
  rw [eb]
  refine h4.fin ?_
  show cloL _ _ = true
  exact cloL_rows _ _
end Dv
namespace Dv
open PySem L2
def mFirstC : BM := (mT (mBin ltD (mVar 3) (mVar 4)))
def mFirstB : SM := (sSeq (sSet 5 (mBin fdivD (mBin addD (mVar 3) (mVar 4)) (mC (.int 2))))
    (sIf (mT (mBin ltD (mBin ixD (mVar 0) (mVar 5)) (mVar 2))) (sSet 3 (mBin addD (mVar 5) (mC (.int 1)))) (sSet 4 (mVar 5))))
def mFirst (fu : Nat) : SM :=
    (sSeq (sPar 3 4 (mCons (mVar 1) (mCons (mCall lenD (mCons (mVar 0) mNil)) mNil)))
    (sSeq (sWhile mFirstC mFirstB fu)
    (sRet (mVar 3))))
noncomputable def FFirst (fu : Nat) : List D → Store → R D := runT 6 (mFirst fu)
theorem first_loop {seq : D} {row : List Int} {S : Store} {b : Nat} {v : Int} (hix : ∀ i x, row[i]? = some x → ixD seq (.int (i : Nat)) S = some (.int x)) : ∀ (fu lo hi : Nat) (y5 : Option D), lo ≤ hi → hi ≤ row.length → b ≤ lo → hi - lo < fu → (∀ x, b < lo → row[lo - 1]? = some x → x < v) → (∀ x, row[hi]? = some x → v ≤ x) →
    ∃ (p : Nat) (y4 y5' : Option D), b ≤ p ∧ p ≤ row.length ∧ (∀ x, b < p → row[p - 1]? = some x → x < v) ∧ (∀ x, row[p]? = some x → v ≤ x) ∧
    sWhile mFirstC mFirstB fu [some seq, some (.int b), some (.int v), some (.int lo), some (.int hi), y5] S = .ok .next [some seq, some (.int b), some (.int v), some (.int p), y4, y5'] S
  | 0, lo, hi, y5, _, _, _, h, _, _ => by omega
  | fu + 1, lo, hi, y5, h1, h2, h3, h4, h5, h6 => by
    by_cases hlt : lo < hi
    · have e0 : ((lo : Int) + (hi : Int)) / 2 = ((lo + hi) / 2 : Nat) := by omega
      have hm : (lo + hi) / 2 < row.length := by omega
      have ex := hix ((lo + hi) / 2) _ (List.getElem?_eq_getElem hm)
      have ex' : ixD seq (D.int (((lo : Int) + (hi : Int)) / 2)) S = some (.int row[(lo + hi) / 2]) := by
        rw [e0]
        exact ex
      by_cases hx : row[(lo + hi) / 2] < v
      · obtain ⟨p, y4, y5', a1, a2, a3, a4, a5⟩ := first_loop (b := b) (v := v) hix fu ((lo + hi) / 2 + 1) hi (some (.int (((lo + hi) / 2 : Nat) : Int))) (by omega) h2 (by omega) (by omega) (fun x _ q => by
          rw [Nat.add_sub_cancel, List.getElem?_eq_getElem hm] at q
          cases q
          exact hx) h6
        refine ⟨p, y4, y5', a1, a2, a3, a4, ?_⟩
        rw [← a5]
        conv => lhs; unfold sWhile
        have e1 : (((lo + hi) / 2 : Nat) : Int) + 1 = (((lo + hi) / 2 + 1 : Nat) : Int) := by omega
        simp [mFirstC, mFirstB, hlt, ex', hx]
      · obtain ⟨p, y4, y5', a1, a2, a3, a4, a5⟩ := first_loop (b := b) (v := v) hix fu lo ((lo + hi) / 2) (some (.int (((lo + hi) / 2 : Nat) : Int))) (by omega) (by omega) h3 (by omega) h5 (fun x q => by
          rw [List.getElem?_eq_getElem hm] at q
          cases q
          omega)
        refine ⟨p, y4, y5', a1, a2, a3, a4, ?_⟩
        rw [← a5]
        conv => lhs; unfold sWhile
        simp [mFirstC, mFirstB, hlt, ex', hx]
    · have : hi = lo := by omega
      subst this
      refine ⟨hi, some (.int hi), y5, h3, h2, h5, h6, ?_⟩
      unfold sWhile
      simp [mFirstC]
theorem first_ok {seq : D} {row : List Int} {S : Store} {b fu : Nat} {v : Int} (hlen : lenD [seq] S = some (.int row.length)) (hix : ∀ i x, row[i]? = some x → ixD seq (.int (i : Nat)) S = some (.int x)) (hb : b ≤ row.length) (hfu : row.length < fu) :
    ∃ p : Nat, b ≤ p ∧ p ≤ row.length ∧ (∀ x, b < p → row[p - 1]? = some x → x < v) ∧ (∀ x, row[p]? = some x → v ≤ x) ∧ FFirst fu [seq, .int b, .int v] S = .ok (.int p) S := by
  obtain ⟨p, y4, y5', a1, a2, a3, a4, a5⟩ := first_loop (b := b) (v := v) hix fu b row.length none hb (Nat.le_refl _) (Nat.le_refl _) (by omega) (fun x h => by omega) (fun x h => by
    rw [List.getElem?_eq_none (Nat.le_refl _)] at h
    cases h)
  refine ⟨p, a1, a2, a3, a4, ?_⟩
  show finT S (mFirst fu (frame 6 _) S) = _
  have ef : frame 6 [seq, .int b, .int v] = [some seq, some (.int b), some (.int v), none, none, none] := rfl
  have eb : ∃ rho, mFirst fu (frame 6 [seq, .int b, .int v]) S = .ok (.ret (.int p)) rho S := by
    rw [ef]
    unfold mFirst
    simp [hlen, a5]
  obtain ⟨rho, eb⟩ := eb
  rw [eb]
  exact fin_ret0 rfl
end Dv
namespace Dv
open PySem L2
def mEnd : SM :=
    (sRet (mAnd (mBin neD (mFld "Looker" "levels" (mVar 0)) (mLst mNil)) (mBin eqD (mBin ixD (mBin ixD (mFld "Looker" "levels" (mVar 0)) (mUn negD (mC (.int 1)))) (mC (.int 2))) (mBin ixD (mBin ixD (mFld "Looker" "levels" (mVar 0)) (mUn negD (mC (.int 1)))) (mC (.int 1))))))
noncomputable def FEnd : List D → Store → R D := runT 1 mEnd
noncomputable def mBehind (fu : Nat) : SM :=
    (sSeq (sAsg (mBin ixD (mFld "Looker" "levels" (mVar 0)) (mUn negD (mC (.int 1)))) (tgT 3 (tgsCons (tgN 3) (tgsCons (tgN 4) (tgsCons (tgN 5) tgsNil)))))
    (sSeq (sSet 2 (mLc (mIter (mSl (mFld "Looker" "rows" (mVar 0)) mNoP (mP (mVar 4)))) [6] (tgN 6) mYes (mBin ixD (mVar 6) (mBin subD (mCall lenD (mCons (mFld "Looker" "levels" (mVar 0)) mNil)) (mC (.int 1))))))
    (sRet (mApp 3 (FFirst fu) (mCons (mVar 2) (mCons (mVar 5) (mCons (mBin addD (mVar 1) (mC (.int 1))) mNil)))))))
noncomputable def FBehind (fu : Nat) : List D → Store → R D := runT 7 (mBehind fu)
noncomputable def mKey (rs : SM) : SM :=
    (sSeq (sIf (mOrT (mNotT (mTru (mFld "Looker" "levels" (mVar 0)))) (mTru (mMeth "Looker" "at_end" 1 FEnd (mVar 0) mNil))) rs sNil)
    (sRet (mBin ixD (mBin ixD (mFld "Looker" "rows" (mVar 0)) (mBin ixD (mBin ixD (mFld "Looker" "levels" (mVar 0)) (mUn negD (mC (.int 1)))) (mC (.int 2)))) (mBin subD (mCall lenD (mCons (mFld "Looker" "levels" (mVar 0)) mNil)) (mC (.int 1))))))
noncomputable def FKey (rs : SM) : List D → Store → R D := runT 1 (mKey rs)
noncomputable def mOpened (rk rs : SM) (fu : Nat) : SM :=
    (sSeq (sIf (mOrT (mT (mBin eqD (mFld "Looker" "rows" (mVar 0)) (mTup mNil))) (mOrT (mTru (mMeth "Looker" "at_end" 1 FEnd (mVar 0) mNil)) (mT (mBin eqD (mCall lenD (mCons (mFld "Looker" "levels" (mVar 0)) mNil)) (mCall lenD (mCons (mBin ixD (mFld "Looker" "rows" (mVar 0)) (mC (.int 0))) mNil)))))) rs sNil)
    (sIf (mTru (mFld "Looker" "levels" (mVar 0))) (sSeq (sAsg (mBin ixD (mFld "Looker" "levels" (mVar 0)) (mUn negD (mC (.int 1)))) (tgT 3 (tgsCons (tgN 1) (tgsCons (tgN 2) (tgsCons (tgN 3) tgsNil)))))
    (sDrop (mAppend (mFld "Looker" "levels" (mVar 0)) (mTup (mCons (mVar 3) (mCons (mMeth "Looker" "behind" 2 (FBehind fu) (mVar 0) (mCons (mMeth "Looker" "key" 1 (FKey rk) (mVar 0) mNil) mNil)) (mCons (mVar 3) mNil))))))) (sDrop (mAppend (mFld "Looker" "levels" (mVar 0)) (mTup (mCons (mC (.int 0)) (mCons (mCall lenD (mCons (mFld "Looker" "rows" (mVar 0)) mNil)) (mCons (mC (.int 0)) mNil))))))))
noncomputable def FOpened (rk rs : SM) (fu : Nat) : List D → Store → R D := runT 4 (mOpened rk rs fu)
def mUp (rs : SM) : SM :=
    (sSeq (sIf (mNotT (mTru (mFld "Looker" "levels" (mVar 0)))) rs sNil)
    (sDrop (mPop (mFld "Looker" "levels" (mVar 0)))))
noncomputable def FUp (rs : SM) : List D → Store → R D := runT 1 (mUp rs)
def mDepth : SM := (sRet (mCall lenD (mCons (mFld "Looker" "levels" (mVar 0)) mNil)))
noncomputable def FDepth : List D → Store → R D := runT 1 mDepth
noncomputable def mPlace : SM :=
    (sSeq (sIf (mNotT (mTru (mFld "Looker" "levels" (mVar 0)))) (sRet (mTup mNil)) sNil)
    (sSeq (sIf (mTru (mMeth "Looker" "at_end" 1 FEnd (mVar 0) mNil)) (sRet (mSl (mBin ixD (mFld "Looker" "rows" (mVar 0)) (mBin ixD (mBin ixD (mFld "Looker" "levels" (mVar 0)) (mUn negD (mC (.int 1)))) (mC (.int 0)))) mNoP (mP (mBin subD (mCall lenD (mCons (mFld "Looker" "levels" (mVar 0)) mNil)) (mC (.int 1)))))) sNil)
    (sRet (mSl (mBin ixD (mFld "Looker" "rows" (mVar 0)) (mBin ixD (mBin ixD (mFld "Looker" "levels" (mVar 0)) (mUn negD (mC (.int 1)))) (mC (.int 2)))) mNoP (mP (mCall lenD (mCons (mFld "Looker" "levels" (mVar 0)) mNil)))))))
noncomputable def FPlace : List D → Store → R D := runT 1 mPlace
def mLooks : SM := (sRet (mFld "Looker" "many" (mVar 0)))
noncomputable def FLooks : List D → Store → R D := runT 1 mLooks
def mInitL : SM :=
    (sSeq (sFldD "Looker" "rows" (mVar 0) (mVar 1))
    (sSeq (sFldD "Looker" "levels" (mVar 0) (mNewL mNil))
    (sFldD "Looker" "many" (mVar 0) (mC (.int 0)))))
def FInitL : List D → Store → R D := runK 2 mInitL
def lvD (x : Nat × Nat × Nat) : D := .tup [.int x.1, .int x.2.1, .int x.2.2]
def lkF (rows : List (List Int)) (v : Nat) (m : Int) : List (Str × D) := [("rows", .tup (rows.map rowD)), ("levels", .loc v), ("many", .int m)]
structure Lk (S : Store) (l v : Nat) (rows : List (List Int)) (lv : List (Nat × Nat × Nat)) (m : Int) : Prop where
  o : S[l]? = some (.ins "Looker" (lkF rows v m))
  v : S[v]? = some (.lst (lv.map lvD))
  small : rows.length ≤ 90000 ∧ lv.length ≤ 90000
section
variable {S : Store} {l v : Nat} {rows : List (List Int)} {lv : List (Nat × Nat × Nat)} {m : Int}
theorem lkF_rows : (lkF rows v m).lookup ("rows" : Str) = some (.tup (rows.map rowD)) := rfl
theorem lkF_levels : (lkF rows v m).lookup ("levels" : Str) = some (.loc v) := rfl
theorem lkF_many : (lkF rows v m).lookup ("many" : Str) = some (.int m) := rfl
theorem mth_at_end : (lkF rows v m).lookup ("at_end" : Str) = none := rfl
theorem mth_behind : (lkF rows v m).lookup ("behind" : Str) = none := rfl
theorem mth_key : (lkF rows v m).lookup ("key" : Str) = none := rfl
theorem mth_opened : (lkF rows v m).lookup ("opened" : Str) = none := rfl
theorem mth_up : (lkF rows v m).lookup ("up" : Str) = none := rfl
theorem mth_depth : (lkF rows v m).lookup ("depth" : Str) = none := rfl
theorem mth_place : (lkF rows v m).lookup ("place" : Str) = none := rfl
theorem mth_looks : (lkF rows v m).lookup ("looks" : Str) = none := rfl
theorem atI_lv (x : Nat × Nat × Nat) : atI ((lv ++ [x]).map lvD) (-1) = some (lvD x) := by
  rw [List.map_append]
  exact atI_last _ _
theorem lv_at (x : Nat × Nat × Nat) (i : Int) : ixD (lvD x) (.int i) S = atI [D.int x.1, D.int x.2.1, D.int x.2.2] i := rfl
theorem pl_lvs (k : Nat) (lv : List (Nat × Nat × Nat)) : pl (k + 2) (.lst (lv.map lvD)) = true := by
  show (lv.map lvD).all (pl (k + 1)) = true
  rw [List.all_map, List.all_eq_true]
  intro n _
  cases k <;> rfl
theorem ne_levels (h : Lk S l v rows lv m) : neD (.loc v) (.lst []) S = some (.bl (!decide (lv = []))) := by
  have hn : now (.loc v) S = .lst (lv.map lvD) := by simp [now, h.v]
  rw [neD_pl (k := 2) (by rw [hn]; exact pl_lvs 0 lv) rfl (by decide), hn]
  cases lv with
  | nil => rw [decide_eq_true (show D.lst (List.map lvD []) = now (.lst []) S from rfl), decide_eq_true (rfl : ([] : List (Nat × Nat × Nat)) = [])]
  | cons x xs => rw [decide_eq_false (show ¬ D.lst (List.map lvD (x :: xs)) = now (.lst []) S from by show ¬ D.lst (lvD x :: List.map lvD xs) = D.lst []; simp), decide_eq_false (by simp : ¬ x :: xs = [])]
def endB (lv : List (Nat × Nat × Nat)) : Bool := match lv.getLast? with
  | none => false
  | some x => decide (x.2.2 = x.2.1)
theorem end_ok (h : Lk S l v rows lv m) : FEnd [.loc l] S = .ok (.bl (endB lv)) S := by
  have eb : ∃ rho, mEnd (frame 1 [.loc l]) S = .ok (.ret (.bl (endB lv))) rho S := by
    rw [show frame 1 [.loc l] = [some (.loc l)] from rfl]
    unfold mEnd
    rcases List.eq_nil_or_concat lv with rfl | ⟨lv', x, rfl⟩
    · simp [h.o, lkF_levels, ne_levels h, endB]
    · rw [List.concat_eq_append] at h
      have a2 : atI [D.int x.1, D.int x.2.1, D.int x.2.2] 2 = some (.int x.2.2) := rfl
      have a1 : atI [D.int x.1, D.int x.2.1, D.int x.2.2] 1 = some (.int x.2.1) := rfl
      have hv := h.v
      have := atI_lv (lv := lv') x
      simp [h.o, lkF_levels, ne_levels h, endB, h.v, this, lv_at, a1, a2, -List.map_append]
      omega
  obtain ⟨rho, eb⟩ := eb
  show finT S (mEnd (frame 1 _) S) = _
  rw [eb]
  exact fin_ret0 rfl
theorem depth_ok (h : Lk S l v rows lv m) : FDepth [.loc l] S = .ok (.int lv.length) S := by
  have eb : ∃ rho, mDepth (frame 1 [.loc l]) S = .ok (.ret (.int lv.length)) rho S := by
    rw [show frame 1 [.loc l] = [some (.loc l)] from rfl]
    unfold mDepth
    simp [h.o, lkF_levels, h.v]
  obtain ⟨rho, eb⟩ := eb
  show finT S (mDepth (frame 1 _) S) = _
  rw [eb]
  exact fin_ret0 rfl
theorem looks_ok (h : Lk S l v rows lv m) : FLooks [.loc l] S = .ok (.int m) S := by
  have eb : ∃ rho, mLooks (frame 1 [.loc l]) S = .ok (.ret (.int m)) rho S := by
    rw [show frame 1 [.loc l] = [some (.loc l)] from rfl]
    unfold mLooks
    simp [h.o, lkF_many, h.v]
  obtain ⟨rho, eb⟩ := eb
  show finT S (mLooks (frame 1 _) S) = _
  rw [eb]
  exact fin_ret0 rfl
theorem key_ok {rs : SM} {lo far at_ : Nat} {row : List Int} {y : Int} (h : Lk S l v rows (lv ++ [(lo, far, at_)]) m) (hne : at_ ≠ far) (hr : rows[at_]? = some row) (hy : row[lv.length]? = some y) : FKey rs [.loc l] S = .ok (.int y) S := by
  have eb : ∃ rho, mKey rs (frame 1 [.loc l]) S = .ok (.ret (.int y)) rho S := by
    rw [show frame 1 [.loc l] = [some (.loc l)] from rfl]
    unfold mKey
    have hE := end_ok h
    have hb : endB (lv ++ [(lo, far, at_)]) = false := by simp [endB, hne]
    have a2 : atI [D.int lo, D.int far, D.int at_] 2 = some (.int at_) := rfl
    have a3 : atI (rows.map rowD) (at_ : Int) = some (rowD row) := atI_nat (by rw [List.getElem?_map, hr]; rfl)
    have a4 : ixD (rowD row) (.int (lv.length : Int)) S = some (.int y) := by
      show atI (row.map D.int) _ = _
      exact atI_nat (by rw [List.getElem?_map, hy]; rfl)
    have a5 := atI_lv (lv := lv) (lo, far, at_)
    have a6 : ((lv.length : Int) + 1 - 1) = lv.length := by omega
    simp [h.o, lkF_levels, lkF_rows, h.v, hE, hb, mth_at_end, a2, a3, a4, a5, a6, lv_at, -List.map_append]
  obtain ⟨rho, eb⟩ := eb
  show finT S (mKey rs (frame 1 _) S) = _
  rw [eb]
  exact fin_ret0 rfl
theorem cutL_take {α : Type} (xs : List α) (k : Nat) : cutL xs none (some (k : Int)) = xs.take k := by
  unfold cutL
  rw [HT.sIx_none, HT.sIx_nat, List.drop_zero, Nat.sub_zero]
  by_cases hk : k ≤ xs.length
  · rw [Nat.min_eq_left hk]
  · rw [Nat.min_eq_right (by omega), List.take_length, List.take_of_length_le (by omega)]
def col (rows : List (List Int)) (k : Nat) : List Int := rows.map fun r => r.getD k 0
theorem col_get {k i : Nat} : (col rows k)[i]? = (rows[i]?).map fun r => r.getD k 0 := List.getElem?_map
theorem lc_col {S : Store} {r0 : Env} (h6 : 6 < r0.length) {mi : EM} {k : Nat} (hi : ∀ d, mi (r0.set 6 (some d)) S = .ok (.int k) S) (rows : List (List Int)) (hw : ∀ r ∈ rows, k < r.length) : lcL (tgN 6) mYes (mBin ixD (mVar 6) mi) r0 (rows.map rowD) S = .ok ((col rows k).map D.int) S := by
  rw [lc_map (fun d => match d with | .tup xs => xs.getD k .non | _ => .non)]
  · congr 1
    rw [col, List.map_map, List.map_map]
    refine List.map_congr_left fun r hr => ?_
    have := hw r hr
    simp [rowD, List.getElem?_eq_getElem this]
  · intro d hd
    obtain ⟨r, hr, rfl⟩ := List.mem_map.mp hd
    have := hw r hr
    refine ⟨_, rfl, ?_⟩
    have e : ixD (rowD r) (.int (k : Int)) S = some (.int r[k]) := by
      show atI (r.map D.int) _ = _
      exact atI_nat (by rw [List.getElem?_map, List.getElem?_eq_getElem this]; rfl)
    simp [h6, hi, e]
    simp [rowD, List.getElem?_eq_getElem this]
theorem behind_ok {lo far at_ fu : Nat} {y : Int} (h : Lk S l v rows (lv ++ [(lo, far, at_)]) m) (hw : ∀ r ∈ rows, lv.length < r.length) (ha : at_ ≤ far) (hf : far ≤ rows.length) (hfu : rows.length < fu) :
    ∃ p : Nat, at_ ≤ p ∧ p ≤ far ∧ (∀ x, at_ < p → (col rows lv.length)[p - 1]? = some x → x < y + 1) ∧ (∀ x, p < far → (col rows lv.length)[p]? = some x → y + 1 ≤ x) ∧ FBehind fu [.loc l, .int y] S = .ok (.int p) S := by
  have hlen : (col (rows.take far) lv.length).length = far := by rw [col, List.length_map, List.length_take]; omega
  have hcol : ∀ i, i < far → (col (rows.take far) lv.length)[i]? = (col rows lv.length)[i]? := fun i hi => by
    rw [col_get, col_get, List.getElem?_take_of_lt hi]
  obtain ⟨p, p1, p2, p3, p4, p5⟩ := first_ok (seq := .lst ((col (rows.take far) lv.length).map D.int)) (row := col (rows.take far) lv.length) (S := S) (b := at_) (fu := fu) (v := y + 1) (by simp) (fun i x hx => by
    show atI _ _ = _
    exact atI_nat (by rw [List.getElem?_map, hx]; rfl)) (by omega) (by omega)
  refine ⟨p, p1, by omega, fun x hp hx => p3 x hp (by rw [hcol _ (by omega)]; exact hx), fun x hp hx => p4 x (by rw [hcol _ hp]; exact hx), ?_⟩
  have eb : ∃ rho, mBehind fu (frame 7 [.loc l, .int y]) S = .ok (.ret (.int p)) rho S := by
    rw [show frame 7 [.loc l, .int y] = [some (.loc l), some (.int y), none, none, none, none, none] from rfl]
    unfold mBehind
    have a5 := atI_lv (lv := lv) (lo, far, at_)
    have a6 : ((lv.length : Int) + 1 - 1) = lv.length := by omega
    have ec := lc_col (S := S) (r0 := [some (.loc l), some (.int y), none, some (.int lo), some (.int far), some (.int at_), none]) (by simp) (mi := (mBin subD (mCall lenD (mCons (mFld "Looker" "levels" (mVar 0)) mNil)) (mC (.int 1)))) (k := lv.length) (fun d => by
      simp [h.o, lkF_levels, h.v, a6]) (rows.take far) (fun r hr => hw r (List.mem_of_mem_take hr))
    simp [h.o, lkF_levels, lkF_rows, h.v, a5, lvD, cutL_take, ec, p5, ← List.map_take, -List.map_append, -mBin_ap]
    simp [h.o, lkF_levels, lkF_rows, h.v, a5, lvD, cutL_take, ec, p5, ← List.map_take, -List.map_append]
  obtain ⟨rho, eb⟩ := eb
  show finT S (mBehind fu (frame 7 _) S) = _
  rw [eb]
  exact fin_ret0 rfl
theorem cloL_lvs (n : Nat) (lv : List (Nat × Nat × Nat)) : cloL n (lv.map lvD) = true := (cloL_iff n _).mpr fun d hd => by
  obtain ⟨r, _, rfl⟩ := List.mem_map.mp hd
  rfl
theorem Lk.set (h : Lk S l v rows lv m) (lv' : List (Nat × Nat × Nat)) (hl : lv'.length ≤ 90000) : Lk (List.set S v (.lst (lv'.map lvD))) l v rows lv' m := by
  have hne : v ≠ l := fun e => by
    have h1 := h.o
    have h2 := h.v
    rw [e, h1] at h2
    cases h2
  exact ⟨by rw [List.getElem?_set_ne hne]; exact h.o, gs h.v _, h.small.1, hl⟩
theorem eq_rows (k : Nat) : eqD (.tup (rows.map rowD)) (.tup []) S = some (.bl (decide (rows = []))) := by
  rw [eqD_pl (k := 2) (by exact pl_rows 0 rows) rfl (by decide)]
  congr 2
  refine decide_eq_decide.mpr ?_
  show D.tup (rows.map rowD) = D.tup [] ↔ _
  simp
theorem opened0_ok {rk rs : SM} {fu : Nat} {row : List Int} {rs' : List (List Int)} (h : Lk S l v (row :: rs') [] m) (hr : row ≠ []) : FOpened rk rs fu [.loc l] S = .ok .non (List.set S v (.lst ([(0, rs'.length + 1, 0)].map lvD))) := by
  have eb : ∃ rho, mOpened rk rs fu (frame 4 [.loc l]) S = .ok .next rho (List.set S v (.lst ([(0, rs'.length + 1, 0)].map lvD))) := by
    rw [show frame 4 [.loc l] = [some (.loc l), none, none, none] from rfl]
    unfold mOpened
    have hE := end_ok h
    have hb : endB [] = false := rfl
    have e1 := eq_rows (S := S) (rows := row :: rs') 0
    have a1 : atI ((row :: rs').map rowD) 0 = some (rowD row) := atI_zero _ _
    have a2 : ∀ S, lenD [rowD row] S = some (.int row.length) := fun S => by simp [rowD]
    have a3 : ¬ (0 : Int) = row.length := by
      have := List.length_pos_iff.mpr hr
      omega
    simp [h.o, lkF_levels, lkF_rows, h.v, hE, hb, mth_at_end, e1, a1, a2, a3, -List.map_cons]
    simp [lvD]
  obtain ⟨rho, eb⟩ := eb
  show finT S (mOpened rk rs fu (frame 4 _) S) = _
  rw [eb]
  exact fin_next_set v _ (cloL_lvs _ _)
theorem opened_ok {rk rs : SM} {lo far at_ fu : Nat} {row0 row : List Int} {y : Int} (h : Lk S l v rows (lv ++ [(lo, far, at_)]) m) (h0 : rows[0]? = some row0) (hd : lv.length + 1 < row0.length) (hne : at_ ≠ far) (ha : at_ ≤ far) (hf : far ≤ rows.length)
    (hw : ∀ r ∈ rows, lv.length < r.length) (hr : rows[at_]? = some row) (hy : row[lv.length]? = some y) (hfu : rows.length < fu) :
    ∃ p : Nat, at_ ≤ p ∧ p ≤ far ∧ (∀ x, at_ < p → (col rows lv.length)[p - 1]? = some x → x < y + 1) ∧ (∀ x, p < far → (col rows lv.length)[p]? = some x → y + 1 ≤ x) ∧
    FOpened rk rs fu [.loc l] S = .ok .non (List.set S v (.lst ((lv ++ [(lo, far, at_), (at_, p, at_)]).map lvD))) := by
  obtain ⟨p, p1, p2, p3, p4, p5⟩ := behind_ok (y := y) h hw ha hf hfu
  refine ⟨p, p1, p2, p3, p4, ?_⟩
  have eb : ∃ rho, mOpened rk rs fu (frame 4 [.loc l]) S = .ok .next rho (List.set S v (.lst ((lv ++ [(lo, far, at_), (at_, p, at_)]).map lvD))) := by
    rw [show frame 4 [.loc l] = [some (.loc l), none, none, none] from rfl]
    unfold mOpened
    have hE := end_ok h
    have hb : endB (lv ++ [(lo, far, at_)]) = false := by simp [endB, hne]
    have e1 := eq_rows (S := S) (rows := rows) 0
    have e2 : ¬ rows = [] := fun e => by rw [e] at h0; cases h0
    have a1 : atI (rows.map rowD) 0 = some (rowD row0) := atI_nat (j := 0) (by rw [List.getElem?_map, h0]; rfl)
    have a2 : ∀ S, lenD [rowD row0] S = some (.int row0.length) := fun S => by simp [rowD]
    have a3 : ¬ (lv.length : Int) + 1 = row0.length := by omega
    have a5 := atI_lv (lv := lv) (lo, far, at_)
    have hk := key_ok (rs := rk) h hne hr hy
    have hs : lv.length + 1 < 100000 := by
      have := h.small.2
      simp at this
      omega
    have a6 : (List.map lvD (lv ++ [(lo, far, at_)])).isEmpty = false := by simp
    simp [h.o, lkF_levels, lkF_rows, h.v, hE, hb, mth_at_end, mth_key, mth_behind, e1, e2, a1, a2, a3, a5, a6, hk, p5, hs, -List.map_append]
    simp [lvD, p5, h.o, h.v, lkF_levels, hs, mth_behind, mth_key, hk]
  obtain ⟨rho, eb⟩ := eb
  show finT S (mOpened rk rs fu (frame 4 _) S) = _
  rw [eb]
  exact fin_next_set v _ (cloL_lvs _ _)
theorem up_ok {rs : SM} {x : Nat × Nat × Nat} (h : Lk S l v rows (lv ++ [x]) m) : FUp rs [.loc l] S = .ok .non (List.set S v (.lst (lv.map lvD))) := by
  have eb : ∃ rho, mUp rs (frame 1 [.loc l]) S = .ok .next rho (List.set S v (.lst (lv.map lvD))) := by
    rw [show frame 1 [.loc l] = [some (.loc l)] from rfl]
    unfold mUp
    have a6 : (List.map lvD (lv ++ [x])).isEmpty = false := by simp
    simp [h.o, lkF_levels, h.v, a6, -List.map_append]
    simp
  obtain ⟨rho, eb⟩ := eb
  show finT S (mUp rs (frame 1 _) S) = _
  rw [eb]
  exact fin_next_set v _ (cloL_lvs _ _)
theorem place0_ok (h : Lk S l v rows [] m) : FPlace [.loc l] S = .ok (.tup []) S := by
  have eb : ∃ rho, mPlace (frame 1 [.loc l]) S = .ok (.ret (.tup [])) rho S := by
    rw [show frame 1 [.loc l] = [some (.loc l)] from rfl]
    unfold mPlace
    simp [h.o, lkF_levels, h.v]
  obtain ⟨rho, eb⟩ := eb
  show finT S (mPlace (frame 1 _) S) = _
  rw [eb]
  exact fin_ret0 rfl
theorem place_ok {lo far at_ : Nat} {row : List Int} (h : Lk S l v rows (lv ++ [(lo, far, at_)]) m) (hne : at_ ≠ far) (hr : rows[at_]? = some row) : FPlace [.loc l] S = .ok (rowD (row.take (lv.length + 1))) S := by
  have eb : ∃ rho, mPlace (frame 1 [.loc l]) S = .ok (.ret (rowD (row.take (lv.length + 1)))) rho S := by
    rw [show frame 1 [.loc l] = [some (.loc l)] from rfl]
    unfold mPlace
    have hE := end_ok h
    have hb : endB (lv ++ [(lo, far, at_)]) = false := by simp [endB, hne]
    have a2 : atI [D.int lo, D.int far, D.int at_] 2 = some (.int at_) := rfl
    have a3 : atI (rows.map rowD) (at_ : Int) = some (rowD row) := atI_nat (by rw [List.getElem?_map, hr]; rfl)
    have a5 := atI_lv (lv := lv) (lo, far, at_)
    have a6 : (List.map lvD (lv ++ [(lo, far, at_)])).isEmpty = false := by simp
    have a7 : slD (rowD row) none (some ((lv.length : Int) + 1)) S = some (rowD (row.take (lv.length + 1))) := by
      show some (D.tup (cutL (row.map D.int) none (some ((lv.length + 1 : Nat) : Int)))) = _
      rw [cutL_take, rowD, List.map_take]
    simp [h.o, lkF_levels, lkF_rows, h.v, hE, hb, mth_at_end, a2, a3, a5, a6, a7, lv_at, -List.map_append]
  obtain ⟨rho, eb⟩ := eb
  show finT S (mPlace (frame 1 _) S) = _
  rw [eb]
  exact fin_ret0 (cloL_ints _ _)
theorem makeL_ok (S : Store) (rows : List (List Int)) (hr : rows.length ≤ 90000) : FInitL [.loc S.length, .tup (rows.map rowD)] (S ++ [.ins "Looker" []]) = .ok .non (S ++ [.ins "Looker" (lkF rows (S.length + 1) 0), .lst []]) ∧ Lk (S ++ [.ins "Looker" (lkF rows (S.length + 1) 0), .lst []]) S.length (S.length + 1) rows [] 0 := by
  constructor
  · show finK (mInitL (frame 2 _) _) = _
    rw [show frame 2 [.loc S.length, .tup (rows.map rowD)] = [some (.loc S.length), some (.tup (rows.map rowD))] from rfl]
    unfold mInitL
    have n1 : ¬ (Str.ofString "rows" = Str.ofString "levels") := by decide
    have n2 : ¬ (Str.ofString "rows" = Str.ofString "many") := by decide
    have n3 : ¬ (Str.ofString "levels" = Str.ofString "many") := by decide
    simp [putFD, finK, lkF, n1, n2, n3, List.getElem?_append, List.set_append]
  · exact ⟨by simp, by simp, by omega, by simp⟩
end
end Dv
set_option maxHeartbeats 4000000
namespace Dv
open PySem PySem.Spec PyProof.Rows L2
abbrev nset (w : World) : Obj := { cls := .type "set", dict := none, data := .set #[] 0 (.fresh 0 0 (!w.params.followText "set-order")) }
abbrev liter (l : Addr) : Obj := { cls := .type "list_iterator", data := .fields #[.ref l, .int 0 0] }
section
variable {P : Program} {w : World} {A : Around} {E : Value → Shared → Prop} {s : Shared}
theorem set_of_list {l : Addr} {xs : Array Value} {Q : Value → Shared → Prop} (G : Heap → Prop) (hl : s.heap.IsList l xs)
    (lp : ∀ R : Result → Shared → Prop, (∀ h' tk, G h' → (∀ b o, s.heap.get? b = some o → h'.get? b = some o) → R (.ok (.ret .none)) { s with heap := h', toks := tk }) →
      ((s.heap.push (nset w)).push (liter l)).IsList l xs → codeAny (model P w) A.in1.in1 (.builtin "set.update.loop" ⟨[.ref s.heap.objs.size, .ref (s.heap.objs.size + 1)], []⟩) R { s with heap := (s.heap.push (nset w)).push (liter l) })
    (fin : ∀ h' tk, G h' → (∀ b o, s.heap.get? b = some o → h'.get? b = some o) → Q (.ref s.heap.objs.size) { s with heap := h', toks := tk }) : wpAny (model P w) A (call (.type "set") [.ref l]) Q E s := by
  obtain ⟨cc, tt, hmro⟩ := F.called_set.mro
  have k1 := F.called_set.made
  have k2 := F.called_set.sub
  refine wpAny_call (codeAny_of_tree ?_)
  show wpAny _ _ (callAny (.type "set") _) _ _ _
  refine wpAny_pure ⟨Code.quiet_builtin _ (by decide +kernel), codeAny_builtin F.entry_type_call ?_⟩
  rw [Around.under_plain (weight_type_call_type "set" [.ref l] []) rfl]
  have k3 := F.called_set.notType
  have k4 := F.called_set.canCreate
  have k5 := F.typeCall_set_1 (.ref l)
  repeat (any_goals (first | assumption | wp_step))
  have e0 : (s.heap.push (nset w)).get? s.heap.objs.size = some (nset w) := Heap.get?_push_size _ rfl
  refine codeAny_mono (code_set_led1 (.ref l) (E := E) (Q₁ := fun v u => v = .ref s.heap.objs.size ∧ u = { s with heap := s.heap.push (nset w) }) ⟨rfl, rfl⟩) fun r u hr => ?_
  cases r with
  | error e => exact hr
  | ok fl =>
    cases fl with
    | ret obj =>
      obtain ⟨rfl, rfl⟩ := hr
      have ty : Shared.TypeIs { s with heap := s.heap.push (nset w) } (.ref s.heap.objs.size) "set" := ⟨_, e0, rfl⟩
      have k6 := F.called_set.init.lookup
      have k7 := F.called_set.init.bind (.ref s.heap.objs.size)
      repeat (any_goals (first | assumption | wp_step))
      refine codeAny_mono (codeAny_call_builtin (R := wants (fun r u => r = .none ∧ ∃ h' tk, u = { s with heap := h', toks := tk } ∧ G h' ∧ ∀ b o, s.heap.get? b = some o → h'.get? b = some o) E) F.called_set.init.plain F.entry_set_init (check_set_init_1 ty ?_)) fun r2 u2 hr2 => ?_
      · obtain ⟨ol, hol, hcl, nl, hdl⟩ := hl
        obtain ⟨ocls, odict, odata, oslots⟩ := ol
        simp only at hcl hdl
        subst hcl; subst hdl
        have there : (s.heap.push (nset w)).get? l = some { cls := .type "list", dict := odict, data := .seq xs nl, slots := oslots } := Heap.get?_push_of_some _ hol
        have k8 := F.sub_list_set
        have k9 := F.sub_list_frozenset
        have k10 : (Value.type "list" == Value.type "dict") = false := by decide
        have isl : (s.heap.push (nset w)).IsList l xs := ⟨_, there, rfl, nl, rfl⟩
        unfold Builtin.«set.__init__» noKeywords Builtin.Frozenset.updateFrom
        generalize hPI : pyIter = PI
        wp_walk
        subst hPI
        refine wpAny_pyIter_list isl ?_
        refine wpAny_bind (wpAny_runValue ?_)
        have sz : (s.heap.push (nset w)).objs.size = s.heap.objs.size + 1 := Heap.size_push ..
        rw [sz]
        refine lp _ (fun h' tk g k => ?_) (isl.push _)
        show wpAny _ _ _ _ _ _
        refine wpAny_pure ?_
        show wpAny _ _ (ret Value.none) _ _ _
        exact wpAny_pure ⟨rfl, h', tk, rfl, g, k⟩
      · cases r2 with
        | error e => exact hr2
        | ok f2 =>
          cases f2 with
          | ret r =>
            obtain ⟨rfl, h', tk, rfl, g, k⟩ := hr2
            repeat (any_goals (first | assumption | wp_step))
            exact fin h' tk g k
          | _ => exact hr2.elim
    | _ => exact hr.elim
theorem set_of_ints {l : Addr} {xs : Array Value} (ns : List Int) {Q : Value → Shared → Prop} (hh : A.handled = none) (hl : s.heap.IsList l xs) (hi : IntsAre xs.toList ns) (hb : ns.length + 1 < scanBound)
    (fin : ∀ h' tk c, SetR w h' s.heap.objs.size (fun j => decide (j ∈ ns)) c → c ≤ ns.length → (∀ b o, s.heap.get? b = some o → h'.get? b = some o) → Q (.ref s.heap.objs.size) { s with heap := h', toks := tk }) : wpAny (model P w) A (call (.type "set") [.ref l]) Q E s := by
  have hsz : xs.size = ns.length := by
    have q := IntsAre.length hi
    rw [Array.length_toList] at q
    exact q
  have hlS : l < s.heap.objs.size := by
    obtain ⟨o, ho, _⟩ := hl
    exact Heap.lt_size ho
  refine set_of_list (fun h' => ∃ c, SetR w h' s.heap.objs.size (fun j => decide (j ∈ ns)) c ∧ c ≤ ns.length) hl (fun R hR isl => ?_) fun h' tk ⟨c, h1, h2⟩ k => fin h' tk c h1 h2 k
  have sz : (s.heap.push (nset w)).objs.size = s.heap.objs.size + 1 := Heap.size_push ..
  have hne : l ≠ s.heap.objs.size + 1 := Nat.ne_of_lt (Nat.lt_succ_of_lt hlS)
  have hnf : s.heap.objs.size ∉ [s.heap.objs.size + 1, l] := by
    simp only [List.mem_cons, List.not_mem_nil, or_false, not_or]
    exact ⟨Nat.ne_of_lt (Nat.lt_succ_self _), Nat.ne_of_gt hlS⟩
  have vals : ∀ (i : Nat) (v : Value), xs[i]? = some v → ∃ k t, ns[i]? = some k ∧ v = .int k t := fun i v hv => by
    have h1 : i < ns.length := by rw [← hsz]; exact (Array.getElem?_eq_some_iff.mp hv).1
    obtain ⟨t, e⟩ := PyProof.Rows.IntsAre.int_at hi i v (by rw [Array.getElem?_toList]; exact hv)
    refine ⟨ns[i], t, List.getElem?_eq_getElem h1, ?_⟩
    rw [e, List.getD_eq_getElem?_getD, List.getElem?_eq_getElem h1] <;> rfl
  have h3 : A.in1.in1.in1.handled = none := by simp [hh]
  have git : ((s.heap.push (nset w)).push (liter l)).get? (s.heap.objs.size + 1) = some (liter l) := by
    rw [← sz]
    exact Heap.get?_push_size _ rfl
  refine set_update_ints ((Walks.list h3 (s.heap.objs.size + 1) l hne xs).toS) s.heap.objs.size hnf ns hsz hb vals (xs.size - 0) 0 _ (by omega) (Nat.zero_le _) ⟨⟨_, git, rfl, rfl⟩, isl⟩ ⟨0, Nat.le_refl 0, setR_new_at (Heap.get?_push_of_some _ (Heap.get?_push_size _ rfl))⟩ fun s' c hm hc hS => ?_
  obtain ⟨h', g2, d', tk', os'⟩ := s'
  have eg : g2 = s.gens := hm.gens
  have ed : d' = s.drawn := hm.drawn
  have eo : os' = s.os := hm.os
  subst eg; subst ed; subst eo
  refine hR h' tk' ⟨c, hS, by omega⟩ fun b o e => ?_
  have hb0 : b < s.heap.objs.size := Heap.lt_size e
  exact hm.heap b o (by simp only [List.mem_cons, List.not_mem_nil, or_false, not_or]; exact ⟨Nat.ne_of_lt hb0, Nat.ne_of_lt (Nat.lt_succ_of_lt hb0)⟩) (Heap.get?_push_of_some _ (Heap.get?_push_of_some _ e))
end
end Dv
namespace Dv
open PySem PySem.Spec PyProof.Rows L2
section
variable {X : Cx}
def rSetI (K : PySem.W.Frag) (w : World) : List V → Hp → VK → Prop := fun vs H Q => ∃ (l : Addr) (ns : List Int), vs = [.ref l] ∧ SqL K H l (ns.map V.int) ∧ ns.length ≤ 1000 ∧ ∀ (a : Addr) (c : Nat), H a = none → c ≤ ns.length → Q (.ref a) (upd H a (SetO w a (fun j => decide (j ∈ ns)) c))
theorem cr_setI (hc : X.calm = true) : CallR X (.type "set") (rSetI X.K X.w) := by
  intro pins s σ H vs us Q I r h
  obtain ⟨l, ns, rfl, hl, hz, q⟩ := h
  rw [Vals.ref1 r]
  obtain ⟨its, rv, pl, _⟩ := I.list hl
  have hn : H s.heap.objs.size = none := I.hok.fresh (Nat.le_refl _)
  refine set_of_ints (P := X.prog) (w := X.w) ns (I.ok.hd hc) pl.isList (by simpa using ints_of_vals rv) (by unfold scanBound; omega) fun h' tk c R hcn k => ?_
  exact ⟨.ref s.heap.objs.size, upd H s.heap.objs.size (SetO X.w s.heap.objs.size (fun j => decide (j ∈ ns)) c), I.laid (t' := tk) k (Nat.le_refl _) (setO_new R), rfl, q _ c hn hcn⟩
theorem j_callBT {Wx : WX} {ms : AM} {es : List Expr} {x y : Str} {p p' pos pos' : Pos} {e : Expr} {id id' : String} {r r' : List V → Hp → VK → Prop} {f : List D → Store → Option D} (hc' : CallR X (.builtin id') r') (hc : CallR X (.type id) r)
    (hf : POk X.K X.mg (fun vs H Q => r vs H fun v H1 => r' [v] H1 Q) f) (hg' : Gl X y) (hm' : X.mg y = none) (hv' : bootBuiltins y = some (.builtin id')) (hg : Gl X x) (hm : X.mg x = none) (hv : bootBuiltins x = some (.type id)) (ha : PA X (e :: es) (tDA X.K X.mg Wx ms))
    (hn' : y ≠ "__name__" := by decide) (hdb' : (y == ("__debug__" : Str)) = false := by decide) (hn : x ≠ "__name__" := by decide) (hdb : (x == ("__debug__" : Str)) = false := by decide)
    (he : starEach (e :: es) X.env = (false, eval e X.env) :: starEach es X.env := by rfl) (hpl : (backTo pos (starEach es X.env)).any (·.1) = false := by rfl) :
    PE X (.Call (.Name y p') [.Call (.Name x p) (e :: es) [] pos] [] pos') (tD X.K X.mg Wx (mCall f ms)) :=
  pe_imp (pe_callB hc' hg' hm' hv' (pa_cons (pe_callTy hc hg hm hv ha hn hdb he hpl) pa_nil) hn' hdb') fun g H Q h => tCB_of hf g H Q h
end
theorem strict_ext {α : Type} {lt : α → α → Bool} (O : SrtO.Swo lt) : ∀ {a b : List α}, (a.Pairwise fun x y => lt x y = true) → (b.Pairwise fun x y => lt x y = true) → (∀ x, x ∈ a ↔ x ∈ b) → a = b
  | [], [], _, _, _ => rfl
  | [], y :: ys, _, _, h => absurd ((h y).mpr List.mem_cons_self) (by intro h; cases h)
  | x :: xs, [], _, _, h => absurd ((h x).mp List.mem_cons_self) (by intro h; cases h)
  | x :: xs, y :: ys, h1, h2, h => by
    rw [List.pairwise_cons] at h1 h2
    have e : x = y := by
      have hx := (h x).mp List.mem_cons_self
      have hy := (h y).mpr List.mem_cons_self
      rcases List.mem_cons.mp hx with e | e
      · exact e
      · rcases List.mem_cons.mp hy with e2 | e2
        · exact e2.symm
        · have q1 := h2.1 x e
          have q2 := h1.1 y e2
          rw [O.asym _ _ q1] at q2
          cases q2
    subst e
    have nx : x ∉ xs := fun m => by
      have q := h1.1 x m
      rw [O.refl x] at q
      cases q
    have ny : x ∉ ys := fun m => by
      have q := h2.1 x m
      rw [O.refl x] at q
      cases q
    refine congrArg (x :: ·) (strict_ext O h1.2 h2.2 fun z => ?_)
    constructor
    · intro m
      rcases List.mem_cons.mp ((h z).mp (List.mem_cons_of_mem _ m)) with e | e
      · subst e
        exact absurd m nx
      · exact e
    · intro m
      rcases List.mem_cons.mp ((h z).mpr (List.mem_cons_of_mem _ m)) with e | e
      · subst e
        exact absurd m ny
      · exact e
theorem ltI_tri (a b : Int) (h1 : ltI a b = false) (h2 : ltI b a = false) : a = b := by
  have := of_decide_eq_false h1
  have := of_decide_eq_false h2
  omega
def dedL {α : Type} [DecidableEq α] : List α → List α
  | [] => []
  | x :: xs => if x ∈ dedL xs then dedL xs else x :: dedL xs
theorem mem_dedL {α : Type} [DecidableEq α] (z : α) : ∀ xs : List α, z ∈ dedL xs ↔ z ∈ xs
  | [] => Iff.rfl
  | x :: xs => by
    have ih := mem_dedL z xs
    unfold dedL
    split
    · rename_i h
      rw [ih, List.mem_cons]
      refine ⟨.inr, fun q => ?_⟩
      rcases q with rfl | q
      · exact (mem_dedL z xs).mp h
      · exact q
    · rw [List.mem_cons, List.mem_cons, ih]
theorem nodup_dedL {α : Type} [DecidableEq α] : ∀ xs : List α, (dedL xs).Nodup
  | [] => List.nodup_nil
  | x :: xs => by
    unfold dedL
    split
    · exact nodup_dedL xs
    · rename_i h
      exact List.nodup_cons.mpr ⟨h, nodup_dedL xs⟩
def ssI (ns : List Int) : List Int := sortL ltI (dedL ns)
theorem mem_ssI {z : Int} {ns : List Int} : z ∈ ssI ns ↔ z ∈ ns := by
  unfold ssI
  rw [(sortL_perm _).mem_iff, mem_dedL]
theorem ssI_strict (ns : List Int) : (ssI ns).Pairwise (· < ·) := (sortL_strict ltI_swo ltI_tri (nodup_dedL ns)).imp fun {x y} h => of_decide_eq_true h
theorem ssI_ext {a ns : List Int} (h : a.Pairwise (· < ·)) (m : ∀ z, z ∈ a ↔ z ∈ ns) : a = ssI ns :=
  strict_ext ltI_swo (h.imp fun {x y} h => decide_eq_true h) (sortL_strict ltI_swo ltI_tri (nodup_dedL ns)) fun z => by
    rw [m z]
    exact mem_ssI.symm
def sortSetD (ds : List D) (S : Store) : Option D := match ds with
  | [.lst xs] => match intsOf xs with
    | some ns => if ns.length < 64 then some (.lst ((ssI ns).map D.int)) else none
    | none => none
  | _ => none
theorem sortSetD_ints {S : Store} {ns : List Int} (h : ns.length < 64) : sortSetD [.lst (ns.map D.int)] S = some (.lst ((ssI ns).map D.int)) := by
  show (match intsOf (ns.map D.int) with
    | some ns => if ns.length < 64 then some (D.lst ((ssI ns).map D.int)) else none
    | none => none) = _
  rw [intsOf_map]
  exact if_pos h
theorem pok_sortSet {K : PySem.W.Frag} {mg : Str → Option Value} {w : World} : POk K mg (fun vs H Q => rSetI K w vs H fun v H1 => rSortedSet w [v] H1 Q) sortSetD := fun T S H vs ds d Q sim rep e k => by
  unfold sortSetD at e
  split at e
  · rename_i xs
    split at e
    · rename_i ns hi
      split at e
      · rename_i h64
        cases e
        have hx := intsOf_some hi
        subst hx
        cases rep with
        | cons r1 rt =>
          cases rt
          cases r1 with
          | @lst a vs' _ hH off rl =>
            have hv := rl.of_ints
            subst hv
            refine ⟨a, ns, rfl, .inl (.inl hH), by omega, fun p c hp hc => ⟨p, _, c, rfl, upd_same .., by omega, fun ms q hs hm hl hq => ?_⟩⟩
            have em : ms = ssI ns := ssI_ext hs fun z => by rw [hm z, decide_eq_true_eq]
            subst em
            have st1 := sim.stepNew (o := SetO w p (fun j => decide (j ∈ ns)) c) hp
            have sim1 := sim.new (o := SetO w p (fun j => decide (j ∈ ns)) c) hp (hlen_oth sim.hl fun xs => ⟨(by intro z; cases z), (by intro z; cases z), (by intro x z; cases z), (by intro x z; cases z)⟩)
            have hlen : (List.map V.int (ssI ns)).length ≤ sizeLine := by rw [List.length_map, hl, sizeLine_eq]; omega
            exact k _ (.ref q) (st1.trans (sim1.stepNew hq)) (sim1.new hq (hlen_lst sim1.hl hlen)) (.lst (upd_same ..) (sim1.off hq) (RepL.ints _))
      · cases e
    · cases e
  · cases e
end Dv
namespace Dv
open PySem L2
section
variable (K : PySem.W.Frag) (mg : Str → Option Value)
end
def newO (o : Option (List D)) (S : Store) : R D := match o with
  | some ds => .ok (.loc S.length) (S ++ [.lst ds])
  | none => .bad
def mBinN (f : D → D → Store → Option (List D)) (ma mb : EM) : EM := fun r S => (ma r S).bind fun a S1 => (mb r S1).bind fun b S2 => newO (f a b S2) S2
def mCallN (f : List D → Store → Option (List D)) (ms : AM) : EM := fun r S => (ms r S).bind fun ds S1 => newO (f ds S1) S1
@[simp] theorem newO_some (ds : List D) (S : Store) : newO (some ds) S = .ok (.loc S.length) (S ++ [.lst ds]) := rfl
@[simp] theorem mBinN_ap {f : D → D → Store → Option (List D)} {ma mb : EM} {r : Env} {S : Store} : mBinN f ma mb r S = (ma r S).bind fun a S1 => (mb r S1).bind fun b S2 => newO (f a b S2) S2 := rfl
@[simp] theorem mCallN_ap {f : List D → Store → Option (List D)} {ms : AM} {r : Env} {S : Store} : mCallN f ms r S = (ms r S).bind fun ds S1 => newO (f ds S1) S1 := rfl
section
variable {X : Cx} {Wx : WX} {a b : Expr} {es : List Expr} {pos : Pos} {ma mb : EM} {ms : AM}
end
def lstAt (d : D) (S : Store) : Option (List D) := match d with
  | .lst xs => some xs
  | .loc n => match S[n]? with
    | some (.lst xs) => some xs
    | _ => none
  | _ => none
@[simp] theorem lstAt_lst (xs : List D) (S : Store) : lstAt (.lst xs) S = some xs := rfl
@[simp] theorem lstAt_loc (n : Nat) (S : Store) : lstAt (.loc n) S = (match S[n]? with
    | some (.lst xs) => some xs
    | _ => none) := rfl
section
variable {K : PySem.W.Frag} {mg : Str → Option Value} {T : Tb} {S : Store} {H : Hp}
end
section
variable {K : PySem.W.Frag} {mg : Str → Option Value}
theorem fn_bad {P : Program} {w : World} {base : Heap} {CX : CXT} {k : Nat} {f : Addr} {fd : FuncData} {ps : List Str} : FnOk P w K mg base CX k f fd ps (spD K mg ps.length fun _ _ => .bad) := by
  refine ⟨fun vs H Q E q => q.1, fun A outer s H args us vs Q E hr he hb hv hs => ?_⟩
  obtain ⟨hl, T, S, ds, rep, sim, out⟩ := hs
  exact out.elim
end
end Dv
namespace Dv
open PySem L2
theorem ltR_cons (x y : Int) (xs ys : List Int) : ltR (x :: xs) (y :: ys) = if x = y then ltR xs ys else decide (x < y) := rfl
theorem lt_col : ∀ (a b : List Int) (k : Nat), a.take k = b.take k → k < a.length → k < b.length → ltR a b = true → a.getD k 0 ≤ b.getD k 0
  | x :: xs, y :: ys, 0, _, _, _, h => by
    rw [ltR_cons] at h
    show x ≤ y
    by_cases e : x = y
    · omega
    · rw [if_neg e] at h
      have := of_decide_eq_true h
      omega
  | x :: xs, y :: ys, k + 1, e, h1, h2, h => by
    rw [List.take_succ_cons, List.take_succ_cons, List.cons.injEq] at e
    rw [ltR_cons, if_pos e.1] at h
    exact lt_col xs ys k e.2 (Nat.lt_of_succ_lt_succ h1) (Nat.lt_of_succ_lt_succ h2) h
  | [], _, _, _, h, _, _ => absurd h (Nat.not_lt_zero _)
  | _, [], _, _, _, h, _ => absurd h (Nat.not_lt_zero _)
theorem take_snoc (a : List Int) (k : Nat) (h : k < a.length) : a.take (k + 1) = a.take k ++ [a.getD k 0] := by
  rw [List.take_add_one, List.getElem?_eq_getElem h, List.getD_eq_getElem?_getD, List.getElem?_eq_getElem h]
  rfl
structure Tab (rows : List (List Int)) (w : Nat) : Prop where
  wd : ∀ r ∈ rows, r.length = w
  srt : rows.Pairwise fun a b => ltR a b = true
def tk (rows : List (List Int)) (d i : Nat) : List Int := (rows.getD i []).take d
def cl (rows : List (List Int)) (k i : Nat) : Int := (rows.getD i []).getD k 0
section
variable {rows : List (List Int)} {w : Nat}
theorem getD_lt {i : Nat} (h : i < rows.length) : rows.getD i [] = rows[i] := by
  rw [List.getD_eq_getElem?_getD, List.getElem?_eq_getElem h]
  rfl
theorem Tab.len (T : Tab rows w) {i : Nat} (h : i < rows.length) : (rows.getD i []).length = w := by
  rw [getD_lt h]
  exact T.wd _ (List.getElem_mem h)
theorem Tab.lt (T : Tab rows w) {i j : Nat} (hij : i < j) (hj : j < rows.length) : ltR (rows.getD i []) (rows.getD j []) = true := by
  rw [getD_lt hj, getD_lt (Nat.lt_trans hij hj)]
  exact (List.pairwise_iff_getElem.mp T.srt) i j (Nat.lt_trans hij hj) hj hij
theorem cl_mono (T : Tab rows w) {k i j : Nat} (hk : k < w) (hij : i ≤ j) (hj : j < rows.length) (e : tk rows k i = tk rows k j) : cl rows k i ≤ cl rows k j := by
  rcases Nat.lt_or_eq_of_le hij with h | h
  · exact lt_col _ _ k e (by rw [T.len (by omega)]; exact hk) (by rw [T.len hj]; exact hk) (T.lt h hj)
  · subst h
    exact Int.le_refl _
theorem tk_succ (T : Tab rows w) {k i : Nat} (hk : k < w) (hi : i < rows.length) : tk rows (k + 1) i = tk rows k i ++ [cl rows k i] := take_snoc _ k (by rw [T.len hi]; exact hk)
theorem tk_succ_iff (T : Tab rows w) {k i j : Nat} (hk : k < w) (hi : i < rows.length) (hj : j < rows.length) : tk rows (k + 1) i = tk rows (k + 1) j ↔ tk rows k i = tk rows k j ∧ cl rows k i = cl rows k j := by
  rw [tk_succ T hk hi, tk_succ T hk hj]
  constructor
  · intro h
    have := List.append_inj h (by rw [tk, tk, List.length_take, List.length_take, T.len hi, T.len hj])
    exact ⟨this.1, by simpa using this.2⟩
  · intro h
    rw [h.1, h.2]
structure Blk (rows : List (List Int)) (k lo far : Nat) : Prop where
  lt : lo < far
  le : far ≤ rows.length
  iff : ∀ i, i < rows.length → (tk rows k i = tk rows k lo ↔ lo ≤ i ∧ i < far)
structure St (rows : List (List Int)) (k : Nat) (x : Nat × Nat × Nat) : Prop where
  blk : Blk rows k x.1 x.2.1
  lo : x.1 ≤ x.2.2
  hi : x.2.2 ≤ x.2.1
  gs : x.2.2 < x.2.1 → ∀ i, x.1 ≤ i → i < x.2.2 → cl rows k i < cl rows k x.2.2
theorem Blk.top (T : Tab rows w) (h : rows ≠ []) : Blk rows 0 0 rows.length := ⟨List.length_pos_iff.mpr h, Nat.le_refl _, fun i hi => ⟨fun _ => ⟨Nat.zero_le _, hi⟩, fun _ => rfl⟩⟩
theorem Blk.tk {k lo far i : Nat} (b : Blk rows k lo far) (h1 : lo ≤ i) (h2 : i < far) : Dv.tk rows k i = Dv.tk rows k lo := (b.iff i (Nat.lt_of_lt_of_le h2 b.le)).mpr ⟨h1, h2⟩
theorem Blk.mono (T : Tab rows w) {k lo far i j : Nat} (b : Blk rows k lo far) (hk : k < w) (h1 : lo ≤ i) (h2 : i ≤ j) (h3 : j < far) : cl rows k i ≤ cl rows k j :=
  cl_mono T hk h2 (Nat.lt_of_lt_of_le h3 b.le) ((b.tk h1 (Nat.lt_of_le_of_lt h2 h3)).trans (b.tk (Nat.le_trans h1 h2) h3).symm)
theorem Blk.sub (T : Tab rows w) {k lo far at_ p : Nat} (b : Blk rows k lo far) (hk : k < w) (h1 : lo ≤ at_) (h2 : at_ < far) (hp : p ≤ far) (hap : at_ < p) (gs : ∀ i, lo ≤ i → i < at_ → cl rows k i < cl rows k at_) (h3 : ∀ i, at_ ≤ i → i < p → cl rows k i ≤ cl rows k at_)
    (h4 : ∀ i, p ≤ i → i < far → cl rows k at_ < cl rows k i) : Blk rows (k + 1) at_ p := by
  refine ⟨hap, Nat.le_trans hp b.le, fun i hi => ?_⟩
  have hat : at_ < rows.length := Nat.lt_of_lt_of_le h2 b.le
  rw [tk_succ_iff T hk hi hat]
  constructor
  · rintro ⟨e1, e2⟩
    have e1' := e1.trans (b.tk h1 h2)
    obtain ⟨q1, q2⟩ := (b.iff i hi).mp e1'
    constructor
    · rcases Nat.lt_or_ge i at_ with h | h
      · have := gs i q1 h
        omega
      · exact h
    · rcases Nat.lt_or_ge i p with h | h
      · exact h
      · have := h4 i h q2
        omega
  · rintro ⟨q1, q2⟩
    refine ⟨(b.tk (Nat.le_trans h1 q1) (by omega)).trans (b.tk h1 h2).symm, ?_⟩
    have e1 := h3 i q1 q2
    have e2 := b.mono T hk h1 q1 (by omega)
    omega
end
end Dv
namespace Dv
open PySem L2
def mGoto : SM :=
    (sSeq (sAsg (mBin ixD (mFld "Looker" "levels" (mVar 0)) (mUn negD (mC (.int 1)))) (tgT 3 (tgsCons (tgN 2) (tgsCons (tgN 3) (tgsCons (tgN 4) tgsNil)))))
    (sSeq (sSetIx (mFld "Looker" "levels" (mVar 0)) (mUn negD (mC (.int 1))) (mTup (mCons (mVar 2) (mCons (mVar 3) (mCons (mVar 1) mNil)))))
    (sFldAugD "Looker" "many" (fun i j => i + j) (mVar 0) (mC (.int 1)))))
noncomputable def FGoto : List D → Store → R D := runT 5 mGoto
noncomputable def mReach (rk : SM) (fu : Nat) : SM :=
    (sIf (mT (mBin ltD (mMeth "Looker" "key" 1 (FKey rk) (mVar 0) mNil) (mVar 1))) (sDrop (mMeth "Looker" "go_to" 2 FGoto (mVar 0) (mCons (mMeth "Looker" "behind" 2 (FBehind fu) (mVar 0) (mCons (mBin subD (mVar 1) (mC (.int 1))) mNil)) mNil))) (sDrop (mMeth "Looker" "go_to" 2 FGoto (mVar 0) (mCons (mBin ixD (mBin ixD (mFld "Looker" "levels" (mVar 0)) (mUn negD (mC (.int 1)))) (mC (.int 2))) mNil))))
noncomputable def FReach (rk : SM) (fu : Nat) : List D → Store → R D := runT 2 (mReach rk fu)
noncomputable def mFurther (rk : SM) (fu : Nat) : SM :=
    (sDrop (mMeth "Looker" "go_to" 2 FGoto (mVar 0) (mCons (mMeth "Looker" "behind" 2 (FBehind fu) (mVar 0) (mCons (mMeth "Looker" "key" 1 (FKey rk) (mVar 0) mNil) mNil)) mNil)))
noncomputable def FFurther (rk : SM) (fu : Nat) : List D → Store → R D := runT 1 (mFurther rk fu)
section
variable {S : Store} {l v : Nat} {rows : List (List Int)} {lv : List (Nat × Nat × Nat)} {m : Int} {w : Nat}
theorem getD_some {a : List Int} {k : Nat} (h : k < a.length) : a[k]? = some (a.getD k 0) := by
  rw [List.getD_eq_getElem?_getD, List.getElem?_eq_getElem h]
  rfl
theorem mth_goto : (lkF rows v m).lookup ("go_to" : Str) = none := rfl
theorem mth_further : (lkF rows v m).lookup ("further" : Str) = none := rfl
theorem mth_reach : (lkF rows v m).lookup ("reach" : Str) = none := rfl
theorem Lk.ne (h : Lk S l v rows lv m) : v ≠ l := fun e => by
  have h1 := h.o
  have h2 := h.v
  rw [e, h1] at h2
  cases h2
def mvS (S : Store) (l v : Nat) (rows : List (List Int)) (lv : List (Nat × Nat × Nat)) (m : Int) : Store := List.set (List.set S v (.lst (lv.map lvD))) l (.ins "Looker" (lkF rows v m))
theorem Lk.mv (h : Lk S l v rows lv m) (lv' : List (Nat × Nat × Nat)) (m' : Int) (hl : lv'.length ≤ 90000) : Lk (mvS S l v rows lv' m') l v rows lv' m' := by
  have h1 := h.set lv' hl
  refine ⟨gs h1.o _, ?_, h.small.1, hl⟩
  rw [mvS, List.getElem?_set_ne (fun e => h.ne e.symm)]
  exact h1.v
theorem mvS_other {S : Store} {l v i : Nat} {rows : List (List Int)} {lv : List (Nat × Nat × Nat)} {m : Int} (h1 : i ≠ l) (h2 : i ≠ v) : (mvS S l v rows lv m)[i]? = S[i]? := by
  rw [mvS, List.getElem?_set_ne (fun e => h1 e.symm), List.getElem?_set_ne (fun e => h2 e.symm)]
theorem mvS_len : (mvS S l v rows lv m).length = S.length := by rw [mvS, List.length_set, List.length_set]
theorem lkF_put (m' : Int) : putFD ("many" : Str) (.int m') (lkF rows v m) = lkF rows v m' := rfl
theorem ixN_neg1 (n : Nat) : ixN (n + 1) (-1) = some n := by
  unfold ixN
  rw [if_neg (by omega), if_pos (by omega)]
  congr 1
  omega
theorem goto_ok {lo far at_ spot : Nat} (h : Lk S l v rows (lv ++ [(lo, far, at_)]) m) : FGoto [.loc l, .int spot] S = .ok .non (mvS S l v rows (lv ++ [(lo, far, spot)]) (m + 1)) := by
  have eb : ∃ rho, mGoto (frame 5 [.loc l, .int spot]) S = .ok .next rho (mvS S l v rows (lv ++ [(lo, far, spot)]) (m + 1)) := by
    rw [show frame 5 [.loc l, .int spot] = [some (.loc l), some (.int spot), none, none, none] from rfl]
    unfold mGoto
    have a5 := atI_lv (lv := lv) (lo, far, at_)
    have h1 := h.set (lv ++ [(lo, far, spot)]) (by have := h.small.2; simp at this ⊢; omega)
    have a6 : ixN (lv.length + 1) (-1) = some lv.length := ixN_neg1 _
    have a7 : (List.map lvD (lv ++ [(lo, far, at_)])).set lv.length (.tup [.int lo, .int far, .int spot]) = List.map lvD (lv ++ [(lo, far, spot)]) := by
      rw [List.map_append, List.set_append_right _ _ (by simp)]
      simp [lvD]
    have a8 : (lkF rows v m).length < 900 := by show 3 < 900; decide
    have a9 := lkF_put (rows := rows) (v := v) (m := m) (m + 1)
    simp [h.o, lkF_levels, lkF_many, h.v, a5, a6, a7, a8, a9, -List.map_append]
    simp [lvD, a7, h1.o, lkF_many, a8, a9, mvS, h.o, lkF_levels, h.v, a6, -List.map_append]
  obtain ⟨rho, eb⟩ := eb
  show finT S (mGoto (frame 5 _) S) = _
  rw [eb]
  have tr : Tr S (mvS S l v rows (lv ++ [(lo, far, spot)]) (m + 1)) := by
    refine ⟨by rw [mvS_len]; exact Nat.le_refl _, fun i o hi e => ?_⟩
    have hk := h.mv (lv ++ [(lo, far, spot)]) (m + 1) (by have := h.small.2; simp at this ⊢; omega)
    by_cases e1 : i = l
    · subst e1
      rw [hk.o] at e
      cases e
      refine .inr ?_
      show cloL S.length [.tup (rows.map rowD), .loc v, .int (m + 1)] = true
      have hv : v < S.length := (List.getElem?_eq_some_iff.mp h.v).1
      have c1 : cloL S.length (rows.map rowD) = true := cloL_rows _ _
      simp [cloL, clo, c1, hv]
    · by_cases e2 : i = v
      · subst e2
        rw [hk.v] at e
        cases e
        exact .inr (cloL_lvs _ _)
      · rw [mvS_other e1 e2] at e
        exact .inl e
  rw [finT_next tr, List.take_of_length_le (by rw [mvS_len]; exact Nat.le_refl _)]
theorem beh_ok {lo far at_ fu : Nat} {y : Int} (T : Tab rows w) (h : Lk S l v rows (lv ++ [(lo, far, at_)]) m) (st : St rows lv.length (lo, far, at_)) (hk : lv.length < w) (hfu : rows.length < fu) :
    ∃ p : Nat, at_ ≤ p ∧ p ≤ far ∧ (∀ i, at_ ≤ i → i < p → cl rows lv.length i ≤ y) ∧ (∀ i, p ≤ i → i < far → y < cl rows lv.length i) ∧ FBehind fu [.loc l, .int y] S = .ok (.int p) S := by
  obtain ⟨p, p1, p2, p3, p4, p5⟩ := behind_ok (y := y) h (fun r hr => by rw [T.wd r hr]; exact hk) st.hi st.blk.le hfu
  have hcol : ∀ i, i < rows.length → (col rows lv.length)[i]? = some (cl rows lv.length i) := fun i hi => by
    rw [col_get, List.getElem?_eq_getElem hi, cl, getD_lt hi]
    rfl
  have hle := st.blk.le
  have hlo := st.lo
  simp only at hle hlo
  refine ⟨p, p1, p2, fun i h1 h2 => ?_, fun i h1 h2 => ?_, p5⟩
  · have a := p3 (cl rows lv.length (p - 1)) (by omega) (hcol _ (by omega))
    have b := st.blk.mono T hk (i := i) (j := p - 1) (by simp only; omega) (by omega) (by simp only; omega)
    omega
  · have a := p4 (cl rows lv.length p) (by omega) (hcol _ (by omega))
    have b := st.blk.mono T hk (i := p) (j := i) (by simp only; omega) (by omega) (by simp only; omega)
    omega
theorem key_at {rk : SM} {lo far at_ : Nat} (T : Tab rows w) (h : Lk S l v rows (lv ++ [(lo, far, at_)]) m) (st : St rows lv.length (lo, far, at_)) (hlt : at_ < far) (hk : lv.length < w) : FKey rk [.loc l] S = .ok (.int (cl rows lv.length at_)) S := by
  have hle := st.blk.le
  simp only at hle
  have hi : at_ < rows.length := by omega
  refine key_ok h (by omega) (row := rows.getD at_ []) (by rw [List.getElem?_eq_getElem hi, getD_lt hi]) ?_
  have : lv.length < (rows.getD at_ []).length := by rw [T.len hi]; exact hk
  exact getD_some this
theorem place_at {lo far at_ : Nat} (T : Tab rows w) (h : Lk S l v rows (lv ++ [(lo, far, at_)]) m) (st : St rows lv.length (lo, far, at_)) (hlt : at_ < far) : FPlace [.loc l] S = .ok (rowD (tk rows (lv.length + 1) at_)) S := by
  have hle := st.blk.le
  simp only at hle
  have hi : at_ < rows.length := by omega
  exact place_ok h (by omega) (row := rows.getD at_ []) (by rw [List.getElem?_eq_getElem hi, getD_lt hi])
theorem place_end {lo far : Nat} (T : Tab rows w) (h : Lk S l v rows (lv ++ [(lo, far, far)]) m) (st : St rows lv.length (lo, far, far)) : FPlace [.loc l] S = .ok (rowD (tk rows lv.length lo)) S := by
  have hle := st.blk.le
  have hlt := st.blk.lt
  simp only at hle hlt
  have hi : lo < rows.length := by omega
  have eb : ∃ rho, mPlace (frame 1 [.loc l]) S = .ok (.ret (rowD (tk rows lv.length lo))) rho S := by
    rw [show frame 1 [.loc l] = [some (.loc l)] from rfl]
    unfold mPlace
    have hE := end_ok h
    have hb : endB (lv ++ [(lo, far, far)]) = true := by simp [endB]
    have a2 : atI [D.int lo, D.int far, D.int far] 0 = some (.int lo) := rfl
    have a3 : atI (rows.map rowD) (lo : Int) = some (rowD (rows.getD lo [])) := atI_nat (by rw [List.getElem?_map, List.getElem?_eq_getElem hi, getD_lt hi]; rfl)
    have a5 := atI_lv (lv := lv) (lo, far, far)
    have a6 : (List.map lvD (lv ++ [(lo, far, far)])).isEmpty = false := by simp
    have a8 : ((lv.length : Int) + 1 - 1) = lv.length := by omega
    have a7 : slD (rowD (rows.getD lo [])) none (some (lv.length : Int)) S = some (rowD (tk rows lv.length lo)) := by
      show some (D.tup (cutL ((rows.getD lo []).map D.int) none (some (lv.length : Int)))) = _
      rw [cutL_take, rowD, tk, List.map_take]
    simp [h.o, lkF_levels, lkF_rows, h.v, hE, hb, mth_at_end, a2, a3, a5, a6, a7, a8, lv_at, -List.map_append, -List.getD_eq_getElem?_getD]
  obtain ⟨rho, eb⟩ := eb
  show finT S (mPlace (frame 1 _) S) = _
  rw [eb]
  exact fin_ret0 (cloL_ints _ _)
theorem fur_ok {rk : SM} {lo far at_ fu : Nat} (T : Tab rows w) (h : Lk S l v rows (lv ++ [(lo, far, at_)]) m) (st : St rows lv.length (lo, far, at_)) (hlt : at_ < far) (hk : lv.length < w) (hfu : rows.length < fu) :
    ∃ p : Nat, at_ < p ∧ p ≤ far ∧ St rows lv.length (lo, far, p) ∧ Blk rows (lv.length + 1) at_ p ∧ FFurther rk fu [.loc l] S = .ok .non (mvS S l v rows (lv ++ [(lo, far, p)]) (m + 1)) := by
  obtain ⟨p, p1, p2, p3, p4, p5⟩ := beh_ok (y := cl rows lv.length at_) T h st hk hfu
  have hlo := st.lo
  simp only at hlo
  have hap : at_ < p := by
    rcases Nat.lt_or_ge at_ p with q | q
    · exact q
    · have := p4 at_ q hlt
      omega
  have hgs := st.gs hlt
  simp only at hgs
  refine ⟨p, hap, p2, ⟨st.blk, by simp only; omega, p2, fun hp i h1 h2 => ?_⟩, st.blk.sub T hk hlo hlt p2 hap hgs p3 p4, ?_⟩
  · simp only at hp h1 h2 ⊢
    have b := p4 p (Nat.le_refl _) hp
    rcases Nat.lt_or_ge i at_ with q | q
    · have := hgs i h1 q
      omega
    · have := p3 i q h2
      omega
  · have ek := key_at (rk := rk) T h st hlt hk
    have eg := goto_ok (spot := p) h
    have eb : ∃ rho, mFurther rk fu (frame 1 [.loc l]) S = .ok .next rho (mvS S l v rows (lv ++ [(lo, far, p)]) (m + 1)) := by
      rw [show frame 1 [.loc l] = [some (.loc l)] from rfl]
      unfold mFurther
      simp [h.o, mth_goto, mth_behind, mth_key, ek, p5, eg]
    obtain ⟨rho, eb⟩ := eb
    show finT S (mFurther rk fu (frame 1 _) S) = _
    rw [eb]
    exact mv_fin h _ _
where
  mv_fin {rho : Env} {lo far at_ : Nat} {lv : List (Nat × Nat × Nat)} (h : Lk S l v rows (lv ++ [(lo, far, at_)]) m) (spot : Nat) (m' : Int) : finT S (.ok .next rho (mvS S l v rows (lv ++ [(lo, far, spot)]) m')) = .ok .non (mvS S l v rows (lv ++ [(lo, far, spot)]) m') := by
    have hk := h.mv (lv ++ [(lo, far, spot)]) m' (by have := h.small.2; simp at this ⊢; omega)
    have tr : Tr S (mvS S l v rows (lv ++ [(lo, far, spot)]) m') := by
      refine ⟨by rw [mvS_len]; exact Nat.le_refl _, fun i o hi e => ?_⟩
      by_cases e1 : i = l
      · subst e1
        rw [hk.o] at e
        cases e
        refine .inr ?_
        show cloL S.length [.tup (rows.map rowD), .loc v, .int m'] = true
        have hv : v < S.length := (List.getElem?_eq_some_iff.mp h.v).1
        have c1 : cloL S.length (rows.map rowD) = true := cloL_rows _ _
        simp [cloL, clo, c1, hv]
      · by_cases e2 : i = v
        · subst e2
          rw [hk.v] at e
          cases e
          exact .inr (cloL_lvs _ _)
        · rw [mvS_other e1 e2] at e
          exact .inl e
    rw [finT_next tr, List.take_of_length_le (by rw [mvS_len]; exact Nat.le_refl _)]
end
end Dv
namespace Dv
open PySem L2
section
variable {S S1 : Store} {l v : Nat} {rows : List (List Int)} {lv : List (Nat × Nat × Nat)} {m : Int} {w : Nat}
def Good (rows : List (List Int)) (lv : List (Nat × Nat × Nat)) : Prop := ∀ k x, lv[k]? = some x → St rows k x
theorem Good.last {x : Nat × Nat × Nat} (h : Good rows (lv ++ [x])) : St rows lv.length x := h _ _ (by simp)
theorem Good.front {x : Nat × Nat × Nat} (h : Good rows (lv ++ [x])) : Good rows lv := fun k y e => h k y (by
  have : k < lv.length := (List.getElem?_eq_some_iff.mp e).1
  rw [List.getElem?_append_left this]
  exact e)
theorem Good.snoc {x : Nat × Nat × Nat} (h : Good rows lv) (hx : St rows lv.length x) : Good rows (lv ++ [x]) := fun k y e => by
  rcases Nat.lt_trichotomy k lv.length with q | q | q
  · rw [List.getElem?_append_left q] at e
    exact h k y e
  · subst q
    rw [List.getElem?_append_right (Nat.le_refl _), Nat.sub_self] at e
    cases e
    exact hx
  · rw [List.getElem?_eq_none (by rw [List.length_append, List.length_singleton]; omega)] at e
    cases e
theorem St.start {k lo far : Nat} (b : Blk rows k lo far) : St rows k (lo, far, lo) := ⟨b, Nat.le_refl _, Nat.le_of_lt b.lt, fun _ i h1 h2 => by simp only at h1 h2; omega⟩
theorem opn_ok {rk rs : SM} {fu : Nat} (T : Tab rows w) (h : Lk S l v rows lv m) (g : Good rows lv) (hne : rows ≠ []) (hd : lv.length < w) (hend : ∀ lv' lo far at_, lv = lv' ++ [(lo, far, at_)] → at_ < far) (hfu : rows.length < fu) :
    ∃ lo far, Blk rows lv.length lo far ∧ (lv = [] → lo = 0) ∧ (∀ lv' lo' far' at_, lv = lv' ++ [(lo', far', at_)] → lo = at_) ∧ FOpened rk rs fu [.loc l] S = .ok .non (List.set S v (.lst ((lv ++ [(lo, far, lo)]).map lvD))) := by
  rcases List.eq_nil_or_concat lv with rfl | ⟨lv', x, rfl⟩
  · obtain ⟨row, rs', rfl⟩ : ∃ row rs', rows = row :: rs' := by
      cases rows with
      | nil => exact absurd rfl hne
      | cons a b => exact ⟨a, b, rfl⟩
    have hr : row ≠ [] := fun e => by
      have := T.wd row List.mem_cons_self
      rw [e] at this
      simp at this hd
      omega
    refine ⟨0, rs'.length + 1, Blk.top T hne, fun _ => rfl, fun lv' lo far at_ e => ?_, opened0_ok h hr⟩
    have := congrArg List.length e
    simp at this
  · rw [List.concat_eq_append] at h g hend hd ⊢
    obtain ⟨lo, far, at_⟩ := x
    have hlt := hend lv' lo far at_ rfl
    have st := g.last
    rw [List.length_append, List.length_singleton] at hd
    have hle := st.blk.le
    have hlo := st.lo
    simp only at hle hlo
    have hi : at_ < rows.length := by omega
    have h0 : rows[0]? = some (rows.getD 0 []) := by rw [List.getElem?_eq_getElem (by omega), getD_lt (by omega)]
    have ek : (rows.getD at_ [])[lv'.length]? = some (cl rows lv'.length at_) := getD_some (by rw [T.len hi]; omega)
    obtain ⟨p, p1, p2, p3, p4, p5⟩ := opened_ok (rk := rk) (rs := rs) (fu := fu) h h0 (by rw [T.len (by omega)]; omega) (by omega) (by omega) hle (fun r hr => by rw [T.wd r hr]; omega) (by rw [List.getElem?_eq_getElem hi, getD_lt hi]) ek hfu
    have hcol : ∀ i, i < rows.length → (col rows lv'.length)[i]? = some (cl rows lv'.length i) := fun i hi => by
      rw [col_get, List.getElem?_eq_getElem hi, cl, getD_lt hi]
      rfl
    have hap : at_ < p := by
      rcases Nat.lt_or_ge at_ p with q | q
      · exact q
      · have : p = at_ := by omega
        subst this
        have := p4 _ (by omega) (hcol _ hi)
        omega
    have hgs := st.gs hlt
    simp only at hgs
    have b : Blk rows (lv'.length + 1) at_ p := st.blk.sub T (by omega) hlo hlt p2 hap hgs (fun i q1 q2 => by
        have a := p3 _ hap (hcol (p - 1) (by omega))
        have b := st.blk.mono T (k := lv'.length) (by omega) (i := i) (j := p - 1) (by simp only; omega) (by omega) (by simp only; omega)
        omega) (fun i q1 q2 => by
        simp only at q2
        have a := p4 _ (by omega) (hcol p (by omega))
        have b := st.blk.mono T (k := lv'.length) (by omega) (i := p) (j := i) (by simp only; omega) (by omega) (by simp only; omega)
        omega)
    refine ⟨at_, p, by rw [List.length_append, List.length_singleton]; exact b, fun e => ?_, fun lv'' lo' far' at' e => ?_, ?_⟩
    · simp at e
    · have := List.append_inj' e rfl
      simp at this
      exact this.2.2.2
    · rw [p5, List.append_assoc]
      rfl
structure Nx (S S1 : Store) (l v : Nat) : Prop where
  len : S.length ≤ S1.length
  oth : ∀ i, i < S.length → i ≠ l → i ≠ v → S1[i]? = S[i]?
theorem Nx.refl (S : Store) (l v : Nat) : Nx S S l v := ⟨Nat.le_refl _, fun _ _ _ _ => rfl⟩
theorem Nx.trans {S2 : Store} (a : Nx S S1 l v) (b : Nx S1 S2 l v) : Nx S S2 l v := ⟨Nat.le_trans a.len b.len, fun i h1 h2 h3 => (b.oth i (Nat.lt_of_lt_of_le h1 a.len) h2 h3).trans (a.oth i h1 h2 h3)⟩
theorem Nx.app (S E : Store) (l v : Nat) : Nx S (S ++ E) l v := ⟨by rw [List.length_append]; omega, fun i h _ _ => List.getElem?_append_left h⟩
theorem Nx.set (S : Store) (l v : Nat) (o : O) : Nx S (List.set S v o) l v := ⟨by rw [List.length_set]; exact Nat.le_refl _, fun i _ _ h => List.getElem?_set_ne (fun e => h e.symm)⟩
theorem Nx.mv : Nx S (mvS S l v rows lv m) l v := ⟨by rw [mvS_len]; exact Nat.le_refl _, fun i _ h1 h2 => mvS_other h1 h2⟩
theorem Nx.new {o : O} {n : Nat} (hn : S.length ≤ n) (a : Nx S S1 l v) : Nx S (List.set S1 n o) l v := ⟨by rw [List.length_set]; exact a.len, fun i h1 h2 h3 => by
  rw [List.getElem?_set_ne (by omega)]
  exact a.oth i h1 h2 h3⟩
theorem Lk.app (h : Lk S l v rows lv m) (E : Store) : Lk (S ++ E) l v rows lv m := ⟨by rw [List.getElem?_append_left (List.getElem?_eq_some_iff.mp h.o).1]; exact h.o, by rw [List.getElem?_append_left (List.getElem?_eq_some_iff.mp h.v).1]; exact h.v, h.small⟩
theorem Lk.keep {n : Nat} {o : O} (h : Lk S l v rows lv m) (h1 : n ≠ l) (h2 : n ≠ v) : Lk (List.set S n o) l v rows lv m := ⟨by rw [List.getElem?_set_ne h1]; exact h.o, by rw [List.getElem?_set_ne h2]; exact h.v, h.small⟩
theorem nx_take {lv0 : List (Nat × Nat × Nat)} {m0 : Int} (h : Lk S l v rows lv0 m0) (nx : Nx S S1 l v) (hk : Lk S1 l v rows lv m) : S1.take S.length = mvS S l v rows lv m := by
  refine List.ext_getElem? fun i => ?_
  by_cases hi : i < S.length
  · rw [List.getElem?_take_of_lt hi]
    by_cases e1 : i = l
    · subst e1
      have q : (mvS S i v rows lv m)[i]? = some (.ins "Looker" (lkF rows v m)) := gs (h.set lv hk.small.2).o _
      rw [hk.o, q]
    · by_cases e2 : i = v
      · subst e2
        have q := (h.mv lv m hk.small.2).v
        rw [hk.v, q]
      · rw [nx.oth i hi e1 e2, mvS_other e1 e2]
  · rw [List.getElem?_eq_none (by rw [List.length_take]; omega), List.getElem?_eq_none (by rw [mvS_len]; omega)]
theorem nx_tr {lv0 : List (Nat × Nat × Nat)} {m0 : Int} (h : Lk S l v rows lv0 m0) (nx : Nx S S1 l v) (hk : Lk S1 l v rows lv m) : Tr S S1 := by
  refine ⟨nx.len, fun i o hi e => ?_⟩
  by_cases e1 : i = l
  · subst e1
    rw [hk.o] at e
    cases e
    refine .inr ?_
    show cloL S.length [.tup (rows.map rowD), .loc v, .int m] = true
    have hv : v < S.length := (List.getElem?_eq_some_iff.mp h.v).1
    have c1 : cloL S.length (rows.map rowD) = true := cloL_rows _ _
    simp [cloL, clo, c1, hv]
  · by_cases e2 : i = v
    · subst e2
      rw [hk.v] at e
      cases e
      exact .inr (cloL_lvs _ _)
    · rw [nx.oth i hi e1 e2] at e
      exact .inl e
theorem nx_fin {lv0 : List (Nat × Nat × Nat)} {m0 : Int} {rho : Env} {d d' : D} (h : Lk S l v rows lv0 m0) (nx : Nx S S1 l v) (hk : Lk S1 l v rows lv m) (e : fzD S.length S1 d = some d') : finT S (.ok (.ret d) rho S1) = .ok d' (mvS S l v rows lv m) := by
  rw [finT_ret (nx_tr h nx hk) e, nx_take h nx hk]
theorem mv_next {lv0 : List (Nat × Nat × Nat)} {m0 : Int} {rho : Env} (h : Lk S l v rows lv0 m0) (lv : List (Nat × Nat × Nat)) (m : Int) (hl : lv.length ≤ 90000) : finT S (.ok .next rho (mvS S l v rows lv m)) = .ok .non (mvS S l v rows lv m) := by
  have hk := h.mv lv m hl
  rw [finT_next (nx_tr h Nx.mv hk), nx_take h Nx.mv hk]
theorem reach_ok {rk : SM} {lo far at_ fu : Nat} {y : Int} (T : Tab rows w) (h : Lk S l v rows (lv ++ [(lo, far, at_)]) m) (st : St rows lv.length (lo, far, at_)) (hlt : at_ < far) (hk : lv.length < w) (hfu : rows.length < fu) :
    ∃ p : Nat, at_ ≤ p ∧ p ≤ far ∧ (∀ i, at_ ≤ i → i < p → cl rows lv.length i < y) ∧ (p < far → y ≤ cl rows lv.length p) ∧ St rows lv.length (lo, far, p) ∧ FReach rk fu [.loc l, .int y] S = .ok .non (mvS S l v rows (lv ++ [(lo, far, p)]) (m + 1)) := by
  have ek := key_at (rk := rk) T h st hlt hk
  have hlo := st.lo
  have hgs := st.gs hlt
  simp only at hlo hgs
  have fin : ∀ spot rho, mReach rk fu (frame 2 [.loc l, .int y]) S = .ok .next rho (mvS S l v rows (lv ++ [(lo, far, spot)]) (m + 1)) → FReach rk fu [.loc l, .int y] S = .ok .non (mvS S l v rows (lv ++ [(lo, far, spot)]) (m + 1)) := fun spot rho eb => by
    show finT S (mReach rk fu (frame 2 _) S) = _
    rw [eb]
    exact mv_next h _ _ (by have := h.small.2; simp at this ⊢; omega)
  have ef : frame 2 [.loc l, .int y] = [some (.loc l), some (.int y)] := rfl
  by_cases hy : cl rows lv.length at_ < y
  · obtain ⟨p, p1, p2, p3, p4, p5⟩ := beh_ok (y := y - 1) T h st hk hfu
    refine ⟨p, p1, p2, fun i q1 q2 => by have := p3 i q1 q2; omega, fun q => by have := p4 p (Nat.le_refl _) q; omega, ⟨st.blk, by simp only; omega, p2, fun hp i q1 q2 => ?_⟩, ?_⟩
    · simp only at hp q1 q2 ⊢
      have := p4 p (Nat.le_refl _) hp
      rcases Nat.lt_or_ge i at_ with q | q
      · have := hgs i q1 q
        omega
      · have := p3 i q q2
        omega
    · have eg := goto_ok (spot := p) h
      have eb : ∃ rho, mReach rk fu (frame 2 [.loc l, .int y]) S = .ok .next rho (mvS S l v rows (lv ++ [(lo, far, p)]) (m + 1)) := by
        rw [ef]
        unfold mReach
        simp [h.o, mth_goto, mth_behind, mth_key, ek, p5, eg, hy]
      obtain ⟨rho, eb⟩ := eb
      exact fin p rho eb
  · refine ⟨at_, Nat.le_refl _, Nat.le_of_lt hlt, fun i q1 q2 => by omega, fun _ => by omega, st, ?_⟩
    have eg := goto_ok (spot := at_) h
    have a5 := atI_lv (lv := lv) (lo, far, at_)
    have a2 : atI [D.int lo, D.int far, D.int at_] 2 = some (.int at_) := rfl
    have eb : ∃ rho, mReach rk fu (frame 2 [.loc l, .int y]) S = .ok .next rho (mvS S l v rows (lv ++ [(lo, far, at_)]) (m + 1)) := by
      rw [ef]
      unfold mReach
      simp [h.o, mth_goto, mth_behind, mth_key, ek, eg, hy, lkF_levels, h.v, a5, lv_at, a2, -List.map_append]
    obtain ⟨rho, eb⟩ := eb
    exact fin at_ rho eb
end
def mTrie : SM :=
    (sRet (mCall sortSetD (mCons (mLc (mIter (mVar 0)) [2] (tgN 2) (mT (mBin eqD (mSl (mVar 2) mNoP (mP (mCall lenD (mCons (mVar 1) mNil)))) (mVar 1))) (mBin ixD (mVar 2) (mCall lenD (mCons (mVar 1) mNil)))) mNil)))
noncomputable def FTrie : List D → Store → R D := runT 3 mTrie
def trieI (rows : List (List Int)) (pl : List Int) : List Int := ssI ((rows.filter fun r => decide (r.take pl.length = pl)).map fun r => r.getD pl.length 0)
theorem trie_ok {S : Store} {rows : List (List Int)} {pl : List Int} {w : Nat} (hw : ∀ r ∈ rows, r.length = w) (hp : pl.length < w) (h64 : rows.length < 64) : FTrie [.tup (rows.map rowD), rowD pl] S = .ok (.lst ((trieI rows pl).map D.int)) S := by
  have hl := lc_pure (gm := tgN 2) (tt := (mT (mBin eqD (mSl (mVar 2) mNoP (mP (mCall lenD (mCons (mVar 1) mNil)))) (mVar 1)))) (te := (mBin ixD (mVar 2) (mCall lenD (mCons (mVar 1) mNil))))
    (r0 := [some (.tup (rows.map rowD)), some (rowD pl), none]) (S := S) (fun d => match d with | .tup xs => decide (xs.take pl.length = pl.map D.int) | _ => false) (fun d => match d with | .tup xs => xs.getD pl.length .non | _ => .non) (rows.map rowD) (fun d hd => by
      obtain ⟨r, hr, rfl⟩ := List.mem_map.mp hd
      have hrl := hw r hr
      refine ⟨_, rfl, ?_, fun _ => ?_⟩
      · have e1 : lenD [rowD pl] S = some (.int pl.length) := by simp [rowD]
        have e2 : slD (rowD r) none (some (pl.length : Int)) S = some (rowD (r.take pl.length)) := by
          show some (D.tup (cutL (r.map D.int) none (some (pl.length : Int)))) = _
          rw [cutL_take, rowD, List.map_take]
        have e3 := eqD_row (S := S) (r.take pl.length) pl
        simp [e1, e2, e3]
        simp only [rowD]
        rw [← List.map_take]
        exact decide_eq_decide.mpr ⟨fun h => by rw [h], map_int_inj⟩
      · have e1 : lenD [rowD pl] S = some (.int pl.length) := by simp [rowD]
        have hlt : pl.length < r.length := by omega
        have e2 : ixD (rowD r) (.int (pl.length : Int)) S = some (.int r[pl.length]) := by
          show atI (r.map D.int) _ = _
          exact atI_nat (by rw [List.getElem?_map, List.getElem?_eq_getElem hlt]; rfl)
        simp [e1, e2]
        simp [rowD, List.getElem?_eq_getElem hlt])
  have ev : ((rows.map rowD).filter fun d => match d with | .tup xs => decide (xs.take pl.length = pl.map D.int) | _ => false).map (fun d => match d with | .tup xs => xs.getD pl.length .non | _ => D.non) = ((rows.filter fun r => decide (r.take pl.length = pl)).map fun r => r.getD pl.length 0).map D.int := by
    rw [List.filter_map, List.map_map, List.map_map]
    have ef : (rows.filter ((fun d => match d with | .tup xs => decide (xs.take pl.length = pl.map D.int) | _ => false) ∘ rowD)) = rows.filter fun r => decide (r.take pl.length = pl) := by
      refine List.filter_congr fun r hr => ?_
      show decide ((r.map D.int).take pl.length = pl.map D.int) = _
      rw [← List.map_take]
      exact decide_eq_decide.mpr ⟨map_int_inj, fun h => by rw [h]⟩
    rw [ef]
    refine List.map_congr_left fun r hr => ?_
    have hlt : pl.length < r.length := by rw [hw r (List.mem_filter.mp hr).1]; exact hp
    show (r.map D.int).getD pl.length .non = D.int (r.getD pl.length 0)
    simp [List.getElem?_eq_getElem hlt]
  rw [ev] at hl
  have hz : ((rows.filter fun r => decide (r.take pl.length = pl)).map fun r => r.getD pl.length 0).length < 64 := by
    rw [List.length_map]
    exact Nat.lt_of_le_of_lt (List.length_filter_le _ _) h64
  have es := sortSetD_ints (S := S) hz
  have eb : ∃ rho, mTrie (frame 3 [.tup (rows.map rowD), rowD pl]) S = .ok (.ret (.lst ((trieI rows pl).map D.int))) rho S := by
    rw [show frame 3 [.tup (rows.map rowD), rowD pl] = [some (.tup (rows.map rowD)), some (rowD pl), none] from rfl]
    unfold mTrie trieI
    simp only [sRet_ap, mCall_ap, mCons_ap, mLc_ap, mIter_ap, mVar_ap, List.getElem?_cons_zero, rb_ok, seqD_tup, ofO_some, wipeE_cons, wipeE_nil, List.set_cons_succ, List.set_cons_zero, hl, mNil_ap, es, bs_ok]
    exact ⟨_, rfl⟩
  obtain ⟨rho, eb⟩ := eb
  show finT S (mTrie (frame 3 _) S) = _
  rw [eb]
  exact fin_ret0 (cloL_ints _ _)
end Dv
namespace Dv
open PySem L2
def mSame (self : List D → Store → R D) : SM :=
    (sSeq (sIf (mT (mBin isND (mVar 1) (mC .non))) (sRet (mBin isND (mVar 0) (mC .non))) sNil)
    (sSeq (sIf (mTru (mCall isiD (mCons (mVar 1) (mCons (mC (.ty "bool")) mNil)))) (sRet (mAnd (mCall isiD (mCons (mVar 0) (mCons (mC (.ty "bool")) mNil))) (mBin eqD (mVar 0) (mVar 1)))) sNil)
    (sSeq (sIf (mTru (mCall isiD (mCons (mVar 1) (mCons (mC (.ty "tuple")) mNil)))) (sSeq (sIf (mOrT (mNotT (mTru (mCall isiD (mCons (mVar 0) (mCons (mC (.ty "tuple")) mNil))))) (mT (mBin neD (mCall lenD (mCons (mVar 0) mNil)) (mCall lenD (mCons (mVar 1) mNil))))) (sRet (mC (.bl false))) sNil)
    (sRet (mCall allD (mCons (mLc (mZip (mCons (mVar 0) (mCons (mVar 1) mNil))) [2, 3] (tgT 2 (tgsCons (tgN 2) (tgsCons (tgN 3) tgsNil))) mYes (mApp 2 self (mCons (mVar 2) (mCons (mVar 3) mNil)))) mNil)))) sNil)
    (sSeq (sIf (mTru (mCall isiD (mCons (mVar 1) (mCons (mC (.ty "str")) mNil)))) (sRet (mAnd (mCall isiD (mCons (mVar 0) (mCons (mC (.ty "str")) mNil))) (mBin eqD (mVar 0) (mVar 1)))) sNil)
    (sRet (mAnd (mCall isiD (mCons (mVar 0) (mCons (mC (.ty "int")) mNil))) (mAnd (mNot (mCall isiD (mCons (mVar 0) (mCons (mC (.ty "bool")) mNil)))) (mBin eqD (mVar 0) (mVar 1)))))))))
noncomputable def FSame : Nat → List D → Store → R D
  | 0 => fun _ _ => .bad
  | n + 1 => runT 4 (mSame (FSame n))
def pt : Nat → D → Bool
  | _, .non => true
  | _, .bl _ => true
  | _, .int _ => true
  | _, .str _ => true
  | k + 1, .tup xs => xs.all (pt k)
  | _, _ => false
theorem same_zip {S : Store} (f : List D → Store → R D) (k : Nat) (ih : ∀ a b, pt k a = true → pt k b = true → f [a, b] S = .ok (.bl (decide (a = b))) S) (r0 : Env) (h0 : r0.length = 4) : ∀ xs ys : List D, xs.all (pt k) = true → ys.all (pt k) = true →
    lcL (tgT 2 (tgsCons (tgN 2) (tgsCons (tgN 3) tgsNil))) mYes (mApp 2 f (mCons (mVar 2) (mCons (mVar 3) mNil))) r0 (List.zipWith (fun a b => D.tup [a, b]) xs ys) S = .ok ((List.zipWith (fun a b => decide (a = b)) xs ys).map D.bl) S
  | [], _, _, _ => by simp [lcL]
  | x :: xs, [], _, _ => by simp [lcL]
  | x :: xs, y :: ys, h1, h2 => by
    rw [List.all_cons, Bool.and_eq_true] at h1 h2
    rw [List.zipWith_cons_cons, lcL_cons]
    have e := same_zip f k ih r0 h0 xs ys h1.2 h2.2
    have e2 := ih x y h1.1 h2.1
    simp [h0, e, e2]
theorem zip_all : ∀ xs ys : List D, xs.length = ys.length → ((List.zipWith (fun a b => decide (a = b)) xs ys).all id) = decide (xs = ys)
  | [], [], _ => by simp
  | x :: xs, y :: ys, h => by
    rw [List.zipWith_cons_cons, List.all_cons, zip_all xs ys (by simpa using h)]
    by_cases e : x = y
    · subst e; simp
    · simp [e]
theorem same_ok {S : Store} : ∀ (n k : Nat), k < n → ∀ a b, pt k a = true → pt k b = true → FSame n [a, b] S = .ok (.bl (decide (a = b))) S
  | 0, k, h, _, _, _, _ => absurd h (Nat.not_lt_zero _)
  | n + 1, k, h, a, b, ha, hb => by
    have eb : ∃ rho, mSame (FSame n) (frame 4 [a, b]) S = .ok (.ret (.bl (decide (a = b)))) rho S := by
      rw [show frame 4 [a, b] = [some a, some b, none, none] from rfl]
      unfold mSame
      have i1 : ∀ d, pt k d = true → ∀ S, isiD [d, .ty "bool"] S = some (.bl (match d with | .bl _ => true | _ => false)) := fun d hd S => by
        cases d <;> first | rfl | (cases k <;> cases hd)
      have i2 : ∀ d, pt k d = true → ∀ S, isiD [d, .ty "tuple"] S = some (.bl (match d with | .tup _ => true | _ => false)) := fun d hd S => by
        cases d <;> first | rfl | (cases k <;> cases hd)
      have i3 : ∀ d, pt k d = true → ∀ S, isiD [d, .ty "str"] S = some (.bl (match d with | .str _ => true | _ => false)) := fun d hd S => by
        cases d <;> first | rfl | (cases k <;> cases hd)
      have i4 : ∀ d, pt k d = true → ∀ S, isiD [d, .ty "int"] S = some (.bl (match d with | .int _ => true | .bl _ => true | _ => false)) := fun d hd S => by
        cases d <;> first | rfl | (cases k <;> cases hd)
      have j1 : ∀ d, pt k d = true → ∀ S, isND d .non S = some (.bl (match d with | .non => true | _ => false)) := fun d hd S => by
        cases d <;> rfl
      have q1 : ∀ x y : Bool, ∀ S, eqD (.bl x) (.bl y) S = some (.bl (decide (x = y))) := fun _ _ _ => rfl
      have q2 : ∀ x y : Str, ∀ S, eqD (.str x) (.str y) S = some (.bl (decide (x = y))) := fun _ _ _ => rfl
      cases b with
      | tup ys =>
        cases a with
        | tup xs =>
          cases k with
          | zero => cases ha
          | succ k =>
            have z := same_zip (S := S) (FSame n) k (fun a b h1 h2 => same_ok n k (by omega) a b h1 h2) [some (.tup xs), some (.tup ys), none, none] rfl xs ys ha hb
            by_cases hl : xs.length = ys.length
            · have hz := zip_all xs ys hl
              have e1 : ((xs.length : Int) = (ys.length : Int)) := by rw [hl]
              have e2 : zipD [.tup xs, .tup ys] = some (List.zipWith (fun a b => D.tup [a, b]) xs ys) := rfl
              have e3 := allD_bls (S := S) (List.zipWith (fun a b => decide (a = b)) xs ys)
              simp [i1 _ ha, i1 _ hb, i2 _ ha, i2 _ hb, j1 _ hb, e1, e2, z, e3, hz, -List.map_zipWith]
            · have e1 : ¬ ((xs.length : Int) = (ys.length : Int)) := by omega
              have e2 : ¬ xs = ys := fun e => hl (by rw [e])
              simp [i1 _ ha, i1 _ hb, i2 _ ha, i2 _ hb, j1 _ hb, e1, e2]
        | _ => simp [i1 _ ha, i1 _ hb, i2 _ ha, i2 _ hb, j1 _ hb]
      | _ => cases a <;> simp [i1 _ ha, i1 _ hb, i2 _ ha, i2 _ hb, i3 _ ha, i3 _ hb, i4 _ ha, j1 _ hb, j1 _ ha, q1, q2] <;> (first | done | (cases k <;> cases hb) | (cases k <;> cases ha))
    obtain ⟨rho, eb⟩ := eb
    show finT S (mSame (FSame n) (frame 4 _) S) = _
    rw [eb]
    exact fin_ret0 rfl
theorem pt_rowD (k : Nat) (ns : List Int) : pt (k + 1) (rowD ns) = true := by
  show (ns.map D.int).all (pt k) = true
  rw [List.all_map, List.all_eq_true]
  intro n _
  cases k <;> rfl
end Dv
namespace Dv
open PySem L2
noncomputable def mPick : SM := (sRet (mBin ixD (mVar 2) (mApp 3 FDraw (mCons (mVar 0) (mCons (mVar 1) (mCons (mCall lenD (mCons (mVar 2) mNil)) mNil))))))
noncomputable def FPick : List D → Store → R D := runT 3 mPick
theorem pick_tw {ns : List Int} {S : Store} {t n : Nat} {seq : D} {xs : List D} (h63 : ns.length ≤ 63) (h : Twn t n S) (hn : n < 99990) (hs : seq = .lst xs ∨ seq = .tup xs) (hne : xs ≠ []) (hc : ∀ m, cloL m xs = true) : ∃ (i : Nat) (d : D) (S' : Store), xs[i]? = some d ∧ Twn t (n + 2) S' ∧ Dif t S S' ∧ FPick [.scr ns, .loc t, seq] S = .ok d S' := by
  have hl : 0 < xs.length := List.length_pos_iff.mpr hne
  obtain ⟨r, S', a, b, c, e⟩ := draw_tw (many := (xs.length : Int)) h63 h hn (by omega)
  have hr : r < xs.length := by omega
  refine ⟨r, xs[r], S', List.getElem?_eq_getElem hr, b, c, ?_⟩
  have eb : ∃ rho, mPick (frame 3 [.scr ns, .loc t, seq]) S = .ok (.ret xs[r]) rho S' := by
    rw [show frame 3 [.scr ns, .loc t, seq] = [some (.scr ns), some (.loc t), some seq] from rfl]
    unfold mPick
    have ea : atI xs (r : Int) = some xs[r] := atI_nat (List.getElem?_eq_getElem hr)
    rcases hs with rfl | rfl
    · simp [e, ea]
    · simp [e, ea]
  obtain ⟨rho, eb⟩ := eb
  show finT S (mPick (frame 3 _) S) = _
  rw [eb]
  exact c.fin ((cloL_iff _ _).mp (hc _) _ (List.getElem_mem hr))
structure Tq (S S1 : Store) : Prop where
  len : S.length ≤ S1.length
  oth : ∀ i, i < S.length → i ≠ 0 → S1[i]? = S[i]?
theorem Tq.fin {S S1 : Store} {n : Nat} {rho : Env} {d : D} (h0 : 0 < S.length) (h : Tq S S1) (tw : Twn 0 n S1) (hd : clo S.length d = true) : ∃ S', finT S (.ok (.ret d) rho S1) = .ok d S' ∧ Twn 0 n S' ∧ Dif 0 S S' := by
  obtain ⟨ts, t1, t2⟩ := tw
  have tr : Tr S S1 := by
    refine ⟨h.len, fun i o hi e => ?_⟩
    by_cases e0 : i = 0
    · subst e0
      rw [t2] at e
      cases e
      exact .inr (cloL_ints _ _)
    · rw [h.oth i hi e0] at e
      exact .inl e
  have et : S1.take S.length = List.set S 0 (.lst (ts.map D.int)) := by
    refine List.ext_getElem? fun i => ?_
    by_cases hi : i < S.length
    · rw [List.getElem?_take_of_lt hi]
      by_cases e0 : i = 0
      · subst e0
        rw [t2, List.getElem?_set_self hi]
      · rw [h.oth i hi e0, List.getElem?_set_ne (fun e => e0 e.symm)]
    · rw [List.getElem?_eq_none (by rw [List.length_take]; omega), List.getElem?_eq_none (by rw [List.length_set]; omega)]
  refine ⟨_, ?_, ⟨ts, t1, ?_⟩, ⟨ts, et⟩⟩
  · rw [finT_ret tr (fz_clo hd)]
  · rw [et]
    exact List.getElem?_set_self h0
end Dv
namespace Dv
open PySem L2
section
variable {K : PySem.W.Frag} {mg : Str → Option Value} {Wx : WX} {T : Tb} {H : Hp} {g : L2.St}
end
section
variable {X : Cx} {Wx : WX} {elt tg iter tg1 iter1 : Expr} {ifs ifs1 : List Expr} {scope : Scope} {own : List (Str × Nat)} {pos : Pos} {mi mi1 : IM} {sl sl1 vs1 : List Nat} {gm gm1 : D → Env → Option Env} {tt tt1 : BM} {te : EM}
end
end Dv
namespace Dv
open PySem L2
def keyD : Key → D
  | .inl i => .int i
  | .inr x => .str x
def keyOf : D → Option Key
  | .int i => some (.inl i)
  | .str x => some (.inr x)
  | _ => none
@[simp] theorem keyOf_int (i : Int) : keyOf (.int i) = some (.inl i) := rfl
@[simp] theorem keyOf_str (x : Str) : keyOf (.str x) = some (.inr x) := rfl
def valKD (kds : List (Key × D)) (k : Key) : Option D := (kds.find? fun kv => decide (kv.1 = k)).map (·.2)
def putKD (kds : List (Key × D)) (k : Key) (d : D) : List (Key × D) :=
  if (kds.any fun kv => decide (kv.1 = k)) = true then kds.map fun kv => if kv.1 = k then (kv.1, d) else kv else kds ++ [(k, d)]
section
variable {K : PySem.W.Frag} {mg : Str → Option Value} {T : Tb} {H : Hp} {S : Store}
theorem key_rep {v : V} {d : D} {k : Key} (h : Rep K T H v d) (e : keyOf d = some k) : v = kV k := by
  cases h <;> cases e <;> rfl
def RepK (K : PySem.W.Frag) (T : Tb) (H : Hp) (kvs : List (Key × V)) (kds : List (Key × D)) : Prop := kvs.map (·.1) = kds.map (·.1) ∧ RepL K T H (kvs.map (·.2)) (kds.map (·.2))
theorem RepK.nil : RepK K T H [] [] := ⟨rfl, .nil⟩
theorem RepK.uncons {kvs : List (Key × V)} {k : Key} {d : D} {kds : List (Key × D)} (h : RepK K T H kvs ((k, d) :: kds)) : ∃ v r, kvs = (k, v) :: r ∧ Rep K T H v d ∧ RepK K T H r kds := by
  obtain ⟨h1, h2⟩ := h
  cases kvs with
  | nil => cases h1
  | cons p r =>
    obtain ⟨k', v⟩ := p
    rw [List.map_cons, List.map_cons, List.cons.injEq] at h1
    obtain ⟨rfl, h1⟩ := h1
    cases h2 with
    | cons a b => exact ⟨v, r, rfl, a, h1, b⟩
theorem RepK.cons {kvs : List (Key × V)} {k : Key} {v : V} {d : D} {kds : List (Key × D)} (a : Rep K T H v d) (h : RepK K T H kvs kds) : RepK K T H ((k, v) :: kvs) ((k, d) :: kds) := ⟨by rw [List.map_cons, List.map_cons, h.1], .cons a h.2⟩
theorem RepK.kp {T' : Tb} {H' : Hp} {kvs : List (Key × V)} {kds : List (Key × D)} (s : Kp T H T' H') (h : RepK K T H kvs kds) : RepK K T' H' kvs kds := ⟨h.1, h.2.kp s⟩
theorem RepK.step {T' : Tb} {H' : Hp} {kvs : List (Key × V)} {kds : List (Key × D)} (s : Step T H T' H') (h : RepK K T H kvs kds) : RepK K T' H' kvs kds := h.kp s.kp
theorem RepK.length {kvs : List (Key × V)} {kds : List (Key × D)} (h : RepK K T H kvs kds) : kvs.length = kds.length := by
  have := congrArg List.length h.1
  simpa using this
theorem RepK.val (k : Key) : ∀ {kds : List (Key × D)} {kvs : List (Key × V)}, RepK K T H kvs kds → (valV kvs k = none ∧ valKD kds k = none) ∨ ∃ v d, valV kvs k = some v ∧ valKD kds k = some d ∧ Rep K T H v d
  | [], kvs, h => by
    have : kvs = [] := List.eq_nil_of_length_eq_zero (by rw [h.length]; rfl)
    subst this
    exact .inl ⟨rfl, rfl⟩
  | (k', d) :: kds, kvs, h => by
    obtain ⟨v, r, rfl, a, b⟩ := h.uncons
    by_cases e : k' = k
    · refine .inr ⟨v, d, valV_pos e, ?_, a⟩
      unfold valKD
      simp [List.find?_cons, e]
    · have e2 : valKD ((k', d) :: kds) k = valKD kds k := by
        unfold valKD
        simp [List.find?_cons, e]
      rw [valV_neg (p := (k', v)) e, e2]
      exact b.val k
theorem RepK.any (k : Key) : ∀ {kds : List (Key × D)} {kvs : List (Key × V)}, RepK K T H kvs kds → (kvs.any fun kv => decide (kv.1 = k)) = kds.any fun kv => decide (kv.1 = k)
  | [], kvs, h => by
    have : kvs = [] := List.eq_nil_of_length_eq_zero (by rw [h.length]; rfl)
    subst this
    rfl
  | (k', d) :: kds, kvs, h => by
    obtain ⟨v, r, rfl, a, b⟩ := h.uncons
    rw [List.any_cons, List.any_cons, b.any k]
theorem RepK.repl {v : V} {d : D} (rv : Rep K T H v d) (k : Key) : ∀ {kds : List (Key × D)} {kvs : List (Key × V)}, RepK K T H kvs kds → RepK K T H (kvs.map fun kv => if kv.1 = k then (kv.1, v) else kv) (kds.map fun kv => if kv.1 = k then (kv.1, d) else kv)
  | [], kvs, h => by
    have : kvs = [] := List.eq_nil_of_length_eq_zero (by rw [h.length]; rfl)
    subst this
    exact .nil
  | (k', d') :: kds, kvs, h => by
    obtain ⟨v', r, rfl, a, b⟩ := h.uncons
    rw [List.map_cons, List.map_cons]
    by_cases e : k' = k
    · simp only [e, if_true]
      exact .cons rv (b.repl rv k)
    · simp only [e, if_false]
      exact .cons a (b.repl rv k)
theorem RepK.snoc {v : V} {d : D} {k : Key} {kds : List (Key × D)} {kvs : List (Key × V)} (h : RepK K T H kvs kds) (rv : Rep K T H v d) : RepK K T H (kvs ++ [(k, v)]) (kds ++ [(k, d)]) := ⟨by rw [List.map_append, List.map_append, h.1]; rfl, by
  rw [List.map_append, List.map_append]
  exact RepL.append h.2 (.cons rv .nil)⟩
theorem RepK.put {v : V} {d : D} {kds : List (Key × D)} {kvs : List (Key × V)} (h : RepK K T H kvs kds) (k : Key) (rv : Rep K T H v d) : RepK K T H (putK kvs k v) (putKD kds k d) := by
  unfold putK putKD
  rw [h.any k]
  split
  · exact h.repl rv k
  · exact h.snoc rv
def dctAt (d : D) (S : Store) : Option (List (Key × D)) := match d with
  | .dct kds => some kds
  | .loc n => match S[n]? with
    | some (.dct kds) => some kds
    | _ => none
  | _ => none
@[simp] theorem dctAt_dct (kds : List (Key × D)) (S : Store) : dctAt (.dct kds) S = some kds := rfl
@[simp] theorem dctAt_loc (n : Nat) (S : Store) : dctAt (.loc n) S = (match S[n]? with
    | some (.dct kds) => some kds
    | _ => none) := rfl
theorem dctAt_rep {v : V} {d : D} {kds : List (Key × D)} (sim : Sim K mg T S H) (r : Rep K T H v d) (e : dctAt d S = some kds) : ∃ a kvs, v = .ref a ∧ Rd H a (.dK kvs) ∧ RepK K T H kvs kds := by
  cases r with
  | dct h n e' r' =>
    cases e
    exact ⟨_, _, rfl, h, e', r'⟩
  | @loc a n h =>
    simp only [dctAt] at e
    split at e
    · rename_i ys hs
      cases e
      obtain ⟨kvs, h1, h2, h3⟩ := sim.obj n a _ h hs
      exact ⟨a, kvs, rfl, .inl h1, h2, h3⟩
    · cases e
  | _ => cases e
end
def dgetD (a b : D) (S : Store) : Option D := match dctAt a S, keyOf b with
  | some kds, some k => valKD kds k
  | _, _ => none
section
variable {X : Cx} {Wx : WX} {o i e f : Expr} {pos apos cpos : Pos} {mo mi mx : EM}
theorem j_dget (hu : X.A.units + 64 < cLine) (hs : NoSl i) (ho : PE X o (tD X.K X.mg Wx mo)) (hi : PE X i (tD X.K X.mg Wx mi)) : PE X (.Subscript o i pos) (tD X.K X.mg Wx (mBin dgetD mo mi)) := by
  refine pe_imp (pe_dget (by omega) ho hi hs) fun g H Q h => ?_
  obtain ⟨T, r, S, rs, sim, h⟩ := h
  refine ⟨T, r, S, rs, sim, Out.bind h fun x S1 T1 H1 v st sim1 rel h1 => ?_⟩
  refine ⟨T1, r, S1, rs.step st, sim1, Out.bind h1 fun y S2 T2 H2 w st2 sim2 rel2 h2 => ?_⟩
  refine Out.use h2 fun d e k => ?_
  unfold dgetD at e
  split at e
  · rename_i kds key e1 e2
    obtain ⟨a, kvs, rfl, hr, rk⟩ := dctAt_rep sim2 (rel.step st2) e1
    have ew := key_rep rel2 e2
    subst ew
    rcases rk.val key with ⟨_, z⟩ | ⟨v', d', z1, z2, z3⟩
    · rw [z] at e
      cases e
    · rw [z2] at e
      cases e
      exact ⟨a, v', rfl, .inl ⟨kvs, key, hr, rfl, z1.symm⟩, k T2 H2 v' (Step.refl T2 H2) sim2 z3⟩
  · cases e
end
end Dv
namespace Dv
open PySem L2
def dcL (gm : D → Env → Option Env) (tt : BM) (tk tv : EM) (r0 : Env) : List D → List (Key × D) → Store → R (List (Key × D))
  | [], acc, S => .ok acc S
  | d :: ds, acc, S => match gm d r0 with
    | none => .bad
    | some r1 => (nox (tt r1 S)).bind fun b S1 => if b = true then (nox (tk r1 S1)).bind fun k S2 => (nox (tv r1 S2)).bind fun v S3 => match keyOf k with
        | some key => if acc.length < 90000 then dcL gm tt tk tv r0 ds (putKD acc key v) S3 else .bad
        | none => .bad
      else dcL gm tt tk tv r0 ds acc S1
def dFin (nw : Bool) (kds : List (Key × D)) (S : Store) : R D := match nw with
  | true => .ok (.loc S.length) (S ++ [.dct kds])
  | false => .ok (.dct kds) S
@[simp] theorem dFin_t (kds : List (Key × D)) (S : Store) : dFin true kds S = .ok (.loc S.length) (S ++ [.dct kds]) := rfl
@[simp] theorem dFin_f (kds : List (Key × D)) (S : Store) : dFin false kds S = .ok (.dct kds) S := rfl
def mDc (nw : Bool) (mi : IM) (vs : List Nat) (gm : D → Env → Option Env) (tt : BM) (tk tv : EM) : EM := fun r S => (mi r S).bind fun ds S1 => (dcL gm tt tk tv (wipeE r vs) ds [] S1).bind fun kds S2 => dFin nw kds S2
@[simp] theorem mDc_ap {nw : Bool} {mi : IM} {vs : List Nat} {gm : D → Env → Option Env} {tt : BM} {tk tv : EM} {r : Env} {S : Store} : mDc nw mi vs gm tt tk tv r S = (mi r S).bind fun ds S1 => (dcL gm tt tk tv (wipeE r vs) ds [] S1).bind fun kds S2 => dFin nw kds S2 := rfl
theorem nodict {H : Hp} {p : Addr} {kvs : List (Key × V)} (h : HLen H) : HLen (upd H p (.dK kvs)) := hlen_oth h fun xs => ⟨(by intro z; cases z), (by intro z; cases z), (by intro x z; cases z), (by intro x z; cases z)⟩
section
variable {K : PySem.W.Frag} {mg : Str → Option Value} {T : Tb} {H : Hp}
theorem Sim.unhideNew {S : Store} {p : Addr} {l h : List Addr} {o : O} (s : Sim K mg ⟨l, p :: h⟩ S H) (ho : ORep K mg ⟨l ++ [p], h⟩ H p o) : Sim K mg ⟨l ++ [p], h⟩ (S ++ [o]) H := by
  have h0 := List.nodup_append.mp s.nd
  have pl : p ∉ l := fun z => h0.2.2 p z p List.mem_cons_self rfl
  have kp : Kp ⟨l, p :: h⟩ H ⟨l ++ [p], h⟩ H := by
    have off : ∀ b, (Tb.mk l (p :: h)).off b → (Tb.mk (l ++ [p]) h).off b := fun b n => ⟨fun z => by
      rcases List.mem_append.mp z with z | z
      · exact n.1 z
      · exact n.2 (by rw [List.mem_singleton.mp z]; exact List.mem_cons_self), fun z => n.2 (List.mem_cons_of_mem _ z)⟩
    refine ⟨fun b _ _ n q => ⟨q, off b n⟩, fun b _ n q => ⟨q, off b n⟩, fun n a q => ?_⟩
    have q : l[n]? = some a := q
    show (l ++ [p])[n]? = some a
    rw [List.getElem?_append_left (List.getElem?_eq_some_iff.mp q).1]
    exact q
  have hlen : l.length = S.length := s.len
  refine ⟨by show (l ++ [p]).length = _; rw [List.length_append, List.length_append, hlen]; rfl, ?_, fun i a o' h1 h2 => ?_, fun a ha => s.hid' a (List.mem_cons_of_mem _ ha), s.hl⟩
  · show ((l ++ [p]) ++ h).Nodup
    rw [List.append_assoc]
    exact s.nd
  · have h1 : (l ++ [p])[i]? = some a := h1
    by_cases hi : i < l.length
    · rw [List.getElem?_append_left hi] at h1
      rw [List.getElem?_append_left (by omega)] at h2
      exact (s.obj i a o' h1 h2).kp kp rfl
    · rw [List.getElem?_append_right (by omega)] at h1
      rw [List.getElem?_append_right (by omega)] at h2
      have e : i - l.length = 0 := by
        rcases Nat.eq_zero_or_pos (i - l.length) with z | z
        · exact z
        · rw [List.getElem?_eq_none (by simp; omega)] at h1
          cases h1
      rw [e] at h1
      rw [← hlen, e] at h2
      cases h1
      cases h2
      exact ho
end
section
variable {X : Cx} {Wx : WX} {kx vx tg iter : Expr} {ifs : List Expr} {scope : Scope} {own : List (Str × Nat)} {pos : Pos} {mi : IM} {sl : List Nat} {gm : D → Env → Option Env} {tt : BM} {tk tv : EM} {nw : Bool}
end
end Dv
namespace Dv
open PySem L2
section
variable {K : PySem.W.Frag} {mg : Str → Option Value} {T : Tb} {H : Hp} {S : Store}
theorem Sim.swap {a : Addr} {u : HO} (s : Sim K mg T S H) (n : T.off a) (kp : Kp T H T (upd H a u)) (hl : HLen (upd H a u)) : Sim K mg T S (upd H a u) :=
  ⟨s.len, s.nd, fun i b o h1 h2 => (s.obj i b o h1 h2).kp kp (upd_ne fun e => n.1 (by rw [← e]; exact List.mem_of_getElem? h1)), fun b hb => by
    rw [upd_ne fun e => n.2 (by rw [← e]; exact hb)]
    exact s.hid' b hb, hl⟩
end
section
variable {X : Cx} {Wx : WX} {kx vx : Expr} {ifs : List Expr} {scope : Scope} {own : List (Str × Nat)} {pos apos cpos npos tpos : Pos} {elts : List Expr} {kk : Nat} {sl : List Nat} {gm : D → Env → Option Env} {tt : BM} {tk tv : EM} {nw : Bool} {i : Nat} {x : Str}
end
end Dv
namespace Dv
open PySem PySem.Spec PyProof.Rows L2
section
variable {X : Cx} {Wx : WX} {o e : Expr} {apos pos : Pos} {mo m : EM}
end
end Dv
namespace Dv
open PySem PySem.Spec PyProof.Rows L2
section
variable {X : Cx}
end
section
variable {K : PySem.W.Frag} {mg : Str → Option Value} {T : Tb} {H : Hp}
end
section
variable {X : Cx} {Wx : WX} {ms : AM} {es : List Expr} {x y : Str} {p p' pos pos' : Pos} {e : Expr}
end
end Dv
namespace Dv
open PySem L2
section
variable {X : Cx} {K : PySem.W.Frag} {mg : Str → Option Value} {T : Tb} {H : Hp} {S : Store}
end
end Dv
namespace Dv
open PySem L2
def mBad : EM := fun _ _ => .bad
@[simp] theorem mBad_ap {r : Env} {S : Store} : mBad r S = .bad := rfl
end Dv
namespace Dv
open PySem PySem.Spec PyProof.Rows L2
section
variable {prog : Program} {w : World} {A : Around}
end
section
variable {X : Cx}
end
section
variable {X : Cx} {K : PySem.W.Frag} {mg : Str → Option Value} {T : Tb} {H : Hp}
end
end Dv
namespace Dv
open PySem PySem.Spec PyProof.Rows
section
variable {prog : Program} {w : World} {A : Around} {s : Shared}
end
end Dv
namespace Dv
open PySem PySem.Spec PyProof.Rows L2 LamX
section
variable {K : PySem.W.Frag} {mg : Str → Option Value} {T : Tb} {H H1 : Hp} {S : Store} {P c' : Addr} {x q : Str} {ps : Array Value}
end
section
variable {X : Cx} {pins : List (Addr × Obj)} {σ : L2.St} {H : Hp} {s : Shared}
end
end Dv
namespace Dv
open PySem PySem.Spec PyProof.Rows L2 LamX PySem.W
section
variable {X : Cx} {Wx : WX}
end
end Dv
namespace Lp
def nxt (g : Int) (l : List Int) : List Int := if l.head? = some g then l.tail else l.dropWhile fun x => decide (x < g)
def fnd (g : Int) (l : List Int) : List Int := if l.head? = some g then [g] else []
def run : Nat → List Nat → List (List Int) → Int → List Int → Nat → Option (List Int × Nat)
  | 0, _, _, _, _, _ => none
  | _ + 1, [], _, _, _, _ => none
  | fu + 1, i :: ord, left, g, found, looks =>
    match nxt g (left.getD i []) with
    | [] => some (found ++ fnd g (left.getD i []), looks + 1)
    | y :: l => run fu (ord ++ [i]) (left.set i (y :: l)) y (found ++ fnd g (left.getD i [])) (looks + 1)
def hd (left : List (List Int)) (i : Nat) : Int := (left.getD i []).headD 0
structure Inv (ord : List Nat) (left : List (List Int)) (g : Int) : Prop where
  len : ord.length = left.length
  nd : ord.Nodup
  mem : ∀ i, i ∈ ord ↔ i < left.length
  ne : ∀ l ∈ left, l ≠ []
  up : ∀ l ∈ left, l.Pairwise (· < ·)
  asc : ord.Pairwise fun i j => hd left i ≤ hd left j
  le : ∀ i ∈ ord, hd left i ≤ g
  last : ∃ o z, ord = o ++ [z] ∧ hd left z = g
theorem dropWhile_up {g : Int} : ∀ {l : List Int}, l.Pairwise (· < ·) → (l.dropWhile fun x => decide (x < g)) = l.filter fun x => decide (g ≤ x)
  | [], _ => rfl
  | x :: l, h => by
    rw [List.pairwise_cons] at h
    by_cases c : x < g
    · rw [List.dropWhile_cons_of_pos (by simpa using c), dropWhile_up h.2, List.filter_cons_of_neg (by simp; omega)]
    · rw [List.dropWhile_cons_of_neg (by simpa using c), List.filter_cons_of_pos (by simp; omega), List.filter_eq_self.mpr]
      intro y hy
      have := h.1 y hy
      simp
      omega
theorem mem_nxt {g : Int} {l : List Int} (up : l.Pairwise (· < ·)) (x : Int) : x ∈ nxt g l ↔ x ∈ l ∧ (if l.head? = some g then g < x else g ≤ x) := by
  unfold nxt
  split
  · rename_i h
    cases l with
    | nil => cases h
    | cons y l =>
      cases h
      rw [List.pairwise_cons] at up
      rw [List.tail_cons, List.mem_cons]
      constructor
      · intro hx
        exact ⟨.inr hx, up.1 x hx⟩
      · rintro ⟨rfl | hx, h⟩
        · omega
        · exact hx
  · rw [dropWhile_up up, List.mem_filter]
    simp
theorem nxt_up {g : Int} {l : List Int} (up : l.Pairwise (· < ·)) : (nxt g l).Pairwise (· < ·) := by
  unfold nxt
  split
  · exact up.sublist (List.tail_sublist l)
  · exact up.sublist (List.dropWhile_sublist _)
theorem nxt_head {g y : Int} {l l' : List Int} (up : l.Pairwise (· < ·)) (e : nxt g l = y :: l') : g ≤ y := by
  have := (mem_nxt (g := g) up y).mp (by rw [e]; exact List.mem_cons_self)
  split at this <;> omega
theorem hd_set_ne {left : List (List Int)} {i j : Nat} {l : List Int} (h : i ≠ j) : hd (left.set i l) j = hd left j := by
  unfold hd
  rw [List.getD_eq_getElem?_getD, List.getD_eq_getElem?_getD, List.getElem?_set_ne h]
theorem hd_set_self {left : List (List Int)} {i : Nat} {l : List Int} (h : i < left.length) : hd (left.set i l) i = l.headD 0 := by
  unfold hd
  rw [List.getD_eq_getElem?_getD, List.getElem?_set_self h]
  rfl
theorem getD_mem {left : List (List Int)} {i : Nat} (h : i < left.length) : left.getD i [] ∈ left := by
  rw [List.getD_eq_getElem?_getD, List.getElem?_eq_getElem h]
  exact List.getElem_mem h
theorem Inv.step {i : Nat} {ord : List Nat} {left : List (List Int)} {g y : Int} {l : List Int} (h : Inv (i :: ord) left g) (e : nxt g (left.getD i []) = y :: l) : Inv (ord ++ [i]) (left.set i (y :: l)) y := by
  have hi : i < left.length := (h.mem i).mp List.mem_cons_self
  have hm := getD_mem hi
  have gy : g ≤ y := nxt_head (h.up _ hm) e
  have nd := List.nodup_cons.mp h.nd
  have as := List.pairwise_cons.mp h.asc
  have ne : ∀ j ∈ ord, i ≠ j := fun j hj q => nd.1 (q ▸ hj)
  have hs : hd (left.set i (y :: l)) i = y := hd_set_self hi
  have hle : ∀ j ∈ ord, hd (left.set i (y :: l)) j ≤ y := fun j hj => by
    rw [hd_set_ne (ne j hj)]
    have := h.le j (List.mem_cons_of_mem _ hj)
    omega
  refine ⟨by rw [List.length_append, List.length_set, ← h.len]; rfl, ?_, ?_, ?_, ?_, ?_, ?_, ⟨ord, i, rfl, hs⟩⟩
  · rw [List.nodup_append]
    refine ⟨nd.2, by simp, fun a ha b hb => ?_⟩
    rw [List.mem_singleton] at hb
    subst hb
    exact fun q => ne a ha q.symm
  · intro j
    rw [List.length_set, ← h.mem j, List.mem_append, List.mem_singleton, List.mem_cons]
    exact or_comm
  · intro z hz
    rcases List.mem_or_eq_of_mem_set hz with q | rfl
    · exact h.ne z q
    · simp
  · intro z hz
    rcases List.mem_or_eq_of_mem_set hz with q | rfl
    · exact h.up z q
    · rw [← e]
      exact nxt_up (h.up _ hm)
  · rw [List.pairwise_append]
    refine ⟨?_, by simp, fun a ha b hb => ?_⟩
    · refine List.Pairwise.imp_of_mem ?_ as.2
      intro a b ha hb q
      rw [hd_set_ne (ne a ha), hd_set_ne (ne b hb)]
      exact q
    · rw [List.mem_singleton] at hb
      subst hb
      rw [hs]
      exact hle a ha
  · intro j hj
    rw [List.mem_append, List.mem_singleton] at hj
    rcases hj with hj | rfl
    · exact hle j hj
    · rw [hs]
      omega
end Lp
namespace Dv
open PySem L2
section
variable {rows : List (List Int)} {S0 : Store} {order : List Nat} {fu : Nat}
structure Spt (rows left : List (List Int)) (spots : List Nat) : Prop where
  ls : spots.length = rows.length
  ll : left.length = rows.length
  at' : ∀ (i s : Nat) (row : List Int), spots[i]? = some s → rows[i]? = some row → left[i]? = some (row.drop s) ∧ s ≤ row.length
theorem Spt.set {left : List (List Int)} {spots : List Nat} (h : Spt rows left spots) {i s : Nat} {row : List Int} (hr : rows[i]? = some row) (hs : s ≤ row.length) : Spt rows (left.set i (row.drop s)) (spots.set i s) := by
  have hi : i < rows.length := (List.getElem?_eq_some_iff.mp hr).1
  refine ⟨by rw [List.length_set, h.ls], by rw [List.length_set, h.ll], fun j t row' a b => ?_⟩
  by_cases q : i = j
  · subst q
    rw [List.getElem?_set_self (by rw [h.ls]; exact hi)] at a
    rw [hr] at b
    cases a; cases b
    exact ⟨List.getElem?_set_self (by rw [h.ll]; exact hi), hs⟩
  · rw [List.getElem?_set_ne q] at a
    rw [List.getElem?_set_ne q]
    exact h.at' j t row' a b
end
end Dv
namespace Dv
open PySem L2
theorem ssI_len (ns : List Int) : (ssI ns).length ≤ ns.length := by
  have h2 : ∀ ns : List Int, (dedL ns).length ≤ ns.length := fun ns => by
    induction ns with
    | nil => exact Nat.le_refl _
    | cons x xs ih =>
      unfold dedL
      split <;> simp <;> omega
  have h1 : (ssI ns).length = (dedL ns).length := (sortL_perm _).length_eq
  have := h2 ns
  omega
end Dv
namespace Dv
open PySem PySem.Spec PyProof.Rows L2
def MaskB (m : Nat) : Prop := m = 7 ∨ m = 31 ∨ m = 127 ∨ m = 511
def orb (m : Nat) : Nat → Nat → List Nat
  | 0, _ => []
  | f + 1, x => x :: orb m f ((x * 5 + 1) % (m + 1))
theorem lcgI_next (m x : Nat) : ∀ k, lcgI m x (k + 1) = lcgI m ((x * 5 + 1) % (m + 1)) k
  | 0 => rfl
  | k + 1 => congrArg (fun z => (z * 5 + 1) % (m + 1)) (lcgI_next m x k)
theorem lcgI_sum (m x a : Nat) : ∀ k, lcgI m (lcgI m x a) k = lcgI m x (a + k)
  | 0 => rfl
  | k + 1 => congrArg (fun z => (z * 5 + 1) % (m + 1)) (lcgI_sum m x a k)
theorem mem_orb (m : Nat) : ∀ (f x j : Nat), j ∈ orb m f x → ∃ b, b < f ∧ lcgI m x b = j
  | 0, _, _, h => by cases h
  | f + 1, x, j, h => by
    rcases List.mem_cons.mp h with e | h
    · exact ⟨0, Nat.succ_pos _, e.symm⟩
    · obtain ⟨b, h1, h2⟩ := mem_orb m f _ j h
      exact ⟨b + 1, by omega, (lcgI_next m x b).trans h2⟩
theorem orb_whole {m : Nat} (h : MaskB m) : ((List.range (m + 1)).all fun j => (orb m (m + 1) 0).any fun x => x == j) = true ∧ lcgI m 0 (m + 1) = 0 := by
  rcases h with rfl | rfl | rfl | rfl <;> exact ⟨by decide +kernel, by decide +kernel⟩
theorem from0 {m j : Nat} (h : MaskB m) (hj : j ≤ m) : ∃ b, b ≤ m ∧ lcgI m 0 b = j := by
  have q := List.all_eq_true.mp (orb_whole h).1 j (List.mem_range.mpr (by omega))
  obtain ⟨x, hx, e⟩ := List.any_eq_true.mp q
  rw [eq_of_beq e] at hx
  obtain ⟨b, h1, h2⟩ := mem_orb m _ _ _ hx
  exact ⟨b, by omega, h2⟩
theorem fromI {m i j : Nat} (h : MaskB m) (hi : i ≤ m) (hj : j ≤ m) : ∃ k, k ≤ m ∧ lcgI m i k = j := by
  obtain ⟨a, ha, rfl⟩ := from0 h hi
  obtain ⟨b, hb, rfl⟩ := from0 h hj
  by_cases c : a ≤ b
  · exact ⟨b - a, by omega, by rw [lcgI_sum, show a + (b - a) = b by omega]⟩
  · refine ⟨m + 1 + b - a, by omega, ?_⟩
    rw [lcgI_sum, show a + (m + 1 + b - a) = m + 1 + b by omega, ← lcgI_sum, (orb_whole h).2]
theorem runs_to {m j : Nat} (hm : MaskB m) (h : Int) (hj : j ≤ m) : ∃ n, n ≤ m + 12 ∧ runI m (SetTable.bits h) n = j := by
  obtain ⟨k, h1, h2⟩ := fromI hm (runI_le m (SetTable.bits h) 12) hj
  exact ⟨12 + k, by omega, (runI_tail (bits_lt h) k).trans h2⟩
theorem way_in (m : Nat) (h : Int) (k : Nat) : way m h k ≤ m := by
  have hi : SetTable.bits h % (m + 1) ≤ m := Nat.le_of_lt_succ (Nat.mod_lt _ (Nat.succ_pos _))
  have hr := runEnd_bd hi
  have := nth_in (m := m) k (runAt m (SetTable.bits h % (m + 1)) (SetTable.bits h)) (show SetTable.bits h % (m + 1) + (SetTable.runEnd m (SetTable.bits h % (m + 1)) - SetTable.bits h % (m + 1)) ≤ m by omega)
  exact Nat.le_trans (Nat.le_add_right _ _) this
theorem way_off (m : Nat) (h : Int) (n : Nat) : way m h (off m (SetTable.bits h % (m + 1)) (SetTable.bits h) n) = runI m (SetTable.bits h) n := by
  have e := nth_off m n (SetTable.bits h % (m + 1)) (SetTable.bits h)
  rw [itL_run] at e
  exact congrArg SetTable.Probe.j e
structure Lay (m : Nat) (hs : List Int) (ps : List Nat) (owner : Array (Option Nat)) : Prop where
  sz : owner.size = m + 1
  len : ps.length = hs.length
  le : ∀ j ∈ ps, j ≤ m
  who : ∀ j k, j ≤ m → (oAt owner j = some k ↔ ps[k]? = some j)
  gd : ∀ (k j : Nat) (h : Int), ps[k]? = some j → hs[k]? = some h → ∃ c, way m h c = j ∧ ∀ c', c' < c → way m h c' ∈ ps
theorem app_get {α : Type} {xs : List α} {x y : α} {k : Nat} (h : (xs ++ [x])[k]? = some y) : xs[k]? = some y ∨ (k = xs.length ∧ y = x) := by
  by_cases c : k < xs.length
  · rw [List.getElem?_append_left c] at h
    exact .inl h
  · rw [List.getElem?_append_right (by omega)] at h
    obtain ⟨q, e⟩ := List.getElem?_eq_some_iff.mp h
    have q : k - xs.length < 1 := q
    have : k = xs.length := by omega
    subst this
    simp at h
    exact .inr ⟨rfl, h.symm⟩
theorem Lay.more {m : Nat} (hm : MaskB m) {hs : List Int} {ps : List Nat} {owner : Array (Option Nat)} (L : Lay m hs ps owner) (hl : hs.length ≤ m) (h : Int) :
    ∃ j, SetTable.layClean.free m owner (SetTable.turns m) (SetTable.bits h % (m + 1)) (SetTable.bits h) = some j ∧ Lay m (hs ++ [h]) (ps ++ [j]) (owner.setIfInBounds j (some hs.length)) := by
  have hps : ps.length ≤ m := by rw [L.len]; exact hl
  have free : ∀ j, j ≤ m → (oAt owner j = none ↔ j ∉ ps) := fun j hj => by
    constructor
    · intro e hm
      obtain ⟨k, hk, ek⟩ := List.mem_iff_getElem.mp hm
      have := (L.who j k hj).mpr (by rw [List.getElem?_eq_getElem hk, ek])
      rw [e] at this
      cases this
    · intro hn
      cases e : oAt owner j with
      | none => rfl
      | some k => exact absurd (List.mem_of_getElem? ((L.who j k hj).mp e)) hn
  obtain ⟨j0, h0, hn0⟩ := st_missing ps (m + 1) (by omega)
  obtain ⟨n, hn, en⟩ := runs_to hm h (show j0 ≤ m by omega)
  obtain ⟨K, k1, k2, k3⟩ := st_least (p := fun k => way m h k ∉ ps) (off m (SetTable.bits h % (m + 1)) (SetTable.bits h) n) (by
    show way m h _ ∉ ps
    rw [way_off, en]
    exact hn0)
  have k4 : ∀ c, c < K → way m h c ∈ ps := fun c hc => Classical.not_not.mp (k3 c hc)
  have hw := way_in m h K
  have fr : SetTable.layClean.free m owner (SetTable.turns m) (SetTable.bits h % (m + 1)) (SetTable.bits h) = some (way m h K) := by
    refine free_spec m owner (SetTable.turns m) n _ _ K (by unfold SetTable.turns; omega) k1 (fun c hc => ?_) ?_
    · show (oAt owner (way m h c)).isNone = false
      cases e : oAt owner (way m h c) with
      | none => exact absurd (k4 c hc) ((free _ (way_in m h c)).mp e)
      | some _ => rfl
    · show (oAt owner (way m h K)).isNone = true
      rw [(free _ hw).mpr k2]
      rfl
  refine ⟨way m h K, fr, by rw [Array.size_setIfInBounds]; exact L.sz, by rw [List.length_append, List.length_append, L.len]; rfl, fun j hj => ?_, fun j k hj => ?_, fun k j h' e1 e2 => ?_⟩
  · rcases List.mem_append.mp hj with q | q
    · exact L.le j q
    · rw [List.mem_singleton.mp q]
      exact hw
  · by_cases c : j = way m h K
    · subst c
      rw [oAt_set_self _ (by rw [L.sz]; omega)]
      constructor
      · intro e
        cases e
        rw [← L.len, List.getElem?_append_right (Nat.le_refl _), Nat.sub_self]
        rfl
      · intro e
        rcases app_get e with q | ⟨q, _⟩
        · exact absurd (List.mem_of_getElem? q) k2
        · rw [q, L.len]
    · rw [oAt_set_ne _ c, L.who j k hj]
      constructor
      · intro e
        rw [List.getElem?_append_left (List.getElem?_eq_some_iff.mp e).1]
        exact e
      · intro e
        rcases app_get e with q | ⟨_, q⟩
        · exact q
        · exact absurd q c
  · have up : ∀ {x}, x ∈ ps → x ∈ ps ++ [way m h K] := fun q => List.mem_append_left _ q
    rcases app_get e1 with q | ⟨q1, q2⟩
    · have hk : k < hs.length := by rw [← L.len]; exact (List.getElem?_eq_some_iff.mp q).1
      rw [List.getElem?_append_left hk] at e2
      obtain ⟨c, a, b⟩ := L.gd k j h' q e2
      exact ⟨c, a, fun c' hc => up (b c' hc)⟩
    · rw [q1, L.len, List.getElem?_append_right (Nat.le_refl _), Nat.sub_self] at e2
      cases e2
      exact ⟨K, q2.symm, fun c' hc => up (k4 c' hc)⟩
end Dv
namespace Dv
open PySem PySem.Spec PyProof.Rows L2
abbrev Ent := Nat × Addr × List Int
abbrev entV (P : Program) (w : World) (e : Ent) : Int × Value := (thash P w e.2.2, Value.ref e.2.1)
structure Bag (P : Program) (w : World) (h : Heap) (a : Addr) (E : List Ent) (es : Array (Int × Value)) (ep : Nat) (t : SetTable) : Prop where
  ob : ∃ o, h.get? a = some o ∧ o.ExactSet ∧ o.data = .set es ep t
  ent : es.toList = E.map (entV P w)
  pl : t.place.toList = E.map (·.1)
  ris : Ris t.place.toList
  dm : t.dummies = #[]
  msk : MaskB t.mask
  le : ∀ e ∈ E, e.1 ≤ t.mask
  gd : ∀ e ∈ E, ∃ c, way t.mask (thash P w e.2.2) c = e.1 ∧ ∀ c', c' < c → way t.mask (thash P w e.2.2) c' ∈ E.map (·.1)
  nd : (E.map (·.2.2)).Nodup
  tup : ∀ e ∈ E, IsT P w h e.2.2 e.2.1
  plain : t.plain = true
  led : w.params.followText "set-order" = true ∨ t.led = true
  room : E.length * 5 < t.mask * 3
section
variable {P : Program} {w : World} {A : Around} {Ex : Value → Shared → Prop} {s : Shared} {a : Addr} {E : List Ent} {es : Array (Int × Value)} {ep : Nat} {t : SetTable} {h : Heap}
theorem Bag.size (B : Bag P w h a E es ep t) : es.size = E.length := by
  have := congrArg List.length B.ent
  rwa [Array.length_toList, List.length_map] at this
theorem Bag.at (B : Bag P w h a E es ep t) {i : Nat} {e : Ent} (hi : E[i]? = some e) : es[i]? = some (entV P w e) ∧ t.place.toList[i]? = some e.1 := by
  rw [← Array.getElem?_toList, B.ent, B.pl, List.getElem?_map, List.getElem?_map, hi]
  exact ⟨rfl, rfl⟩
end
end Dv
namespace Dv
open PySem PySem.Spec PyProof.Rows L2
section
variable {P : Program} {w : World} {A : Around} {Ex : Value → Shared → Prop} {s : Shared} {a : Addr} {E : List Ent} {es : Array (Int × Value)} {ep : Nat} {t : SetTable}
structure Pre (P : Program) (w : World) (h : Heap) (a : Addr) (E : List Ent) (es : Array (Int × Value)) (ep : Nat) (t : SetTable) : Prop where
  ob : ∃ o, h.get? a = some o ∧ o.ExactSet ∧ o.data = .set es ep t
  ent : es.toList = E.map (entV P w)
  pl : t.place.toList = E.map (·.1)
  dm : t.dummies = #[]
  nd : (E.map (·.2.2)).Nodup
  tup : ∀ e ∈ E, IsT P w h e.2.2 e.2.1
  plain : t.plain = true
  led : w.params.followText "set-order" = true ∨ t.led = true
  fit : E.length ≤ t.mask
end
end Dv
namespace Dv
open PySem PySem.Spec PyProof.Rows L2
abbrev set0 (w : World) : Obj := { cls := .type "set", dict := none, data := .set #[] 0 (.fresh 0 0 (!(w.params.followText "set-order"))) }
structure Coll (P : Program) (w : World) (K : PySem.W.Frag) where
  new : Addr → HO
  add : Addr → V → Hp → (Hp → Prop) → Prop
  fresh : ∀ (H : Hp) (h : Heap) (a : Addr), h.get? a = some (set0 w) → ObjOk P w H h a (new a)
  adds : ∀ (X : Cx), X.prog = P → X.w = w → X.K = K → X.A.units + 65 < cLine → ∀ (pins : List (Addr × Obj)) (s : Shared) (g : L2.St) (H : Hp) (D : Addr) (y : V) (v : Value) (M : Hp → Prop) (E : Value → Shared → Prop), Inv X pins g H s → RelV y v → add D y H M →
    wpAny (model P w) X.A (call (.builtin "set.add") [.ref D, v]) (fun _ s' => ∃ H', Inv X pins g H' s' ∧ M H') E s
section
variable {X : Cx} {elt tg iter : Expr} {ifs : List Expr} {scope : Scope} {own : List (Str × Nat)} {pos : Pos} {wi : TI} {gt : TG} {tt : TT} {te : TE}
end
end Dv
namespace Dv
open PySem PySem.Spec PyProof.Rows L2
def keysL : List D → Option (List Key)
  | [] => some []
  | d :: ds => match keyOf d, keysL ds with
    | some k, some ks => some (k :: ks)
    | _, _ => none
def tkeyOf : D → Option (List Key)
  | .tup ds => keysL ds
  | _ => none
def valTD (kds : List (List Key × D)) (k : List Key) : Option D := (kds.find? fun kv => decide (kv.1 = k)).map (·.2)
def putTD (kds : List (List Key × D)) (k : List Key) (d : D) : List (List Key × D) :=
  if (kds.any fun kv => decide (kv.1 = k)) = true then kds.map fun kv => if kv.1 = k then (kv.1, d) else kv else kds ++ [(k, d)]
section
variable {K : PySem.W.Frag} {mg : Str → Option Value} {T : Tb} {H : Hp} {S : Store}
def RepT (K : PySem.W.Frag) (T : Tb) (H : Hp) (kvs : List (List Key × V)) (kds : List (List Key × D)) : Prop := kvs.map (·.1) = kds.map (·.1) ∧ RepL K T H (kvs.map (·.2)) (kds.map (·.2))
theorem RepT.nil : RepT K T H [] [] := ⟨rfl, .nil⟩
theorem RepT.uncons {kvs : List (List Key × V)} {k : List Key} {d : D} {kds : List (List Key × D)} (h : RepT K T H kvs ((k, d) :: kds)) : ∃ v r, kvs = (k, v) :: r ∧ Rep K T H v d ∧ RepT K T H r kds := by
  obtain ⟨h1, h2⟩ := h
  cases kvs with
  | nil => cases h1
  | cons p r =>
    obtain ⟨k', v⟩ := p
    rw [List.map_cons, List.map_cons, List.cons.injEq] at h1
    obtain ⟨rfl, h1⟩ := h1
    cases h2 with
    | cons a b => exact ⟨v, r, rfl, a, h1, b⟩
theorem RepT.cons {kvs : List (List Key × V)} {k : List Key} {v : V} {d : D} {kds : List (List Key × D)} (a : Rep K T H v d) (h : RepT K T H kvs kds) : RepT K T H ((k, v) :: kvs) ((k, d) :: kds) := ⟨by rw [List.map_cons, List.map_cons, h.1], .cons a h.2⟩
theorem RepT.kp {T' : Tb} {H' : Hp} {kvs : List (List Key × V)} {kds : List (List Key × D)} (s : Kp T H T' H') (h : RepT K T H kvs kds) : RepT K T' H' kvs kds := ⟨h.1, h.2.kp s⟩
theorem RepT.step {T' : Tb} {H' : Hp} {kvs : List (List Key × V)} {kds : List (List Key × D)} (s : Step T H T' H') (h : RepT K T H kvs kds) : RepT K T' H' kvs kds := h.kp s.kp
theorem RepT.length {kvs : List (List Key × V)} {kds : List (List Key × D)} (h : RepT K T H kvs kds) : kvs.length = kds.length := by
  have := congrArg List.length h.1
  simpa using this
theorem RepT.val (k : List Key) : ∀ {kds : List (List Key × D)} {kvs : List (List Key × V)}, RepT K T H kvs kds → (valV kvs k = none ∧ valTD kds k = none) ∨ ∃ v d, valV kvs k = some v ∧ valTD kds k = some d ∧ Rep K T H v d
  | [], kvs, h => by
    have : kvs = [] := List.eq_nil_of_length_eq_zero (by rw [h.length]; rfl)
    subst this
    exact .inl ⟨rfl, rfl⟩
  | (k', d) :: kds, kvs, h => by
    obtain ⟨v, r, rfl, a, b⟩ := h.uncons
    by_cases e : k' = k
    · refine .inr ⟨v, d, valV_pos e, ?_, a⟩
      unfold valTD
      simp [List.find?_cons, e]
    · have e2 : valTD ((k', d) :: kds) k = valTD kds k := by
        unfold valTD
        simp [List.find?_cons, e]
      rw [valV_neg (p := (k', v)) e, e2]
      exact b.val k
theorem RepT.any (k : List Key) : ∀ {kds : List (List Key × D)} {kvs : List (List Key × V)}, RepT K T H kvs kds → (kvs.any fun kv => decide (kv.1 = k)) = kds.any fun kv => decide (kv.1 = k)
  | [], kvs, h => by
    have : kvs = [] := List.eq_nil_of_length_eq_zero (by rw [h.length]; rfl)
    subst this
    rfl
  | (k', d) :: kds, kvs, h => by
    obtain ⟨v, r, rfl, a, b⟩ := h.uncons
    rw [List.any_cons, List.any_cons, b.any k]
theorem RepT.repl {v : V} {d : D} (rv : Rep K T H v d) (k : List Key) : ∀ {kds : List (List Key × D)} {kvs : List (List Key × V)}, RepT K T H kvs kds → RepT K T H (kvs.map fun kv => if kv.1 = k then (kv.1, v) else kv) (kds.map fun kv => if kv.1 = k then (kv.1, d) else kv)
  | [], kvs, h => by
    have : kvs = [] := List.eq_nil_of_length_eq_zero (by rw [h.length]; rfl)
    subst this
    exact .nil
  | (k', d') :: kds, kvs, h => by
    obtain ⟨v', r, rfl, a, b⟩ := h.uncons
    rw [List.map_cons, List.map_cons]
    by_cases e : k' = k
    · simp only [e, if_true]
      exact .cons rv (b.repl rv k)
    · simp only [e, if_false]
      exact .cons a (b.repl rv k)
theorem RepT.snoc {v : V} {d : D} {k : List Key} {kds : List (List Key × D)} {kvs : List (List Key × V)} (h : RepT K T H kvs kds) (rv : Rep K T H v d) : RepT K T H (kvs ++ [(k, v)]) (kds ++ [(k, d)]) := ⟨by rw [List.map_append, List.map_append, h.1]; rfl, by
  rw [List.map_append, List.map_append]
  exact RepL.append h.2 (.cons rv .nil)⟩
theorem RepT.put {v : V} {d : D} {kds : List (List Key × D)} {kvs : List (List Key × V)} (h : RepT K T H kvs kds) (k : List Key) (rv : Rep K T H v d) : RepT K T H (putK kvs k v) (putTD kds k d) := by
  unfold putK putTD
  rw [h.any k]
  split
  · exact h.repl rv k
  · exact h.snoc rv
def dttAt (d : D) (S : Store) : Option (List (List Key × D)) := match d with
  | .dtt kds => some kds
  | .loc n => match S[n]? with
    | some (.dtt kds) => some kds
    | _ => none
  | _ => none
@[simp] theorem dttAt_dtt (kds : List (List Key × D)) (S : Store) : dttAt (.dtt kds) S = some kds := rfl
@[simp] theorem dttAt_loc (n : Nat) (S : Store) : dttAt (.loc n) S = (match S[n]? with
    | some (.dtt kds) => some kds
    | _ => none) := rfl
end
end Dv
namespace Dv
open PySem PySem.Spec PyProof.Rows L2
section
variable {X : Cx} {kx vx tg iter : Expr} {ifs : List Expr} {scope : Scope} {own : List (Str × Nat)} {pos : Pos} {wi : TI} {gt : TG} {tt : TT} {tk tv : TE}
end
end Dv
namespace Dv
open PySem L2
def dcTL (gm : D → Env → Option Env) (tt : BM) (tk tv : EM) (r0 : Env) : List D → List (List Key × D) → Store → R (List (List Key × D))
  | [], acc, S => .ok acc S
  | d :: ds, acc, S => match gm d r0 with
    | none => .bad
    | some r1 => (nox (tt r1 S)).bind fun b S1 => if b = true then (nox (tk r1 S1)).bind fun k S2 => (nox (tv r1 S2)).bind fun v S3 => match tkeyOf k with
        | some key => if acc.length < 90000 then dcTL gm tt tk tv r0 ds (putTD acc key v) S3 else .bad
        | none => .bad
      else dcTL gm tt tk tv r0 ds acc S1
def dFinT (nw : Bool) (kds : List (List Key × D)) (S : Store) : R D := match nw with
  | true => .ok (.loc S.length) (S ++ [.dtt kds])
  | false => .ok (.dtt kds) S
@[simp] theorem dFinT_t (kds : List (List Key × D)) (S : Store) : dFinT true kds S = .ok (.loc S.length) (S ++ [.dtt kds]) := rfl
@[simp] theorem dFinT_f (kds : List (List Key × D)) (S : Store) : dFinT false kds S = .ok (.dtt kds) S := rfl
def mDcT (nw : Bool) (mi : IM) (vs : List Nat) (gm : D → Env → Option Env) (tt : BM) (tk tv : EM) : EM := fun r S => (mi r S).bind fun ds S1 => (dcTL gm tt tk tv (wipeE r vs) ds [] S1).bind fun kds S2 => dFinT nw kds S2
@[simp] theorem mDcT_ap {nw : Bool} {mi : IM} {vs : List Nat} {gm : D → Env → Option Env} {tt : BM} {tk tv : EM} {r : Env} {S : Store} : mDcT nw mi vs gm tt tk tv r S = (mi r S).bind fun ds S1 => (dcTL gm tt tk tv (wipeE r vs) ds [] S1).bind fun kds S2 => dFinT nw kds S2 := rfl
section
variable {X : Cx} {Wx : WX} {kx vx tg iter : Expr} {ifs : List Expr} {scope : Scope} {own : List (Str × Nat)} {pos : Pos} {mi : IM} {sl : List Nat} {gm : D → Env → Option Env} {tt : BM} {tk tv : EM} {nw : Bool}
end
end Dv
namespace Dv
open PySem PySem.Spec PyProof.Rows L2
section
variable {P : Program} {w : World} {K : PySem.W.Frag} {h : Heap} {a : Addr} {L : List (Addr × List Int)}
def BagH (P : Program) (w : World) (h : Heap) (a : Addr) (L : List (Addr × List Int)) : Prop := ∃ E es ep t o, E.map (·.2) = L ∧ h.get? a = some o ∧ ∀ h2 : Heap, h2.get? a = some o → (∀ p ∈ L, IsT P w h2 p.2 p.1) → Bag P w h2 a E es ep t
theorem BagH.keep {h2 : Heap} (B : BagH P w h a L) (k : ∀ o, h.get? a = some o → h2.get? a = some o) : BagH P w h2 a L := by
  obtain ⟨E, es, ep, t, o, e, ho, q⟩ := B
  exact ⟨E, es, ep, t, o, e, k o ho, q⟩
theorem BagH.obj (B : BagH P w h a L) : ∃ o, h.get? a = some o := by
  obtain ⟨E, es, ep, t, o, e, ho, q⟩ := B
  exact ⟨o, ho⟩
end
end Dv
set_option maxHeartbeats 1000000
namespace Dv
open PySem PySem.Spec PyProof.Rows L2
structure Stp (P : Program) (w : World) (i : Addr) (rd : List Addr) (xs : Array Value) (It : Nat → Heap → Prop) : Prop where
  keep : ∀ k h h', It k h → (∀ b ∈ i :: rd, ∀ o, h.get? b = some o → h'.get? b = some o) → It k h'
  obj : ∀ k h, It k h → ∀ b ∈ i :: rd, ∃ o, h.get? b = some o
  item : ∀ (A : Around) (E : Value → Shared → Prop) (s : Shared) (k : Nat) (x : Value) (Q : Value → Shared → Prop), It k s.heap → xs[k]? = some x → (∀ h', It (k + 1) h' → Heap.SameBut i s.heap h' → Q x { s with heap := h' }) →
    wpAny (model P w) A (Builtin.SmallTypes.nextOf (.ref i)) Q E s
  fin : ∀ (A : Around) (E : Value → Shared → Prop) (s : Shared) (k : Nat) (Q : Value → Shared → Prop), A.handled = none → It k s.heap → xs[k]? = none →
    (∀ h' e, Heap.ExtBut i s.heap h' → (∃ o, h'.get? e = some o ∧ o.cls = .type "StopIteration") → E (.ref e) { s with heap := h' }) → wpAny (model P w) A (Builtin.SmallTypes.nextOf (.ref i)) Q E s
section
variable {P : Program} {w : World}
structure Apt (z TI TO i1 i2 : Addr) (r1 r2 : List Addr) : Prop where
  nd : [z, TI, TO, i1, i2].Nodup
  a1 : ∀ b ∈ r1, b ∉ [z, TI, TO, i1, i2]
  a2 : ∀ b ∈ r2, b ∉ [z, TI, TO, i1, i2]
theorem Apt.ne {z TI TO i1 i2 : Addr} {r1 r2 : List Addr} (D : Apt z TI TO i1 i2 r1 r2) : (z ≠ TI ∧ z ≠ TO ∧ z ≠ i1 ∧ z ≠ i2) ∧ (TI ≠ TO ∧ TI ≠ i1 ∧ TI ≠ i2) ∧ (TO ≠ i1 ∧ TO ≠ i2) ∧ i1 ≠ i2 := by
  have := D.nd
  simp only [List.nodup_cons, List.mem_cons, List.not_mem_nil, or_false, not_or, not_false_eq_true, List.nodup_nil, and_true] at this
  exact this
section
variable {z TI TO i1 i2 d : Addr} {r1 r2 : List Addr} {xs ys : Array Value} {I1 I2 : Nat → Heap → Prop} {A : Around} {E : Value → Shared → Prop} {s : Shared} {k : Nat}
def ZS (z TI TO i1 i2 d : Addr) (I1 I2 : Nat → Heap → Prop) (k : Nat) (h : Heap) : Prop := IsPair h TI (.ref i1) (.ref i2) ∧ I1 k h ∧ I2 k h ∧
  ((IsZip h z TI TO .none ∧ ∃ a b, IsPair h TO a b) ∨ ∃ T f oT, IsZipHeld h z TI TO T f ∧ h.get? T = some oT ∧ T ∉ [z, i1, i2, d])
theorem ZS.type (st : ZS z TI TO i1 i2 d I1 I2 k s.heap) : s.TypeIs (.ref z) "zip" := by
  obtain ⟨_, _, _, hz⟩ := st
  rcases hz with ⟨hz, _⟩ | ⟨_, _, _, hz, _⟩
  · exact ⟨_, hz, rfl⟩
  · exact ⟨_, hz, rfl⟩
end
end
end Dv
set_option maxHeartbeats 1000000
namespace Dv
open PySem PySem.Spec PyProof.Rows L2
section
variable {P : Program} {w : World} {z TI TO i1 i2 : Addr} {r1 r2 : List Addr} {xs ys : Array Value} {I1 I2 : Nat → Heap → Prop}
end
section
variable {P : Program} {w : World} {A : Around} {E : Value → Shared → Prop} {s : Shared}
end
end Dv
namespace Dv
open PySem PySem.Spec PyProof.Rows L2
section
variable {X : Cx} {Wx : WX}
def keysOf : List D → Option (List Key)
  | [] => some []
  | d :: ds => (keyOf d).bind fun k => (keysOf ds).map (k :: ·)
def mergeKD (kds more : List (Key × D)) : List (Key × D) := more.foldl (fun acc kd => putKD acc kd.1 kd.2) kds
def dictZipD (ds : List D) (_ : Store) : Option D := match ds with
  | [.lst ns, .tup vs] => (keysOf ns).map fun ks => .dct (mergeKD [] (ks.zip vs))
  | _ => none
@[simp] theorem dictZipD_ap (ns vs : List D) (S : Store) : dictZipD [.lst ns, .tup vs] S = (keysOf ns).map fun ks => .dct (mergeKD [] (ks.zip vs)) := rfl
theorem RepK.merge {K : PySem.W.Frag} {T : Tb} {H : Hp} : ∀ {ks : List Key} {vs : List V} {ds : List D} {kvs : List (Key × V)} {kds : List (Key × D)}, RepL K T H vs ds → RepK K T H kvs kds → RepK K T H (mergeK kvs (ks.zip vs)) (mergeKD kds (ks.zip ds))
  | [], _, _, _, _, _, h => h
  | k :: ks, _, _, _, _, .nil, h => h
  | k :: ks, _, _, _, _, .cons r rl, h => RepK.merge (ks := ks) rl (h.put k r)
end
end Dv
namespace Dv
open PySem L2
def dputD (o y z : D) (r : Dv.Env) (S : Store) : Z := match o with
  | .loc n => match S[n]?, keyOf y with
    | some (.dct kds), some k => if kds.length < 90000 then .ok .next r (List.set S n (.dct (putKD kds k z))) else .bad
    | _, _ => .bad
  | _ => .bad
def sDPutD (mo mi mv : EM) : SM := fun r S => bindS (mv r S) r fun z S1 => bindS (mo r S1) r fun o S2 => bindS (mi r S2) r fun y S3 => dputD o y z r S3
@[simp] theorem sDPutD_ap {mo mi mv : EM} {r : Dv.Env} {S : Store} : sDPutD mo mi mv r S = bindS (mv r S) r fun z S1 => bindS (mo r S1) r fun o S2 => bindS (mi r S2) r fun y S3 => dputD o y z r S3 := rfl
section
variable {X : Cx} {Wx : WX} {o i e f : Expr} {pos pos' apos cpos : Pos} {mo mi mx mv : EM}
theorem js_dput (hu : X.A.units + 64 < cLine) (hv : PE X e (tD X.K X.mg Wx mv)) (ho : PE X o (tD X.K X.mg Wx mo)) (hi : PE X i (tD X.K X.mg Wx mi)) (hs : swapsWith e (some (.Subscript o i pos')) pos.line X.env = pure false := by rfl) :
    PS X (.Assign [.Subscript o i pos'] e pos) (tDS X.K X.mg Wx (sDPutD mo mi mv)) :=
  ps_imp (ps_dput (by omega) ho hi hv hs) fun E g H h => by
    obtain ⟨T, r, S, rs, sim, h⟩ := h
    refine ⟨T, r, S, rs, sim, ZOut.bind h rs fun z S1 T1 H1 u st sim1 rel rs1 h1 => ?_⟩
    refine ⟨T1, r, S1, rs1, sim1, ZOut.bind h1 rs1 fun o S2 T2 H2 x st2 sim2 rel2 rs2 h2 => ?_⟩
    refine ⟨T2, r, S2, rs2, sim2, ZOut.bind h2 rs2 fun y S3 T3 H3 w st3 sim3 rel3 rs3 h3 => ?_⟩
    unfold dputD at h3
    split at h3
    · rename_i n
      split at h3
      · rename_i kds key e1 e2
        split at h3
        · rename_i hlt
          cases rel2.step st3 with
          | @loc a _ hn =>
            obtain ⟨kvs, q1, q2, q3⟩ := sim3.obj n a _ hn e1
            have rk : RepK X.K T3 H3 kvs kds := ⟨q2, q3⟩
            have ew := key_rep rel3 e2
            subst ew
            have hz : kvs.length < sizeLine := by
              rw [rk.length]
              exact Nat.lt_of_lt_of_le (show kds.length < 100000 by omega) (sz5 (Nat.le_refl _))
            have hmem : a ∈ T3.loc := List.mem_of_getElem? hn
            have st4 : Step T3 H3 T3 (upd H3 a (.dK (putK kvs key u))) := sim3.stepSet hmem
            have hl : HLen (upd H3 a (.dK (putK kvs key u))) := hlen_oth sim3.hl fun xs => ⟨(by intro z; cases z), (by intro z; cases z), (by intro x z; cases z), (by intro x z; cases z)⟩
            have rk4 := (rk.put key (rel.step (st2.trans st3))).step st4
            exact ⟨a, _, rfl, .inl ⟨kvs, key, q1, rfl, hz, rfl⟩, h3 T3 _ g st4 (sim3.set hn hl ⟨_, upd_same, rk4.1, rk4.2⟩) (rs3.step st4)⟩
        · exact h3.elim
      · exact h3.elim
    · exact h3.elim
end
end Dv
namespace Dv
open PySem PySem.Spec PyProof.Rows L2
open L2 (St)
section
variable {X : Cx} {pins : List (Addr × Obj)} {σ : L2.St} {H : Hp} {s : Shared} {d : Addr} {o : Obj}
end
section
variable {P : Program} {w : World} {K : PySem.W.Frag} {d : Addr} {o : Obj} {es : Array DictEntry} {ep : Nat}
end
section
variable {X : Cx} {e : Expr} {td : TE} {apos cpos : Pos}
end
def tkD (k : List Key) : D := .tup (k.map keyD)
def itemsT (kds : List (List Key × D)) : List D := kds.map fun kv => .tup [tkD kv.1, kv.2]
def mItemsT (m : EM) : IM := fun r S => (m r S).bind fun d S1 => match d with
  | .dtt kds => if kds.length ≤ 90000 then .ok (itemsT kds) S1 else .bad
  | _ => .bad
@[simp] theorem mItemsT_ap {m : EM} {r : Env} {S : Store} : mItemsT m r S = (m r S).bind fun d S1 => match d with
  | .dtt kds => if kds.length ≤ 90000 then .ok (itemsT kds) S1 else .bad
  | _ => .bad := rfl
section
variable {K : PySem.W.Frag} {mg : Str → Option Value} {T : Tb} {H : Hp} {S : Store}
end
def noxZ (z : Z) : Z := match z with
  | .exc _ _ _ => .bad
  | z => z
@[simp] theorem noxZ_ok (f : Fl) (r : Env) (S : Store) : noxZ (.ok f r S) = .ok f r S := rfl
def sForT (m : EM) (gm : D → Env → Option Env) (b : SM) : SM := fun r S => bindS (mItemsT m r S) r fun ds S1 => noxZ (sLoop gm b ds r S1)
@[simp] theorem sForT_ap {m : EM} {gm : D → Env → Option Env} {b : SM} {r : Env} {S : Store} : sForT m gm b r S = bindS (mItemsT m r S) r fun ds S1 => noxZ (sLoop gm b ds r S1) := rfl
section
variable {X : Cx} {Wx : WX} {e : Expr} {apos cpos pos tpos : Pos} {m : EM} {elts : List Expr} {kk : Nat} {sl : List Nat} {gm : D → Env → Option Env} {sb : SM}
end
end Dv
namespace Dv
open PySem L2
def max2D (ds : List D) (_ : Store) : Option D := match ds with
  | [.int i, .int j] => some (.int (if j > i then j else i))
  | _ => none
section
variable {K : PySem.W.Frag} {mg : Str → Option Value}
theorem ints2 {T : Tb} {H : Hp} {vs : List V} {i j : Int} (h : RepL K T H vs [.int i, .int j]) : vs = [.int i, .int j] := by
  cases h with
  | cons a t =>
    cases t with
    | cons b u =>
      cases u
      rw [a.int_of, b.int_of]
theorem pok_max2 : POk K mg (fun xs H Q => ∃ i j, xs = [V.int i, V.int j] ∧ Q (.int (if j > i then j else i)) H) max2D := fun T S H vs ds d Q sim rep e k => by
  unfold max2D at e
  split at e
  · rename_i i j
    cases e
    exact ⟨i, j, ints2 rep, k H _ (Step.refl T H) sim (.int _)⟩
  · cases e
end
end Dv
namespace Dv
open PySem PySem.Spec PyProof.Rows L2
def sRaise (x : Str) : SM := fun r S => .exc x r S
@[simp] theorem sRaise_ap (x : Str) (r : Env) (S : Store) : sRaise x r S = .exc x r S := rfl
def sTry (x : Str) (sa sb : SM) : SM := fun r S => match sa r S with
  | .exc m r1 S1 => if m = x then noxZ (sb r1 S1) else .bad
  | z => z
@[simp] theorem sTry_ap (x : Str) (sa sb : SM) (r : Env) (S : Store) : sTry x sa sb r S = (match sa r S with
  | .exc m r1 S1 => if m = x then noxZ (sb r1 S1) else .bad
  | z => z) := rfl
section
variable {X : Cx} {Wx : WX} {x : Str} {C : Addr} {p pos pos' np : Pos}
theorem pmk_own0 {bmB : List Value} {B newId initId : String} (F : ExcBaseFacts B newId initId bmB) (q : PySem.W.excIn X.K C bmB newId = true) (gC : X.mg x = some (.ref C)) (kC : PySem.W.keepIn X.K (.ref C) = true) (r : Raises X (.ref C)) (hg : Gl X x)
    (hdb : (x == ("__debug__" : Str)) = false := by decide) : PMk X (.Call (.Name x p) [] [] pos) (fun _ H Q => Q (.ref C) none H) := by
  intro pins s σ H Q I h
  refine wpAny_Call_Name_kw (ld_glob I hg gC ?_ hdb)
  refine PySem.W.callWith_K0 I.kIn kC ?_
  show wpAny _ _ (call (.ref C) []) _ _ _
  obtain ⟨bm, N, nm, qn, bs, hdct, sn, sub, ab, col, dd, k0, k1, k2, k3, k5, mN, hC, hN, hni, T⟩ := exc_obj I.kIn q
  refine wpAny_call_exc_subT F T hC hN hni (fun h' e hm => ?_) (Nat.zero_le _)
  exact mk_of I hm r h (I.hok.gone hm.new)
theorem js_raise {bmB : List Value} {B newId initId : String} (hc : X.calm = true) (tk : Takes X Wx) (F : ExcBaseFacts B newId initId bmB) (q : PySem.W.excIn X.K C bmB newId = true) (gC : X.mg x = some (.ref C)) (kC : PySem.W.keepIn X.K (.ref C) = true) (r : Raises X (.ref C)) (hg : Gl X x)
    (hdb : (x == ("__debug__" : Str)) = false := by decide) : PS X (.Raise (some (.Call (.Name x p) [] [] pos)) none pos') (tDS X.K X.mg Wx (sRaise x)) :=
  ps_imp (ps_raise hc tk (pmk_own0 F q gC kC r hg hdb)) fun E g H h => by
    obtain ⟨T, r, S, rs, sim, h⟩ := h
    exact h T H g (Step.refl T H) sim rs (.ref C) gC
end
theorem exm_own {K : PySem.W.Frag} {S : Addr} (h1 : PySem.W.subIn K (.ref S) (.type "BaseException") = some true) (h2 : PySem.W.isClsIn K S = true) (h3 : PySem.W.typeIn K (.ref S) = some (.type "type")) (h4 : PySem.W.subIn K (.ref S) (.ref S) = some true) : PySem.W.exmOne K (.ref S) (.ref S) = some true := by
  have h2 : (PySem.W.clsIn K S).isSome = true := h2
  unfold PySem.W.exmOne PySem.W.kitCls
  simp only [h1, h2, h3, h4]
  rfl
structure ExcOk (K : PySem.W.Frag) (mg : Str → Option Value) (x : Str) (C : Addr) : Prop where
  g : mg x = some (.ref C)
  q : PySem.W.excIn K C [.type "ValueError", .type "Exception", .type "BaseException", .type "object"] "ValueError.__new__" = true
  k : PySem.W.keepIn K (.ref C) = true
  b : PySem.W.subIn K (.ref C) (.type "BaseException") = some true
  t : PySem.W.typeIn K (.ref C) = some (.type "type")
  m : PySem.W.exmOne K (.ref C) (.ref C) = some true
section
variable {X : Cx} {Wx : WX} {x : Str} {C : Addr} {p pos pos' np : Pos}
theorem js_raiseX (o : ExcOk X.K X.mg x C) (hc : X.calm = true) (tk : Takes X Wx) (hg : Gl X x) (hdb : (x == ("__debug__" : Str)) = false := by decide) : PS X (.Raise (some (.Call (.Name x p) [] [] pos)) none pos') (tDS X.K X.mg Wx (sRaise x)) :=
  js_raise hc tk PySem.F.excBase_ValueError o.q o.g o.k (raises_own o.b o.t) hg hdb
end
end Dv
namespace Dv
open PySem L2
theorem fin_excL {S : Store} {n : Str} {rho : Env} : finT S (.exc n rho S) = .exc n S := by
  have tr : Tr S S := ⟨Nat.le_refl _, fun i o _ h => .inl h⟩
  unfold finT
  simp only [if_pos tr, List.take_length]
section
variable {S : Store} {l v : Nat} {rows : List (List Int)} {lv : List (Nat × Nat × Nat)} {m : Int} {w fu : Nat} {x : Str}
theorem opened_no {rk : SM} (h : Lk S l v rows lv m) (T : Tab rows w) (hn : rows = [] ∨ endB lv = true ∨ lv.length = w) : FOpened rk (sRaise x) fu [.loc l] S = .exc x S := by
  have eb : ∃ rho, mOpened rk (sRaise x) fu (frame 4 [.loc l]) S = .exc x rho S := by
    rw [show frame 4 [.loc l] = [some (.loc l), none, none, none] from rfl]
    unfold mOpened
    have hE := end_ok h
    have e1 := eq_rows (S := S) (rows := rows) 0
    cases rows with
    | nil =>
      rw [decide_eq_true rfl] at e1
      have e1' : eqD (.tup []) (.tup []) S = some (.bl true) := e1
      simp [h.o, lkF_levels, lkF_rows, h.v, e1']
    | cons row rs =>
      rw [decide_eq_false (by simp)] at e1
      have a1 : atI ((row :: rs).map rowD) 0 = some (rowD row) := atI_zero _ _
      have a2 : ∀ S, lenD [rowD row] S = some (.int row.length) := fun S => by simp [rowD]
      have hw : row.length = w := T.wd row List.mem_cons_self
      cases hb : endB lv with
      | true => rw [hb] at hE; simp [h.o, lkF_levels, lkF_rows, h.v, hE, mth_at_end, e1, -List.map_cons]
      | false =>
        rw [hb] at hE
        have hl : lv.length = w := by
          rcases hn with q | q | q
          · cases q
          · rw [hb] at q; cases q
          · exact q
        have a3 : (lv.length : Int) = row.length := by omega
        simp [h.o, lkF_levels, lkF_rows, h.v, hE, mth_at_end, e1, a1, a2, a3, -List.map_cons]
  obtain ⟨rho, eb⟩ := eb
  show finT S (mOpened rk (sRaise x) fu (frame 4 _) S) = _
  rw [eb]
  exact fin_excL
theorem up_no (h : Lk S l v rows [] m) : FUp (sRaise x) [.loc l] S = .exc x S := by
  have eb : ∃ rho, mUp (sRaise x) (frame 1 [.loc l]) S = .exc x rho S := by
    rw [show frame 1 [.loc l] = [some (.loc l)] from rfl]
    unfold mUp
    simp [h.o, lkF_levels, h.v]
  obtain ⟨rho, eb⟩ := eb
  show finT S (mUp (sRaise x) (frame 1 _) S) = _
  rw [eb]
  exact fin_excL
theorem key_no (h : Lk S l v rows lv m) (hn : lv = [] ∨ endB lv = true) : FKey (sRaise x) [.loc l] S = .exc x S := by
  have eb : ∃ rho, mKey (sRaise x) (frame 1 [.loc l]) S = .exc x rho S := by
    rw [show frame 1 [.loc l] = [some (.loc l)] from rfl]
    unfold mKey
    have hE := end_ok h
    cases lv with
    | nil => simp [h.o, lkF_levels, h.v]
    | cons y ys =>
      have hb : endB (y :: ys) = true := by
        rcases hn with q | q
        · cases q
        · exact q
      rw [hb] at hE
      simp [h.o, lkF_levels, h.v, hE, mth_at_end]
  obtain ⟨rho, eb⟩ := eb
  show finT S (mKey (sRaise x) (frame 1 _) S) = _
  rw [eb]
  exact fin_excL
theorem further_no (h : Lk S l v rows lv m) (hn : lv = [] ∨ endB lv = true) : FFurther (sRaise x) fu [.loc l] S = .exc x S := by
  have eb : ∃ rho, mFurther (sRaise x) fu (frame 1 [.loc l]) S = .exc x rho S := by
    rw [show frame 1 [.loc l] = [some (.loc l)] from rfl]
    unfold mFurther
    have ek := key_no (x := x) h hn
    simp [h.o, mth_goto, mth_behind, mth_key, ek]
  obtain ⟨rho, eb⟩ := eb
  show finT S (mFurther (sRaise x) fu (frame 1 _) S) = _
  rw [eb]
  exact fin_excL
theorem reach_no {y : Int} (h : Lk S l v rows lv m) (hn : lv = [] ∨ endB lv = true) : FReach (sRaise x) fu [.loc l, .int y] S = .exc x S := by
  have eb : ∃ rho, mReach (sRaise x) fu (frame 2 [.loc l, .int y]) S = .exc x rho S := by
    rw [show frame 2 [.loc l, .int y] = [some (.loc l), some (.int y)] from rfl]
    unfold mReach
    have ek := key_no (x := x) h hn
    simp [h.o, mth_goto, mth_behind, mth_key, ek]
  obtain ⟨rho, eb⟩ := eb
  show finT S (mReach (sRaise x) fu (frame 2 _) S) = _
  rw [eb]
  exact fin_excL
end
structure Ways (rows : List (List Int)) (w : Nat) (lv : List (Nat × Nat × Nat)) : Prop where
  g : Good rows lv
  len : lv.length ≤ w
  nest : ∀ k x y, lv[k]? = some x → lv[k + 1]? = some y → x.2.2 < x.2.1 ∧ y.1 = x.2.2
def pathOf (rows : List (List Int)) (lv : List (Nat × Nat × Nat)) : List Int := match lv.getLast? with
  | none => []
  | some x => if x.2.2 = x.2.1 then tk rows (lv.length - 1) x.1 else tk rows lv.length x.2.2
section
variable {rows : List (List Int)} {lv : List (Nat × Nat × Nat)} {w : Nat}
theorem pathOf_nil : pathOf rows [] = [] := rfl
theorem pathOf_end {lo far : Nat} : pathOf rows (lv ++ [(lo, far, far)]) = tk rows lv.length lo := by
  unfold pathOf
  simp
theorem pathOf_at {lo far at_ : Nat} (h : at_ ≠ far) : pathOf rows (lv ++ [(lo, far, at_)]) = tk rows (lv.length + 1) at_ := by
  unfold pathOf
  simp [h]
theorem endB_snoc {x : Nat × Nat × Nat} : endB (lv ++ [x]) = decide (x.2.2 = x.2.1) := by
  unfold endB
  simp
theorem tk_zero (i : Nat) : tk rows 0 i = [] := List.take_zero
theorem tk_length (T : Tab rows w) {d i : Nat} (hd : d ≤ w) (hi : i < rows.length) : (tk rows d i).length = d := by
  rw [tk, List.length_take, T.len hi]
  omega
theorem mem_trie (T : Tab rows w) {d lo far : Nat} (hd : d < w) (b : Blk rows d lo far) (z : Int) : z ∈ trieI rows (tk rows d lo) ↔ ∃ i, lo ≤ i ∧ i < far ∧ cl rows d i = z := by
  have hlo : lo < rows.length := Nat.lt_of_lt_of_le b.lt b.le
  have hl : (tk rows d lo).length = d := tk_length T (Nat.le_of_lt hd) hlo
  unfold trieI
  rw [mem_ssI, hl, List.mem_map]
  constructor
  · rintro ⟨r, hr, rfl⟩
    rw [List.mem_filter] at hr
    obtain ⟨i, hi, rfl⟩ := List.mem_iff_getElem.mp hr.1
    have e : tk rows d i = tk rows d lo := by
      show (rows.getD i []).take d = _
      rw [getD_lt hi]
      exact of_decide_eq_true hr.2
    obtain ⟨h1, h2⟩ := (b.iff i hi).mp e
    refine ⟨i, h1, h2, ?_⟩
    show (rows.getD i []).getD d 0 = _
    rw [getD_lt hi]
  · rintro ⟨i, h1, h2, rfl⟩
    have hi : i < rows.length := Nat.lt_of_lt_of_le h2 b.le
    refine ⟨rows[i], List.mem_filter.mpr ⟨List.getElem_mem hi, decide_eq_true ?_⟩, ?_⟩
    · have := (b.iff i hi).mpr ⟨h1, h2⟩
      rw [tk, getD_lt hi] at this
      exact this
    · show _ = (rows.getD i []).getD d 0
      rw [getD_lt hi]
theorem head_of {xs : List Int} {x : Int} (hs : xs.Pairwise (· < ·)) (hx : x ∈ xs) (hm : ∀ y ∈ xs, x ≤ y) : ∃ t, xs = x :: t := by
  cases xs with
  | nil => cases hx
  | cons y t =>
    rcases List.mem_cons.mp hx with e | e
    · exact ⟨t, by rw [e]⟩
    · have h1 := hm y List.mem_cons_self
      have h2 := (List.pairwise_cons.mp hs).1 x e
      omega
theorem trie_from (T : Tab rows w) {d lo far p : Nat} {L : Int} (hd : d < w) (b : Blk rows d lo far) (h1 : lo ≤ p) (h2 : p ≤ far) (hlt : ∀ i, lo ≤ i → i < p → cl rows d i < L) (hge : p < far → L ≤ cl rows d p) :
    (p = far ∧ (trieI rows (tk rows d lo)).filter (fun z => decide (L ≤ z)) = []) ∨ (p < far ∧ ∃ t, (trieI rows (tk rows d lo)).filter (fun z => decide (L ≤ z)) = cl rows d p :: t) := by
  rcases Nat.lt_or_eq_of_le h2 with q | q
  · refine .inr ⟨q, head_of ((ssI_strict _).filter _) (List.mem_filter.mpr ⟨(mem_trie T hd b _).mpr ⟨p, h1, q, rfl⟩, decide_eq_true (hge q)⟩) fun y hy => ?_⟩
    obtain ⟨hy1, hy2⟩ := List.mem_filter.mp hy
    obtain ⟨i, i1, i2, rfl⟩ := (mem_trie T hd b _).mp hy1
    rcases Nat.lt_or_ge i p with z | z
    · have := hlt i i1 z
      have := of_decide_eq_true hy2
      omega
    · exact b.mono T hd h1 z i2
  · refine .inl ⟨q, List.filter_eq_nil_iff.mpr fun y hy => ?_⟩
    obtain ⟨i, i1, i2, rfl⟩ := (mem_trie T hd b _).mp hy
    have := hlt i i1 (by omega)
    rw [decide_eq_true_eq]
    omega
theorem trie_first (T : Tab rows w) {d lo far : Nat} (hd : d < w) (b : Blk rows d lo far) : ∃ t, trieI rows (tk rows d lo) = cl rows d lo :: t :=
  head_of (ssI_strict _) ((mem_trie T hd b _).mpr ⟨lo, Nat.le_refl _, b.lt, rfl⟩) fun y hy => by
    obtain ⟨i, i1, i2, rfl⟩ := (mem_trie T hd b _).mp hy
    exact b.mono T hd (Nat.le_refl _) i1 i2
theorem Ways.nil : Ways rows w [] := ⟨fun k x e => by simp at e, Nat.zero_le _, fun k x y e => by simp at e⟩
theorem Ways.front {x : Nat × Nat × Nat} (h : Ways rows w (lv ++ [x])) : Ways rows w lv := ⟨h.g.front, by have := h.len; rw [List.length_append] at this; omega, fun k a b e1 e2 => by
  have h1 := (List.getElem?_eq_some_iff.mp e1).1
  have h2 := (List.getElem?_eq_some_iff.mp e2).1
  exact h.nest k a b (by rw [List.getElem?_append_left h1]; exact e1) (by rw [List.getElem?_append_left h2]; exact e2)⟩
theorem Ways.snoc {x : Nat × Nat × Nat} (h : Ways rows w lv) (hx : St rows lv.length x) (hl : lv.length < w) (hn : ∀ lv' y, lv = lv' ++ [y] → y.2.2 < y.2.1 ∧ x.1 = y.2.2) : Ways rows w (lv ++ [x]) := ⟨h.g.snoc hx, by rw [List.length_append, List.length_singleton]; omega, fun k a b e1 e2 => by
  by_cases hk : k + 1 < lv.length
  · rw [List.getElem?_append_left (by omega)] at e1
    rw [List.getElem?_append_left hk] at e2
    exact h.nest k a b e1 e2
  · have h2 := (List.getElem?_eq_some_iff.mp e2).1
    rw [List.length_append, List.length_singleton] at h2
    have hk2 : lv.length = k + 1 := by omega
    rw [← hk2, List.getElem?_append_right (Nat.le_refl _), Nat.sub_self] at e2
    cases e2
    rw [List.getElem?_append_left (by omega)] at e1
    obtain ⟨lv', y, rfl⟩ : ∃ lv' y, lv = lv' ++ [y] := by
      rcases List.eq_nil_or_concat lv with e | ⟨a, b, e⟩
      · rw [e] at hk2; simp at hk2
      · exact ⟨a, b, by rw [e, List.concat_eq_append]⟩
    have hk3 : k = lv'.length := by
      rw [List.length_append, List.length_singleton] at hk2
      omega
    subst hk3
    rw [List.getElem?_append_right (Nat.le_refl _), Nat.sub_self] at e1
    cases e1
    exact hn _ _ rfl⟩
theorem Ways.last {x y : Nat × Nat × Nat} {lv' : List (Nat × Nat × Nat)} (h : Ways rows w (lv' ++ [y] ++ [x])) : y.2.2 < y.2.1 ∧ x.1 = y.2.2 :=
  h.nest lv'.length y x (by simp) (by simp)
theorem Ways.go {lo far at_ p : Nat} (h : Ways rows w (lv ++ [(lo, far, at_)])) (st : St rows lv.length (lo, far, p)) : Ways rows w (lv ++ [(lo, far, p)]) :=
  h.front.snoc st (by have := h.len; rw [List.length_append, List.length_singleton] at this; omega) fun lv' y e => by
    subst e
    exact h.last
end
section
variable {S : Store} {l v : Nat} {rows : List (List Int)} {lv : List (Nat × Nat × Nat)} {m : Int} {w fu : Nat} {x : Str}
theorem opened_way {rk rs : SM} (T : Tab rows w) (h : Lk S l v rows lv m) (W : Ways rows w lv) (hne : rows ≠ []) (hd : lv.length < w) (he : endB lv = false) (hfu : rows.length < fu) :
    ∃ lo far, Blk rows lv.length lo far ∧ Ways rows w (lv ++ [(lo, far, lo)]) ∧ pathOf rows lv = tk rows lv.length lo ∧ FOpened rk rs fu [.loc l] S = .ok .non (List.set S v (.lst ((lv ++ [(lo, far, lo)]).map lvD))) := by
  have hend : ∀ lv' lo far at_, lv = lv' ++ [(lo, far, at_)] → at_ < far := fun lv' lo far at_ e => by
    subst e
    rw [endB_snoc, decide_eq_false_iff_not] at he
    have := W.g.last.hi
    simp only at this he
    omega
  obtain ⟨lo, far, b, h0, h1, e⟩ := opn_ok (rk := rk) (rs := rs) (fu := fu) T h W.g hne hd hend hfu
  refine ⟨lo, far, b, W.snoc (St.start b) hd fun lv' y ey => ?_, ?_, e⟩
  · obtain ⟨a, c, d⟩ := y
    exact ⟨hend _ _ _ _ ey, h1 _ _ _ _ ey⟩
  · rcases List.eq_nil_or_concat lv with rfl | ⟨lv', y, rfl⟩
    · rw [pathOf_nil, List.length_nil, tk_zero]
    · rw [List.concat_eq_append] at *
      obtain ⟨a, c, d⟩ := y
      have h2 := hend _ _ _ _ rfl
      rw [pathOf_at (by omega), h1 _ _ _ _ rfl, List.length_append, List.length_singleton]
theorem up_way {rs : SM} {y : Nat × Nat × Nat} (T : Tab rows w) (h : Lk S l v rows (lv ++ [y]) m) (W : Ways rows w (lv ++ [y])) : FUp rs [.loc l] S = .ok .non (List.set S v (.lst (lv.map lvD))) ∧ endB lv = false ∧
    (if endB (lv ++ [y]) = true then pathOf rows (lv ++ [y]) else (pathOf rows (lv ++ [y])).dropLast) = pathOf rows lv := by
  refine ⟨up_ok h, ?_, ?_⟩
  · rcases List.eq_nil_or_concat lv with rfl | ⟨lv', z, rfl⟩
    · rfl
    · rw [List.concat_eq_append] at *
      have := W.last.1
      rw [endB_snoc, decide_eq_false_iff_not]
      omega
  · obtain ⟨lo, far, at_⟩ := y
    have st := W.g.last
    have hlo := st.lo
    have hhi := st.hi
    have hble := st.blk.le
    have hl := W.len
    rw [List.length_append, List.length_singleton] at hl
    simp only at hlo hhi hble
    have e1 : pathOf rows lv = tk rows lv.length lo := by
      rcases List.eq_nil_or_concat lv with rfl | ⟨lv', z, rfl⟩
      · rw [pathOf_nil, List.length_nil, tk_zero]
      · rw [List.concat_eq_append] at *
        obtain ⟨a, c, d⟩ := z
        obtain ⟨h1, h2⟩ := W.last
        simp only at h1 h2
        rw [pathOf_at (by omega), h2, List.length_append, List.length_singleton]
    rw [endB_snoc, e1]
    by_cases e : at_ = far
    · subst e
      rw [if_pos (by simp), pathOf_end]
    · rw [if_neg (by simpa using e), pathOf_at e, tk_succ T (by omega) (by omega), List.dropLast_concat]
      exact st.blk.tk hlo (by simp only; omega)
theorem path_go {lo far p : Nat} (T : Tab rows w) (hl : lv.length < w) (st : St rows lv.length (lo, far, p)) : (p = far ∧ pathOf rows (lv ++ [(lo, far, p)]) = tk rows lv.length lo) ∨ (p < far ∧ pathOf rows (lv ++ [(lo, far, p)]) = tk rows lv.length lo ++ [cl rows lv.length p]) := by
  have hlo := st.lo
  have hhi := st.hi
  have hble := st.blk.le
  simp only at hlo hhi hble
  rcases Nat.lt_or_eq_of_le hhi with q | q
  · refine .inr ⟨q, ?_⟩
    rw [pathOf_at (by omega), tk_succ T hl (by omega)]
    congr 1
    exact st.blk.tk hlo q
  · refine .inl ⟨q, ?_⟩
    subst q
    exact pathOf_end
theorem mvS_same (h : Lk S l v rows lv m) (lv' : List (Nat × Nat × Nat)) : mvS S l v rows lv' m = List.set S v (.lst (lv'.map lvD)) := by
  unfold mvS
  have h1 := h.ne
  refine List.ext_getElem? fun i => ?_
  by_cases e : i = l
  · subst e
    have hl : i < S.length := (List.getElem?_eq_some_iff.mp h.o).1
    rw [List.getElem?_set_self (by rw [List.length_set]; exact hl), List.getElem?_set_ne h1, h.o]
  · rw [List.getElem?_set_ne (Ne.symm e)]
end
end Dv
namespace Dv
open PySem PySem.Spec PyProof.Rows L2
structure FnE (P : Program) (w : World) (K : PySem.W.Frag) (mg : Str → Option Value) (base : Heap) (k : Nat) (f : Addr) (fd : FuncData) (x : Str) (res : Addr → Str → Prop) : Prop where
  run : ∀ (A : Around) (outer : List PySem.Env) (s : Shared) (H : Hp) (args : Args) (Q : VK) (E : XK) (p : Addr × Obj) (D : Addr) (r : Str) (T : Tb) (S : Store), L2H.RoomH k A → L2H.PinOk outer H s p → Zc (.ref D) none p.2 → (∃ vs, p.2.data = .fields vs) → res D r → Sim K mg T S H →
    Env0 P w K mg base A outer s H → BindsTo s fd args [(x, .ref p.1)] → (∀ T' H', Step T H T' H' → Sim K mg T' S H' → Q (.str r) H') → codeAny (model P w) A (.call (.ref f) args) (CR (L2.CX P w) outer P w H s Q E) s
section
variable {P : Program} {w : World} {K : PySem.W.Frag} {mg : Str → Option Value} {base : Heap} {qual : Str} {st : Stmt} {f : Addr} {fd : FuncData} {N : List Str} {k : Nat} {x : Str}
abbrev cxE (P : Program) (w : World) (K : PySem.W.Frag) (mg : Str → Option Value) (base : Heap) (N : List Str) (qual : Str) (st : Stmt) (f : Addr) (cdv : Value) (A : Around) (outer : List PySem.Env) (s : Shared) (H : Hp) (E : XK) (p : Addr × Obj) : Cx :=
  L2H.cxH (L2.CX P w) P w K mg base N qual (defScope st) f cdv A outer s H E p
theorem fnE {res : Addr → Str → Prop} (F : Fun K x qual st f fd) {y : Str} (Sc : FnScope N [y] (defScope st))
    (hb : ∀ (D : Addr) (r : Str), res D r → ∃ b : Addr → SM, (∀ (a : Addr) (S : Store), finK (b a (frame N.length [.adr a]) S) = .ok (.str r) S) ∧
      ∀ (cdv : Value) (A : Around) (outer : List PySem.Env) (s : Shared) (H : Hp) (E : XK) (p : Addr × Obj), Zc (.ref D) none p.2 → (∃ vs, p.2.data = .fields vs) → PSs (cxE P w K mg base N qual st f cdv A outer s H E p) (defBody st) (tDS K mg W0 (b p.1))) :
    FnE P w K mg base (k + 1) f fd y res := by
  obtain ⟨⟨oc, od, kV, dc, pm, an, cdv, ct, osl, rfl, lk, hcd⟩, kp⟩ := F
  refine ⟨fun A outer s H args Q E p D r T S hr hpin hz hfl hres sim e0 hbd hQ => ?_⟩
  obtain ⟨b, hfin, hps⟩ := hb D r hres
  have KX : K.In s.heap := e0.mod.kin.keeps fun b o e => (e0.bs b o e).1
  have lim : s.heap.NoLimit := e0.mod.nolimit.keeps fun b o e => (e0.bs b o e).1
  have hkind : ∀ z ∈ [y].zip [Value.ref p.1], (defScope st).names.lookup z.1 = some .local ∨ ((defScope st).names.lookup z.1 = some .cell ∧ ((cellsFrom (s.heap.objs.size + 1) (defScope st).names []).lookup z.1).isSome = true) := fun ⟨n, v⟩ hy => by
    rcases Sc.par n (List.of_mem_zip hy).1 with q | q
    · exact .inl q
    · exact .inr ⟨q, PySem.W.cellsFrom_some _ _ _ (.inl q)⟩
  refine codeAny_call_function hr.depth (KX _ _ lk) rfl Sc.co Sc.gen rfl (PySem.W.codeRec_of KX hcd) (hbd _ _ _ _ ?_)
  refine wpAny_newFunctionEnv_cells Sc.kind hkind fun env he s1 x => ?_
  subst he
  refine ⟨lim.keeps x.toInCall.keep, codeAny_func ?_⟩
  have I : Inv (cxE P w K mg base N qual st f cdv A outer s H E p) [] (L2.start N [.ref p.1]) H s1 := L2H.inv_startH Sc hpin e0 rfl (.cons rfl .nil) x
  have rs : RepSt K T H (frame N.length [.adr p.1]) (L2.start N [.ref p.1]) := frame_ok N (.cons (.adr p.1) .nil)
  have hfin := hfin p.1 S
  have hq : tDS K mg W0 (b p.1) { nx := fun _ H' => Q .non H', rt := Q } (L2.start N [.ref p.1]) H := by
    refine ⟨T, _, S, rs, sim, ?_⟩
    revert hfin
    cases b p.1 (frame N.length [.adr p.1]) S with
    | bad => exact fun h => nomatch h
    | exc n r' S' => exact fun h => nomatch h
    | ok fl r' S' =>
      cases fl with
      | next => intro h; cases h
      | brk => exact fun h => nomatch h
      | cont => exact fun h => nomatch h
      | ret d =>
        intro h
        cases h
        intro T' H' v st' sim' rep
        rw [rep.str_of]
        exact hQ T' H' st' sim'
  refine wpAny_mono ((hps cdv A outer s H E p hz hfl).run [] s1 (L2.start N [.ref p.1]) H _ I hq) (fun fl s' hs => ?_) fun e s' hs => hs
  have fin : ∀ {σ' : L2.St} {H' : Hp} {v : V} {u : Value}, Inv (cxE P w K mg base N qual st f cdv A outer s H E p) [] σ' H' s' → RelV v u → Q v H' → CE outer P w H s Q u s' :=
    fun {σ' H' v u} J rv q => ⟨v, H', J.os, J.bare, J.base, J.hok, rv, q⟩
  cases fl with
  | ret u =>
    obtain ⟨v, σ', H', J, rv, q⟩ := hs
    exact fin J rv q
  | next =>
    obtain ⟨σ', H', J, q⟩ := hs
    exact fin (v := V.non) (u := Value.none) J rfl q
  | brk =>
    obtain ⟨_, _, _, q⟩ := hs
    exact False.elim q
  | cont =>
    obtain ⟨_, _, _, q⟩ := hs
    exact False.elim q
end
section
variable {X : Cx} {k : Nat} {f : Addr} {fd : FuncData} {x y n : Str} {res : Addr → Str → Prop} {q p2 pos : Pos} {i : Nat}
def tCallE (K : PySem.W.Frag) (mg : Str → Option Value) (i : Nat) (a : Addr) (r : Str) : TE := fun σ H Q => ∃ T S, σ[i]? = some (some (V.ref a)) ∧ Sim K mg T S H ∧ ∀ T' H', Step T H T' H' → Sim K mg T' S H' → Q (.str r) H'
theorem pe_callE (F : FnE X.prog X.w X.K X.mg X.base k f fd y res) {a D : Addr} {oe : Obj} {r : Str} (hz : Zc (.ref D) none oe) (hf : ∃ vs, oe.data = .fields vs) (hres : res D r) (hr : L2H.RoomH k X.A) (hp : (a, oe) ∈ X.pn) (hg : Gl X x) (hm : X.mg x = some (.ref f))
    (hk : PySem.W.keepIn X.K (.ref f) = true) (hb : Binds X.K fd [y] []) (hN : X.N[i]? = some n) (hv : Vis X.env.scope n) (hd : (n == ("__debug__" : Str)) = false) (hcd : (n == ("__classdict__" : Str)) = false) (hdb : (x == ("__debug__" : Str)) = false)
    (he : starEach [.Name n p2] X.env = (false, eval (.Name n p2) X.env) :: starEach [] X.env) (hpl : (backTo pos (starEach [] X.env)).any (·.1) = false) :
    PE X (.Call (.Name x q) [.Name n p2] [] pos) (tCallE X.K X.mg i a r) := by
  refine ⟨fun pins s σ H Q I h => ?_⟩
  obtain ⟨T, S, hσ, sim, hQ⟩ := h
  have ha := pa_cons (pe_var (X := X) (pos := p2) hN hv hd hcd) pa_nil he
  refine wpAny_Call_Name_kw (ld_glob I hg hm ?_ hdb)
  refine PySem.W.callWith_K (h₀ := X.base) I.ok.mod.kin hk (thn (ha.run pos pins s σ H (fun vs H' => vs = [V.ref a] ∧ H' = H) I ⟨_, hσ, rfl, rfl⟩) fun us s1 ⟨vs, H1, I1, r1, e1, e2⟩ => ⟨I1.kIn, ?_⟩) he hpl
  subst e1 e2
  rw [Vals.ref1 r1]
  have b := hb s1 [Value.ref a] I1.kIn rfl
  have P1 := I1.pin (a, oe) (List.mem_append_left _ hp)
  have hpin : L2H.PinOk X.stack H1 s1 (a, oe) := ⟨P1.1, P1.2.1, fun hm => (List.mem_cons.mp (I1.stkSub a hm)).elim P1.2.2.1 P1.2.2.2.1, P1.2.2.2.2⟩
  refine wpAny_call (codeAny_mono (F.run X.A X.stack s1 H1 ⟨[.ref a], []⟩ Q (WE (fun _ _ _ _ => False) σ) (a, oe) D r T S hr hpin hz hf hres sim I1.env0 b hQ) fun r s' hq => ?_)
  cases r with
  | error e => exact passAt takes0 σ pins H1 s1 e s' I1 hq
  | ok fl =>
    cases fl with
    | ret u => exact I1.after hq
    | next => exact False.elim hq
    | brk => exact False.elim hq
    | cont => exact False.elim hq
end
def mIsE (i : Nat) (a : Addr) (b : Bool) : EM := fun r S => match r[i]? with
  | some (some (.adr a')) => if a' = a then .ok (.bl b) S else .bad
  | _ => .bad
@[simp] theorem mIsE_ap (i : Nat) (a : Addr) (b : Bool) (r : Env) (S : Store) : mIsE i a b r S = (match r[i]? with
  | some (some (.adr a')) => if a' = a then .ok (.bl b) S else .bad
  | _ => .bad) := rfl
section
variable {X : Cx} {Wx : WX} {n : Str} {i : Nat} {p : Addr × Obj} {D : Addr} {ce : Expr} {c : V} {cv : Value} {b : Bool} {fp np pos : Pos}
theorem call_isH (C : ExcC X.K D) (hz : Zc (.ref D) none p.2) (hf : ∃ vs, p.2.data = .fields vs) (hp : p ∈ X.pn) : CallR X (.builtin "isinstance") (rIsE X.K D p.1) := by
  intro pins s σ H xs us Q I r h
  obtain ⟨c, cv, b, rfl, hcv, e, q⟩ := h
  cases r with
  | cons rx rr =>
    cases rr with
    | cons rt rr =>
      cases rr
      cases rx
      have ec := hcv _ rt
      subst ec
      have J : PySem.W.InstAt s.heap p.1 p.2 D none := by
        obtain ⟨hget, _⟩ := I.pin p (List.mem_append_left _ hp)
        obtain ⟨vs, hv⟩ := hf
        obtain ⟨a, oc, od, oda, osl⟩ := p
        obtain ⟨h1, h2⟩ := hz
        dsimp only at h1 h2 hv
        subst h1 h2 hv
        exact ⟨hget, rfl, rfl, trivial⟩
      exact PySem.W.kia_one (PySem.W.handS_kitx_exc C.hg C.hk C.hs C.hd C.ha C.hn C.ht C.hm) I.kIn J e (fun z => nomatch z) fun tk => ⟨.bl b, H, I.kept (t' := tk) fun _ _ z => z, rfl, q⟩
theorem j_isE (C : ExcC X.K D) (hz : Zc (.ref D) none p.2) (hf : ∃ vs, p.2.data = .fields vs) (hp : p ∈ X.pn) (hg : Gl X "isinstance") (hm : X.mg "isinstance" = none) (hN : X.N[i]? = some n) (hv : Vis X.env.scope n) (hc : PE X ce (tC c)) (hcv : ∀ u, RelV c u → u = cv) (hb : PySem.W.kitOne X.K (.ref D) cv = some b)
    (hd : (n == ("__debug__" : Str)) = false := by decide) (hcd : (n == ("__classdict__" : Str)) = false := by decide)
    (he : starEach [.Name n np, ce] X.env = (false, eval (.Name n np) X.env) :: starEach [ce] X.env := by rfl) (he2 : starEach [ce] X.env = (false, eval ce X.env) :: starEach [] X.env := by rfl) (hpl : (backTo pos (starEach [ce] X.env)).any (·.1) = false := by rfl) :
    PE X (.Call (.Name "isinstance" fp) [.Name n np, ce] [] pos) (tD X.K X.mg Wx (mIsE i p.1 b)) := by
  refine pe_imp (pe_callB (call_isH C hz hf hp) hg hm boot_isinstance (pa_cons (pe_var hN hv hd hcd) (pa_cons hc pa_nil he2) he) (by decide) (by decide) he hpl) fun g H Q h => ?_
  obtain ⟨T, r, S, rs, sim, h⟩ := h
  unfold mIsE at h
  split at h
  · rename_i a' ea
    split at h
    · rename_i e
      subst e
      obtain ⟨v, h1, h2⟩ := rs.2 i _ ea
      cases h2
      exact ⟨_, h1, c, cv, b, rfl, hcv, hb, h T H _ (Step.refl T H) sim (.bl b)⟩
    · exact h.elim
  · exact h.elim
end
theorem RepSt.forgetV {K : PySem.W.Frag} {T : Tb} {H : Hp} {r : Env} {g : L2.St} {i : Nat} {v : Option V} (h : RepSt K T H r g) : RepSt K T H (r.set i none) (g.set i v) := ⟨by rw [List.length_set, List.length_set, h.1], fun j e q => by
  by_cases hj : j = i
  · subst hj
    by_cases hl : j < r.length
    · rw [List.getElem?_set_self hl] at q
      cases q
    · rw [List.getElem?_eq_none (by rw [List.length_set]; omega)] at q
      cases q
  · rw [List.getElem?_set_ne (Ne.symm hj)] at q ⊢
    exact h.2 j e q⟩
def sTryW (i j : Nat) (W : Str → Option Str) (sa : SM) : SM := fun r S => match sa r S with
  | .exc m r1 S1 => match W m with
    | some x => if i < r1.length then .ok .next (((r1.set i none).set j (some (.str x))).set i none) S1 else .bad
    | none => .bad
  | z => z
@[simp] theorem sTryW_ap (i j : Nat) (W : Str → Option Str) (sa : SM) (r : Env) (S : Store) : sTryW i j W sa r S = (match sa r S with
  | .exc m r1 S1 => match W m with
    | some x => if i < r1.length then .ok .next (((r1.set i none).set j (some (.str x))).set i none) S1 else .bad
    | none => .bad
  | z => z) := rfl
section
variable {X : Cx} {Wx : WX} {x n y fx fy : Str} {C f : Addr} {k i j : Nat} {fd : FuncData} {res : Addr → Str → Prop} {W : Str → Option Str} {body : List Stmt} {sa : SM} {pos pos' np yp fp ep cp ap : Pos}
theorem js_tryW (F : FnE X.prog X.w X.K X.mg X.base k f fd fy res) (hr : L2H.RoomH k X.A) (hW : ∀ m t, W m = some t → ∃ D, X.mg m = some (.ref D) ∧ res D t ∧ PySem.W.exmOne X.K (.ref D) (.ref C) = some true)
    (hs : X.stack = X.env :: X.outer) (hf : X.env.frame = some X.env.locals) (hN : X.N.Nodup) (hi : X.N[i]? = some n) (hj : X.N[j]? = some y) (hln : X.env.kindOf n = some .local) (hly : X.env.scope.names.lookup y = some .local) (hlv : Vis X.env.scope n)
    (hg : Gl X x) (gC : X.mg x = some (.ref C)) (tk : Takes X Wx) (hgf : Gl X fx) (hmf : X.mg fx = some (.ref f)) (hkf : PySem.W.keepIn X.K (.ref f) = true) (hbf : Binds X.K fd [fy] [])
    (hb : ∀ (W : WX) (pn : List (Addr × Obj)) (xe : Value → Shared → Prop), Takes (X.tr pn xe) W → PSs (X.tr pn xe) body (tDS X.K X.mg W sa))
    (hsw : swapsWith (.Call (.Name fx fp) [.Name n ep] [] cp) (some (.Name y yp)) ap.line X.env = pure false := by rfl)
    (hd : (n == ("__debug__" : Str)) = false := by decide) (hcd : (n == ("__classdict__" : Str)) = false := by decide) (hdx : (x == ("__debug__" : Str)) = false := by decide) (hdf : (fx == ("__debug__" : Str)) = false := by decide)
    (he : starEach [.Name n ep] X.env = (false, eval (.Name n ep) X.env) :: starEach [] X.env := by rfl) (hpl : (backTo cp (starEach [] X.env)).any (·.1) = false := by rfl) :
    PS X (.Try body [.ExceptHandler (some (.Name x np)) (some n) [.Assign [.Name y yp] (.Call (.Name fx fp) [.Name n ep] [] cp) ap] pos'] [] [] pos) (tDS X.K X.mg Wx (sTryW i j W sa)) :=
  ps_imp (L2.ps_try_as (tb := fun W => tDS X.K X.mg W sa) (ts := fun a cls d E σ H => ∃ D t, cls = .ref D ∧ d = none ∧ res D t ∧ tCallE X.K X.mg i a t σ H fun v H' => E.nx (σ.set j (some v)) H') hs hf hN hi hln ⟨hg, hdx, .inl gC⟩ tk (fun W pn xe t _ => hb W pn xe t)
    fun a oe cls d pn hz hfl => ⟨fun pins s σ H E I h => by
      obtain ⟨D, t, rfl, rfl, ht, h⟩ := h
      have hr' : L2H.RoomH k (X.suite a ((a, oe) :: pn)).A := ⟨hr.dp, hr.un⟩
      have pe := pe_callE (X := X.suite a ((a, oe) :: pn)) (q := fp) (p2 := ep) (pos := cp) F hz hfl ht hr' List.mem_cons_self hgf hmf hkf hbf hi hlv hd hcd hdf he hpl
      exact (pss_one (ps_set (X := X.suite a ((a, oe) :: pn)) hN hj (.inl hly) pe hsw (.inr hly))).run pins s σ H E I h⟩) fun E g H h => by
    obtain ⟨T, r, S, rs, sim, h⟩ := h
    refine ⟨T, r, S, rs, sim, ?_⟩
    rw [sTryW_ap] at h
    revert h
    cases sa r S with
    | bad => exact fun h => h
    | ok fl r1 S1 => cases fl <;> exact fun h => h
    | exc m r1 S1 =>
      intro h
      have h : ZOut X.K X.mg Wx T H (match W m with
        | some x => if i < r1.length then .ok .next (((r1.set i none).set j (some (.str x))).set i none) S1 else .bad
        | none => .bad) E := h
      split at h
      · rename_i t ht
        split at h
        · rename_i hlen
          intro T' H' g' st sim' rs' cls hcls
          obtain ⟨D, hD, hres, hex⟩ := hW m t ht
          rw [hD] at hcls
          cases hcls
          refine ⟨true, hex, fun _ a _ => ?_, fun hf => by cases hf⟩
          refine ⟨D, t, rfl, rfl, hres, T', S1, by rw [List.getElem?_set_self (by rw [← rs'.1]; exact hlen)], sim', fun T2 H2 st2 sim2 => ?_⟩
          exact h T2 H2 _ (st.trans st2) sim2 ((((rs'.forgetV (i := i) (v := some (.ref a))).step st2).set (.str t)).forgetB)
        · exact h.elim
      · exact h.elim
end
section
variable {K : PySem.W.Frag} {D S : Addr} {b : Bool} {n : String}
theorem exm_own2 (h1 : PySem.W.subIn K (.ref S) (.type "BaseException") = some true) (h2 : PySem.W.isClsIn K S = true) (h3 : PySem.W.typeIn K (.ref S) = some (.type "type")) (h4 : PySem.W.subIn K (.ref D) (.ref S) = some true) : PySem.W.exmOne K (.ref D) (.ref S) = some true := by
  have h2 : (PySem.W.clsIn K S).isSome = true := h2
  unfold PySem.W.exmOne PySem.W.kitCls
  simp only [h1, h2, h3, h4]
  rfl
theorem kit_same : PySem.W.kitOne K (.ref D) (.ref D) = some true := by
  unfold PySem.W.kitOne
  rw [if_pos (by simp)]
theorem kit_own (ne : (Value.ref D == Value.ref S) = false) (h2 : PySem.W.isClsIn K S = true) (h3 : PySem.W.typeIn K (.ref S) = some (.type "type")) (h4 : PySem.W.subIn K (.ref D) (.ref S) = some b) : PySem.W.kitOne K (.ref D) (.ref S) = some b := by
  have h2 : (PySem.W.clsIn K S).isSome = true := h2
  unfold PySem.W.kitOne PySem.W.kitCls
  rw [if_neg (by rw [ne]; decide)]
  simp only [h2, h3]
  exact h4
theorem kit_ty (h4 : PySem.W.subIn K (.ref D) (.type n) = some b) (hm : PySem.W.kitMeta n = true := by decide +kernel) : PySem.W.kitOne K (.ref D) (.type n) = some b := by
  unfold PySem.W.kitOne PySem.W.kitCls
  rw [if_neg (fun z => by cases z)]
  show (if _ then _ else _) = _
  rw [if_pos hm]
  exact h4
end
end Dv
namespace Dv
open PySem PySem.Spec PyProof.Rows L2
def tUpd (td ty : TE) : TE := fun σ H Q => td σ H fun x H1 => ∃ a, x = .ref a ∧ IsD H1 a ∧ ty σ H1 fun y H2 => ∃ b kvs more, y = .ref b ∧ a ≠ b ∧ H2 a = some (.dK kvs) ∧ Rd H2 b (.dK more) ∧ kvs.length + more.length ≤ sizeLine ∧ Q .non (upd H2 a (.dK (mergeK kvs more)))
section
variable {X : Cx} {o e : Expr} {apos cpos : Pos} {td ty : TE}
theorem pe_upd (ho : PE X o td) (he : PE X e ty) (m : M1 X o "update" apos e cpos) : PE X (.Call (.Attribute o "update" apos) [e] [] cpos) (tUpd td ty) := by
  refine ⟨fun pins s σ H Q I h => ?_⟩
  refine wpAny_Call_method m.base m.few m.line PySem.F.plainAttrs_dict PySem.F.slot_dict_update PySem.F.type_dict_update (thn (ho.run pins s σ H _ I h) fun u s1 ⟨x, H1, I1, rx, a, ex, d, q1⟩ => ?_)
  subst ex
  obtain rfl : u = Value.ref a := rx
  obtain ⟨t1, t2, hds⟩ := isD_at I1 d
  refine ⟨t1, t2, ?_⟩
  rw [m.trees]
  refine Calls.callWith_builtin rfl (Calls.evalArgs_plain (Calls.spliced_cons (thn (he.run pins s1 σ H1 _ I1 q1) fun iv s2 ⟨y, H2, I2, ry, b, kvs, more, ey, hne, ea, eb, hz, q⟩ => Calls.spliced_nil ?_)))
  subst ey
  obtain rfl : iv = Value.ref b := ry
  obtain ⟨zz, hd, vs, rel, dd⟩ := dk_of I2.hok ea
  obtain ⟨zz2, hd2, ms, rel2, dd2⟩ := dk_rd I2.hok eb
  have hl : (mergeK kvs more).length ≤ sizeLine := Nat.le_trans (length_mergeK more kvs) hz
  refine call_meetsIn PySem.F.slot_dict_update dd.typeIs PySem.F.entry_dict_update (PySem.F.args_dict_update_2 _ _) (meets_dict_update (knd := mixKind X.prog X.w) a b hne hd2) ⟨vs, ms, dd, dd2, by rw [← rel.length, ← rel2.length]; exact hz, fun h' dd' _ hs => ?_⟩
  have he' : ∃ q, h'.get? a = some q := let ⟨q, _, _, hq, _⟩ := dd'; ⟨q, hq⟩
  exact ⟨.non, _, d_write I2 (by rw [ea]; exact True.intro) hs he' (dk_new hl hd (rel2.merge rel) dd'), rfl, q⟩
end
def mUpd (mo me : EM) : EM := fun r S => (mo r S).bind fun o S1 => match o with
  | .loc n => if (dctAt (.loc n) S1).isSome = true then (me r S1).bind fun y S2 => match S2[n]?, y with
    | some (.dct kds), .dct more => if kds.length + more.length < 90000 then .ok .non (List.set S2 n (.dct (mergeKD kds more))) else .bad
    | _, _ => .bad else .bad
  | _ => .bad
@[simp] theorem mUpd_ap (mo me : EM) (r : Env) (S : Store) : mUpd mo me r S = (mo r S).bind fun o S1 => match o with
  | .loc n => if (dctAt (.loc n) S1).isSome = true then (me r S1).bind fun y S2 => match S2[n]?, y with
    | some (.dct kds), .dct more => if kds.length + more.length < 90000 then .ok .non (List.set S2 n (.dct (mergeKD kds more))) else .bad
    | _, _ => .bad else .bad
  | _ => .bad := rfl
section
variable {X : Cx} {Wx : WX} {o e : Expr} {apos cpos : Pos} {mo me : EM}
theorem RepK.mergeL {K : PySem.W.Frag} {T : Tb} {H : Hp} {kvs more : List (Key × V)} {kds mds : List (Key × D)} (h : RepK K T H kvs kds) (h2 : RepK K T H more mds) : RepK K T H (mergeK kvs more) (mergeKD kds mds) := by
  have e1 : more = (more.map (·.1)).zip (more.map (·.2)) := by
    rw [List.zip_map', List.map_id' more]
  have e2 : mds = (mds.map (·.1)).zip (mds.map (·.2)) := by
    rw [List.zip_map', List.map_id' mds]
  rw [e1, e2, ← h2.1]
  exact RepK.merge h2.2 h
theorem j_upd (ho : PE X o (tD X.K X.mg Wx mo)) (he : PE X e (tD X.K X.mg Wx me)) (m : M1 X o "update" apos e cpos) : PE X (.Call (.Attribute o "update" apos) [e] [] cpos) (tD X.K X.mg Wx (mUpd mo me)) := by
  refine pe_imp (pe_upd ho he m) fun g H Q h => ?_
  obtain ⟨T, r, S, rs, sim, h⟩ := h
  refine ⟨T, r, S, rs, sim, Out.bind h fun x S1 T1 H1 v st sim1 rel h1 => ?_⟩
  split at h1
  · rename_i n
    by_cases hd : (dctAt (.loc n) S1).isSome = true
    · rw [if_pos hd] at h1
      obtain ⟨kds0, e0⟩ := Option.isSome_iff_exists.mp hd
      obtain ⟨a, kvs0, rfl, hr0, _⟩ := dctAt_rep sim1 rel e0
      refine ⟨a, rfl, .inl ⟨kvs0, hr0⟩, T1, r, S1, rs.step st, sim1, Out.bind h1 fun y S2 T2 H2 w st2 sim2 rel2 h2 => ?_⟩
      split at h2
      · rename_i kds more e1
        split at h2
        · rename_i hlt
          cases rel.step st2 with
          | loc hn =>
            obtain ⟨kvs, q1, q2, q3⟩ := sim2.obj _ _ _ hn e1
            cases rel2 with
            | @dct b mvs _ hr nb f1 f2 =>
              have hne : a ≠ b := fun e => nb.1 (by rw [← e]; exact List.mem_of_getElem? hn)
              have rk : RepK X.K T2 H2 kvs kds := ⟨q2, q3⟩
              have rm : RepK X.K T2 H2 mvs more := ⟨f1, f2⟩
              have l1 : kvs.length = kds.length := rk.length
              have l2 : mvs.length = more.length := rm.length
              have st3 := sim2.stepSet (u := .dK (mergeK kvs mvs)) (List.mem_of_getElem? hn)
              have rk2 := (rk.mergeL rm).step st3
              have sim3 := sim2.set (u := .dK (mergeK kvs mvs)) (o := .dct (mergeKD kds more)) hn (nodict sim2.hl) ⟨_, upd_same, rk2.1, rk2.2⟩
              exact ⟨b, kvs, mvs, rfl, hne, q1, hr, by rw [sizeLine_eq]; omega, h2 T2 _ .non st3 sim3 .non⟩
        · exact h2.elim
      · exact h2.elim
    · rw [if_neg hd] at h1
      exact h1.elim
  · exact h1.elim
end
end Dv
namespace Dv
open PySem PySem.Spec PyProof.Rows L2
def mAll : List EM → AM
  | [] => mNil
  | m :: ms => mCons m (mAll ms)
def mDisp (nw : Bool) (ks : List Str) (ms : List EM) : EM := fun r S => (nox (mAll ms r S)).bind fun ds S1 => if ds.length = ks.length ∧ ks.length ≤ 15 then dFin nw (mergeKD [] ((ks.map Sum.inr).zip ds)) S1 else .bad
@[simp] theorem mDisp_ap (nw : Bool) (ks : List Str) (ms : List EM) (r : Env) (S : Store) : mDisp nw ks ms r S = (nox (mAll ms r S)).bind fun ds S1 => if ds.length = ks.length ∧ ks.length ≤ 15 then dFin nw (mergeKD [] ((ks.map Sum.inr).zip ds)) S1 else .bad := rfl
@[simp] theorem mAll_nil : mAll [] = mNil := rfl
@[simp] theorem mAll_cons (m : EM) (ms : List EM) : mAll (m :: ms) = mCons m (mAll ms) := rfl
def dispT (K : PySem.W.Frag) (mg : Str → Option Value) : List Str → List EM → List (TE × TE)
  | k :: ks, m :: ms => (tC (.str k), tD K mg W0 m) :: dispT K mg ks ms
  | _, _ => []
section
variable {K : PySem.W.Frag} {mg : Str → Option Value}
theorem tPairs_of {r : Env} {g : L2.St} : ∀ (ks : List Str) (ms : List EM) {T : Tb} {H : Hp} {S S1 : Store} {ds : List D} {P : List (V × V) → Hp → Prop}, RepSt K T H r g → Sim K mg T S H → mAll ms r S = .ok ds S1 → ks.length = ms.length →
    (∀ T2 H2 vs, Step T H T2 H2 → Sim K mg T2 S1 H2 → RepL K T2 H2 vs ds → P ((ks.zip vs).map fun kv => (V.str kv.1, kv.2)) H2) → tPairs (dispT K mg ks ms) g H P
  | [], [], T, H, S, S1, ds, P, rs, sim, e, _, hP => by
    cases e
    exact hP T H [] (Step.refl T H) sim .nil
  | k :: ks, m :: ms, T, H, S, S1, ds, P, rs, sim, e, hl, hP => by
    have e : ((m r S).bind fun d S1 => (mAll ms r S1).bind fun ds S2 => .ok (d :: ds) S2) = .ok ds S1 := e
    cases q1 : m r S with
    | bad => rw [q1] at e; cases e
    | exc n S2 => rw [q1] at e; cases e
    | ok d S2 =>
      rw [q1, R.bind_ok] at e
      cases q2 : mAll ms r S2 with
      | bad => rw [q2] at e; cases e
      | exc n S3 => rw [q2] at e; cases e
      | ok ds2 S3 =>
        rw [q2, R.bind_ok] at e
        cases e
        show tD K mg W0 m g H _
        refine ⟨T, r, S, rs, sim, ?_⟩
        rw [q1]
        intro T2 H2 y st sim2 rel
        refine tPairs_of ks ms (rs.step st) sim2 q2 (by simpa using hl) fun T3 H3 vs st3 sim3 rel3 => ?_
        exact hP T3 H3 (y :: vs) (st.trans st3) sim3 (.cons (rel.step st3) rel3)
  | [], _ :: _, _, _, _, _, _, _, _, _, _, hl, _ => by cases hl
  | _ :: _, [], _, _, _, _, _, _, _, _, _, hl, _ => by cases hl
theorem zip_strs : ∀ (ks : List Str) (vs : List V), ((ks.zip vs).map fun kv => (V.str kv.1, kv.2)) = ((ks.map (Sum.inr : Str → Key)).zip vs).map fun kv => (kV kv.1, kv.2)
  | [], vs => rfl
  | k :: ks, [] => rfl
  | k :: ks, v :: vs => by
    rw [List.zip_cons_cons, List.map_cons, List.map_cons, List.zip_cons_cons, List.map_cons, zip_strs ks vs]
    rfl
end
section
variable {X : Cx} {Wx : WX} {pos j p : Pos} {v : Expr} {k : Str} {keys : List (Option Expr)} {values : List Expr} {ks : List Str} {m : EM} {ms : List EM} {nw : Bool}
theorem jp_nil : PPs X pos [] [] (dispT X.K X.mg [] []) := pps_nil
theorem jp_cons {jj : Nat} (hv : PE X v (tD X.K X.mg W0 m)) (hr : PPs X pos keys values (dispT X.K X.mg ks ms)) : PPs X pos (some (.Constant (.str k) jj p) :: keys) (v :: values) (dispT X.K X.mg (k :: ks) (m :: ms)) := pps_cons pe_str hv hr
theorem j_disp (h : PPs X pos keys values (dispT X.K X.mg ks ms)) (hkm : ks.length = ms.length := by rfl) (hall : keys.all (·.isSome) = true := by rfl) (hl : keys.length = values.length := by rfl) (h0 : keys ≠ [] := by exact fun z => nomatch z) (h15 : keys.length ≤ 15 := by decide) :
    PE X (.Dict keys values pos) (tD X.K X.mg Wx (mDisp nw ks ms)) :=
  pe_imp (pe_disp h hall hl h0 h15) fun g H Q h => by
    obtain ⟨T, r, S, rs, sim, h⟩ := h
    rw [mDisp_ap] at h
    intro p hp
    obtain ⟨kp0, simh⟩ := sim.hide (u := .dK []) hp (nodict sim.hl)
    cases q : mAll ms r S with
    | bad => rw [q] at h; exact h.elim
    | exc n S1 => rw [q] at h; exact h.elim
    | ok ds S1 =>
      rw [q] at h
      have h : Out X.K X.mg Wx (Rep X.K) T g H (if ds.length = ks.length ∧ ks.length ≤ 15 then dFin nw (mergeKD [] ((ks.map Sum.inr).zip ds)) S1 else .bad) Q := h
      by_cases hc : ds.length = ks.length ∧ ks.length ≤ 15
      case neg => rw [if_neg hc] at h; exact h.elim
      rw [if_pos hc] at h
      refine tPairs_of (mg := X.mg) ks ms (rs.kp kp0) simh q hkm fun T2 H2 vs st sim2 rel => ?_
      have eh : T2.hid = p :: T.hid := st.hid
      have hm : p ∈ T2.hid := by rw [eh]; exact List.mem_cons_self
      have hD2 : H2 p = some (.dK []) := (st.hkeep p List.mem_cons_self).trans upd_same
      have lv : vs.length = ks.length := rel.length.trans hc.1
      refine ⟨hD2, (ks.map (Sum.inr : Str → Key)).zip vs, zip_strs ks vs, by rw [List.length_zip, List.length_map, lv, Nat.min_self]; exact hc.2, ?_⟩
      obtain ⟨kp7, sim7⟩ := sim2.setHid (u := .dK (mergeK [] ((ks.map (Sum.inr : Str → Key)).zip vs))) hm (nodict sim2.hl)
      have ra : RepK X.K T2 (upd H2 p (.dK (mergeK [] ((ks.map (Sum.inr : Str → Key)).zip vs)))) (mergeK [] ((ks.map (Sum.inr : Str → Key)).zip vs)) (mergeKD [] ((ks.map Sum.inr).zip ds)) := (RepK.merge (ks := ks.map (Sum.inr : Str → Key)) rel .nil).kp kp7.toKp
      have st2 : Step T H ⟨T2.loc, T.hid⟩ (upd H2 p (.dK (mergeK [] ((ks.map (Sum.inr : Str → Key)).zip vs)))) := by
        refine ⟨st.ext, rfl, fun b hb => ?_, fun b u n hu => ?_, fun b hb n => ?_⟩
        · have nb : b ≠ p := fun e => sim.hid b hb (by rw [e]; exact hp)
          rw [upd_ne nb, st.hkeep b (List.mem_cons_of_mem _ hb), upd_ne nb]
        · have nb : b ≠ p := ne_of_none hu hp
          rw [upd_ne nb]
          exact st.keep b u ⟨n.1, fun z => (List.mem_cons.mp z).elim nb n.2⟩ (by rw [upd_ne nb]; exact hu)
        · have z := st.new b hb n
          by_cases e : b = p
          · rw [e]; exact hp
          · rw [upd_ne e] at z
            exact z
      have pl : p ∉ T2.loc := fun z => sim2.apart z hm
      have ph : p ∉ T.hid := fun z => by
        have nd := (List.nodup_append.mp sim2.nd).2.1
        rw [eh] at nd
        exact (List.nodup_cons.mp nd).1 z
      obtain ⟨l2, h2⟩ := T2
      cases eh
      cases nw with
      | false => exact h ⟨l2, T.hid⟩ _ _ st2 sim7.unhide (.dct (.inl upd_same) ⟨pl, ph⟩ ra.1 (ra.2.kp kp_unhide))
      | true =>
        generalize eH : upd H2 p (.dK (mergeK [] ((ks.map (Sum.inr : Str → Key)).zip vs))) = H3 at st2 sim7 ra ⊢
        have hD3 : H3 p = some (.dK (mergeK [] ((ks.map (Sum.inr : Str → Key)).zip vs))) := by rw [← eH]; exact upd_same
        have off : ∀ b, (Tb.mk l2 (p :: T.hid)).off b → (Tb.mk (l2 ++ [p]) T.hid).off b := fun b n => ⟨fun z => by
          rcases List.mem_append.mp z with z | z
          · exact n.1 z
          · exact n.2 (by rw [List.mem_singleton.mp z]; exact List.mem_cons_self), fun z => n.2 (List.mem_cons_of_mem _ z)⟩
        have kp : Kp ⟨l2, p :: T.hid⟩ H3 ⟨l2 ++ [p], T.hid⟩ H3 := by
          refine ⟨fun b _ _ n q => ⟨q, off b n⟩, fun b _ n q => ⟨q, off b n⟩, fun n a q => ?_⟩
          have q : l2[n]? = some a := q
          show (l2 ++ [p])[n]? = some a
          rw [List.getElem?_append_left (List.getElem?_eq_some_iff.mp q).1]
          exact q
        have rk := ra.kp kp
        have st3 : Step T H ⟨l2 ++ [p], T.hid⟩ H3 := by
          obtain ⟨m, em⟩ := st2.ext
          refine ⟨⟨m ++ [p], by show l2 ++ [p] = _; rw [← List.append_assoc]; exact congrArg (· ++ [p]) em⟩, rfl, st2.hkeep, st2.keep, fun a h n => ?_⟩
          rcases List.mem_append.mp h with h | h
          · exact st2.new a h n
          · rw [List.mem_singleton.mp h]
            exact hp
        have hlen : l2.length = S1.length := sim2.len
        refine h ⟨l2 ++ [p], T.hid⟩ H3 _ st3 (sim7.unhideNew ⟨_, hD3, rk.1, rk.2⟩) (.loc ?_)
        show (l2 ++ [p])[S1.length]? = some p
        rw [← hlen, List.getElem?_append_right (Nat.le_refl _), Nat.sub_self]
        rfl
end
end Dv
namespace Law
open PySem L2 Dv
def top (i : Nat) : Stmt := PySem.Challenge.pw_meetloft_k06_lookers_by_hand.main.body.getD i (.Pass ⟨0, 0, 0, 0⟩)
abbrev s__law_draw : Stmt := top 11
abbrev N__law_draw : List Str := ["script", "town", "many", "k", "cell", "digits", "number", "more"]
abbrev P__law_draw : List Str := ["script", "town", "many"]
theorem sc__law_draw : FnScope N__law_draw P__law_draw (defScope s__law_draw) := ⟨rfl, rfl, rfl, by decide +kernel, rfl, by decide +kernel, by decide +kernel⟩
abbrev s__law_drawn_rows : Stmt := top 13
abbrev N__law_drawn_rows : List Str := ["script", "town", "width", "most", "far", "found", "k", "row", "j"]
abbrev P__law_drawn_rows : List Str := ["script", "town", "width", "most", "far"]
theorem sc__law_drawn_rows : FnScope N__law_drawn_rows P__law_drawn_rows (defScope s__law_drawn_rows) := ⟨rfl, rfl, rfl, by decide +kernel, rfl, by decide +kernel, by decide +kernel⟩
abbrev s__law_pick : Stmt := top 12
abbrev N__law_pick : List Str := ["script", "town", "some"]
abbrev P__law_pick : List Str := ["script", "town", "some"]
theorem sc__law_pick : FnScope N__law_pick P__law_pick (defScope s__law_pick) := ⟨rfl, rfl, rfl, by decide +kernel, rfl, by decide +kernel, by decide +kernel⟩
abbrev s_Looker___init__ : Stmt := inClass (top 8) 0
abbrev N_Looker___init__ : List Str := ["self", "rows"]
abbrev P_Looker___init__ : List Str := ["self", "rows"]
theorem sc_Looker___init__ : FnScope N_Looker___init__ P_Looker___init__ (defScope s_Looker___init__) := ⟨rfl, rfl, rfl, by decide +kernel, rfl, by decide +kernel, by decide +kernel⟩
abbrev s__law_same : Stmt := top 10
abbrev N__law_same : List Str := ["got", "due", "one", "other"]
abbrev P__law_same : List Str := ["got", "due"]
theorem sc__law_same : FnScope N__law_same P__law_same (defScope s__law_same) := ⟨rfl, rfl, rfl, by decide +kernel, rfl, by decide +kernel, by decide +kernel⟩
abbrev s_Looker_at_end : Stmt := inClass (top 8) 1
abbrev N_Looker_at_end : List Str := ["self"]
abbrev P_Looker_at_end : List Str := ["self"]
theorem sc_Looker_at_end : FnScope N_Looker_at_end P_Looker_at_end (defScope s_Looker_at_end) := ⟨rfl, rfl, rfl, by decide +kernel, rfl, by decide +kernel, by decide +kernel⟩
abbrev s_Looker_depth : Stmt := inClass (top 8) 2
abbrev N_Looker_depth : List Str := ["self"]
abbrev P_Looker_depth : List Str := ["self"]
theorem sc_Looker_depth : FnScope N_Looker_depth P_Looker_depth (defScope s_Looker_depth) := ⟨rfl, rfl, rfl, by decide +kernel, rfl, by decide +kernel, by decide +kernel⟩
abbrev s_Looker_place : Stmt := inClass (top 8) 10
abbrev N_Looker_place : List Str := ["self"]
abbrev P_Looker_place : List Str := ["self"]
theorem sc_Looker_place : FnScope N_Looker_place P_Looker_place (defScope s_Looker_place) := ⟨rfl, rfl, rfl, by decide +kernel, rfl, by decide +kernel, by decide +kernel⟩
abbrev s_Looker_looks : Stmt := inClass (top 8) 11
abbrev N_Looker_looks : List Str := ["self"]
abbrev P_Looker_looks : List Str := ["self"]
theorem sc_Looker_looks : FnScope N_Looker_looks P_Looker_looks (defScope s_Looker_looks) := ⟨rfl, rfl, rfl, by decide +kernel, rfl, by decide +kernel, by decide +kernel⟩
abbrev s_first_at : Stmt := top 6
abbrev N_first_at : List Str := ["row", "begin", "value", "low", "far", "mid"]
abbrev P_first_at : List Str := ["row", "begin", "value"]
theorem sc_first_at : FnScope N_first_at P_first_at (defScope s_first_at) := ⟨rfl, rfl, rfl, by decide +kernel, rfl, by decide +kernel, by decide +kernel⟩
abbrev s_Looker_behind : Stmt := inClass (top 8) 3
abbrev N_Looker_behind : List Str := ["self", "value", "column", "low", "far", "at", "row"]
abbrev P_Looker_behind : List Str := ["self", "value"]
theorem sc_Looker_behind : FnScope N_Looker_behind P_Looker_behind (defScope s_Looker_behind) := ⟨rfl, rfl, rfl, by decide +kernel, rfl, by decide +kernel, by decide +kernel⟩
abbrev s_Looker_key : Stmt := inClass (top 8) 6
abbrev N_Looker_key : List Str := ["self"]
abbrev P_Looker_key : List Str := ["self"]
theorem sc_Looker_key : FnScope N_Looker_key P_Looker_key (defScope s_Looker_key) := ⟨rfl, rfl, rfl, by decide +kernel, rfl, by decide +kernel, by decide +kernel⟩
abbrev s_Looker_opened : Stmt := inClass (top 8) 4
abbrev N_Looker_opened : List Str := ["self", "low", "far", "at"]
abbrev P_Looker_opened : List Str := ["self"]
theorem sc_Looker_opened : FnScope N_Looker_opened P_Looker_opened (defScope s_Looker_opened) := ⟨rfl, rfl, rfl, by decide +kernel, rfl, by decide +kernel, by decide +kernel⟩
abbrev s__law_word : Stmt := top 16
abbrev N__law_word : List Str := ["e", "found"]
abbrev P__law_word : List Str := ["e"]
theorem sc__law_word : FnScope N__law_word P__law_word (defScope s__law_word) := ⟨rfl, rfl, rfl, by decide +kernel, rfl, by decide +kernel, by decide +kernel⟩
abbrev s_Looker_up : Stmt := inClass (top 8) 5
abbrev N_Looker_up : List Str := ["self"]
abbrev P_Looker_up : List Str := ["self"]
theorem sc_Looker_up : FnScope N_Looker_up P_Looker_up (defScope s_Looker_up) := ⟨rfl, rfl, rfl, by decide +kernel, rfl, by decide +kernel, by decide +kernel⟩
abbrev s_Looker_go_to : Stmt := inClass (top 8) 7
abbrev N_Looker_go_to : List Str := ["self", "spot", "low", "far", "at"]
abbrev P_Looker_go_to : List Str := ["self", "spot"]
theorem sc_Looker_go_to : FnScope N_Looker_go_to P_Looker_go_to (defScope s_Looker_go_to) := ⟨rfl, rfl, rfl, by decide +kernel, rfl, by decide +kernel, by decide +kernel⟩
abbrev s_Looker_further : Stmt := inClass (top 8) 8
abbrev N_Looker_further : List Str := ["self"]
abbrev P_Looker_further : List Str := ["self"]
theorem sc_Looker_further : FnScope N_Looker_further P_Looker_further (defScope s_Looker_further) := ⟨rfl, rfl, rfl, by decide +kernel, rfl, by decide +kernel, by decide +kernel⟩
abbrev s_Looker_reach : Stmt := inClass (top 8) 9
abbrev N_Looker_reach : List Str := ["self", "value"]
abbrev P_Looker_reach : List Str := ["self", "value"]
theorem sc_Looker_reach : FnScope N_Looker_reach P_Looker_reach (defScope s_Looker_reach) := ⟨rfl, rfl, rfl, by decide +kernel, rfl, by decide +kernel, by decide +kernel⟩
abbrev s__law_acted : Stmt := top 17
abbrev N__law_acted : List Str := ["looker", "deed", "got", "e"]
abbrev P__law_acted : List Str := ["looker", "deed"]
theorem sc__law_acted : FnScope N__law_acted P__law_acted (defScope s__law_acted) := ⟨rfl, rfl, rfl, by decide +kernel, rfl, by decide +kernel, by decide +kernel⟩
abbrev s__law_trie : Stmt := top 15
abbrev N__law_trie : List Str := ["rows", "place", "row"]
abbrev P__law_trie : List Str := ["rows", "place"]
theorem sc__law_trie : FnScope N__law_trie P__law_trie (defScope s__law_trie) := ⟨rfl, rfl, rfl, by decide +kernel, rfl, by decide +kernel, by decide +kernel⟩
abbrev s__law_moved : Stmt := top 18
abbrev N__law_moved : List Str := ["rows", "side", "deed", "least", "some", "path", "ended", "value"]
abbrev P__law_moved : List Str := ["rows", "side", "deed"]
theorem sc__law_moved : FnScope N__law_moved P__law_moved (defScope s__law_moved) := ⟨rfl, rfl, rfl, by decide +kernel, rfl, by decide +kernel, by decide +kernel⟩
abbrev s_law : Stmt := top 19
abbrev N_law : List Str := ["script", "town", "k", "width", "rows", "j", "looker", "side", "words", "word", "deed", "deep", "got"]
abbrev P_law : List Str := ["script"]
theorem sc_law : FnScope N_law P_law (defScope s_law) := ⟨rfl, rfl, rfl, by decide +kernel, rfl, by decide +kernel, by decide +kernel⟩
noncomputable def m__law_draw (fu : Nat) : SM :=
    (sSeq (sIf (mNotT (mTru (mVar 1))) (sDrop (mAppend (mVar 1) (mCall maxD (mCons (mBin addD (mLc (mIter (mVar 0)) [4] (tgN 4) mYes (mCall absD (mCons (mVar 4) mNil))) (mLst (mCons (mC (.int 0)) mNil))) mNil)))) sNil)
    (sSeq (sDrop (mAppend (mVar 1) (mC (.int 0))))
    (sSeq (sSet 3 (mCall lenD (mCons (mVar 1) mNil)))
    (sSeq (sSet 4 (mIf (mTru (mVar 0)) (mBin ixD (mVar 0) (mBin modD (mVar 3) (mCall lenD (mCons (mVar 0) mNil)))) (mC (.int 0))))
    (sSeq (sSet 5 (mBin modD (mBin ixD (mVar 1) (mC (.int 0))) (mC (.int 65536))))
    (sSeq (sSetIx (mVar 1) (mC (.int 0)) (mBin fdivD (mBin ixD (mVar 1) (mC (.int 0))) (mC (.int 65536))))
    (sSeq (sSet 6 (mBin modD (mBin addD (mBin addD (mVar 4) (mBin mulD (mC (.int 40503)) (mVar 5))) (mBin mulD (mC (.int 104729)) (mVar 3))) (mC (.int 4294967291))))
    (sSeq (sSet 6 (mBin modD (mBin mulD (mBin modD (mBin mulD (mVar 6) (mVar 6)) (mC (.int 4294967279))) (mC (.int 48271))) (mC (.int 4294967291))))
    (sSeq (sSet 7 (mBin modD (mBin mulD (mBin modD (mBin mulD (mVar 6) (mVar 6)) (mC (.int 4294967279))) (mC (.int 69621))) (mC (.int 4294967291))))
    (sRet (mBin modD (mBin addD (mBin mulD (mBin fdivD (mVar 6) (mC (.int 64))) (mC (.int 67108864))) (mBin fdivD (mVar 7) (mC (.int 64)))) (mVar 2))))))))))))
noncomputable def F__law_draw (fu : Nat) : List D → Store → R D := runT 8 (m__law_draw fu)
noncomputable def m__law_drawn_rows (fu : Nat) : SM :=
    (sSeq (sSet 5 (mLst mNil))
    (sSeq (sFor (mRng1 (mCons (mApp 3 (F__law_draw fu) (mCons (mVar 0) (mCons (mVar 1) (mCons (mBin addD (mVar 3) (mC (.int 1))) mNil)))) mNil)) (tgN 6) (sSeq (sSet 7 (mCall tupD (mCons (mLc (mRng1 (mCons (mVar 2) mNil)) [8] (tgN 8) mYes (mApp 3 (F__law_draw fu) (mCons (mVar 0) (mCons (mVar 1) (mCons (mVar 4) mNil))))) mNil)))
    (sSet 5 (mBin addD (mVar 5) (mBin mulD (mLst (mCons (mVar 7) mNil)) (mCall intD (mCons (mBin ninD (mVar 7) (mVar 5)) mNil)))))))
    (sRet (mCall tupD (mCons (mCall sortD (mCons (mVar 5) mNil)) mNil)))))
noncomputable def F__law_drawn_rows (fu : Nat) : List D → Store → R D := runT 9 (m__law_drawn_rows fu)
noncomputable def m__law_pick (fu : Nat) : SM :=
    (sRet (mBin ixD (mVar 2) (mApp 3 (F__law_draw fu) (mCons (mVar 0) (mCons (mVar 1) (mCons (mCall lenD (mCons (mVar 2) mNil)) mNil))))))
noncomputable def F__law_pick (fu : Nat) : List D → Store → R D := runT 3 (m__law_pick fu)
noncomputable def m_Looker___init__ (fu : Nat) : SM :=
    (sSeq (sFldD "Looker" "rows" (mVar 0) (mVar 1))
    (sSeq (sFldD "Looker" "levels" (mVar 0) (mNewL mNil))
    (sFldD "Looker" "many" (mVar 0) (mC (.int 0)))))
noncomputable def F_Looker___init__ (fu : Nat) : List D → Store → R D := runK 2 (m_Looker___init__ fu)
noncomputable def m__law_same (fu : Nat) (self : List D → Store → R D) : SM :=
    (sSeq (sIf (mT (mBin isND (mVar 1) (mC .non))) (sRet (mBin isND (mVar 0) (mC .non))) sNil)
    (sSeq (sIf (mTru (mCall isiD (mCons (mVar 1) (mCons (mC (.ty "bool")) mNil)))) (sRet (mAnd (mCall isiD (mCons (mVar 0) (mCons (mC (.ty "bool")) mNil))) (mBin eqD (mVar 0) (mVar 1)))) sNil)
    (sSeq (sIf (mTru (mCall isiD (mCons (mVar 1) (mCons (mC (.ty "tuple")) mNil)))) (sSeq (sIf (mOrT (mNotT (mTru (mCall isiD (mCons (mVar 0) (mCons (mC (.ty "tuple")) mNil))))) (mT (mBin neD (mCall lenD (mCons (mVar 0) mNil)) (mCall lenD (mCons (mVar 1) mNil))))) (sRet (mC (.bl false))) sNil)
    (sRet (mCall allD (mCons (mLc (mZip (mCons (mVar 0) (mCons (mVar 1) mNil))) [2, 3] (tgT 2 (tgsCons (tgN 2) (tgsCons (tgN 3) tgsNil))) mYes (mApp 2 self (mCons (mVar 2) (mCons (mVar 3) mNil)))) mNil)))) sNil)
    (sSeq (sIf (mTru (mCall isiD (mCons (mVar 1) (mCons (mC (.ty "str")) mNil)))) (sRet (mAnd (mCall isiD (mCons (mVar 0) (mCons (mC (.ty "str")) mNil))) (mBin eqD (mVar 0) (mVar 1)))) sNil)
    (sRet (mAnd (mCall isiD (mCons (mVar 0) (mCons (mC (.ty "int")) mNil))) (mAnd (mNot (mCall isiD (mCons (mVar 0) (mCons (mC (.ty "bool")) mNil)))) (mBin eqD (mVar 0) (mVar 1)))))))))
noncomputable def F__law_same (fu : Nat) : Nat → List D → Store → R D
  | 0 => fun _ _ => .bad
  | n + 1 => runT 4 (m__law_same fu (F__law_same fu n))
noncomputable def m_Looker_at_end (fu : Nat) : SM :=
    (sRet (mAnd (mBin neD (mFld "Looker" "levels" (mVar 0)) (mLst mNil)) (mBin eqD (mBin ixD (mBin ixD (mFld "Looker" "levels" (mVar 0)) (mUn negD (mC (.int 1)))) (mC (.int 2))) (mBin ixD (mBin ixD (mFld "Looker" "levels" (mVar 0)) (mUn negD (mC (.int 1)))) (mC (.int 1))))))
noncomputable def F_Looker_at_end (fu : Nat) : List D → Store → R D := runT 1 (m_Looker_at_end fu)
noncomputable def m_Looker_depth (fu : Nat) : SM :=
    (sRet (mCall lenD (mCons (mFld "Looker" "levels" (mVar 0)) mNil)))
noncomputable def F_Looker_depth (fu : Nat) : List D → Store → R D := runT 1 (m_Looker_depth fu)
noncomputable def m_Looker_place (fu : Nat) : SM :=
    (sSeq (sIf (mNotT (mTru (mFld "Looker" "levels" (mVar 0)))) (sRet (mTup mNil)) sNil)
    (sSeq (sIf (mTru (mMeth "Looker" "at_end" 1 (F_Looker_at_end fu) (mVar 0) mNil)) (sRet (mSl (mBin ixD (mFld "Looker" "rows" (mVar 0)) (mBin ixD (mBin ixD (mFld "Looker" "levels" (mVar 0)) (mUn negD (mC (.int 1)))) (mC (.int 0)))) mNoP (mP (mBin subD (mCall lenD (mCons (mFld "Looker" "levels" (mVar 0)) mNil)) (mC (.int 1)))))) sNil)
    (sRet (mSl (mBin ixD (mFld "Looker" "rows" (mVar 0)) (mBin ixD (mBin ixD (mFld "Looker" "levels" (mVar 0)) (mUn negD (mC (.int 1)))) (mC (.int 2)))) mNoP (mP (mCall lenD (mCons (mFld "Looker" "levels" (mVar 0)) mNil)))))))
noncomputable def F_Looker_place (fu : Nat) : List D → Store → R D := runT 1 (m_Looker_place fu)
noncomputable def m_Looker_looks (fu : Nat) : SM :=
    (sRet (mFld "Looker" "many" (mVar 0)))
noncomputable def F_Looker_looks (fu : Nat) : List D → Store → R D := runT 1 (m_Looker_looks fu)
noncomputable def m_first_at (fu : Nat) : SM :=
    (sSeq (sPar 3 4 (mCons (mVar 1) (mCons (mCall lenD (mCons (mVar 0) mNil)) mNil)))
    (sSeq (sWhile (mT (mBin ltD (mVar 3) (mVar 4))) (sSeq (sSet 5 (mBin fdivD (mBin addD (mVar 3) (mVar 4)) (mC (.int 2))))
    (sIf (mT (mBin ltD (mBin ixD (mVar 0) (mVar 5)) (mVar 2))) (sSet 3 (mBin addD (mVar 5) (mC (.int 1)))) (sSet 4 (mVar 5)))) fu)
    (sRet (mVar 3))))
noncomputable def F_first_at (fu : Nat) : List D → Store → R D := runT 6 (m_first_at fu)
noncomputable def m_Looker_behind (fu : Nat) : SM :=
    (sSeq (sAsg (mBin ixD (mFld "Looker" "levels" (mVar 0)) (mUn negD (mC (.int 1)))) (tgT 3 (tgsCons (tgN 3) (tgsCons (tgN 4) (tgsCons (tgN 5) tgsNil)))))
    (sSeq (sSet 2 (mLc (mIter (mSl (mFld "Looker" "rows" (mVar 0)) mNoP (mP (mVar 4)))) [6] (tgN 6) mYes (mBin ixD (mVar 6) (mBin subD (mCall lenD (mCons (mFld "Looker" "levels" (mVar 0)) mNil)) (mC (.int 1))))))
    (sRet (mApp 3 (F_first_at fu) (mCons (mVar 2) (mCons (mVar 5) (mCons (mBin addD (mVar 1) (mC (.int 1))) mNil)))))))
noncomputable def F_Looker_behind (fu : Nat) : List D → Store → R D := runT 7 (m_Looker_behind fu)
noncomputable def m_Looker_key (fu : Nat) : SM :=
    (sSeq (sIf (mOrT (mNotT (mTru (mFld "Looker" "levels" (mVar 0)))) (mTru (mMeth "Looker" "at_end" 1 (F_Looker_at_end fu) (mVar 0) mNil))) (sRaise "NoKey") sNil)
    (sRet (mBin ixD (mBin ixD (mFld "Looker" "rows" (mVar 0)) (mBin ixD (mBin ixD (mFld "Looker" "levels" (mVar 0)) (mUn negD (mC (.int 1)))) (mC (.int 2)))) (mBin subD (mCall lenD (mCons (mFld "Looker" "levels" (mVar 0)) mNil)) (mC (.int 1))))))
noncomputable def F_Looker_key (fu : Nat) : List D → Store → R D := runT 1 (m_Looker_key fu)
noncomputable def m_Looker_opened (fu : Nat) : SM :=
    (sSeq (sIf (mOrT (mT (mBin eqD (mFld "Looker" "rows" (mVar 0)) (mTup mNil))) (mOrT (mTru (mMeth "Looker" "at_end" 1 (F_Looker_at_end fu) (mVar 0) mNil)) (mT (mBin eqD (mCall lenD (mCons (mFld "Looker" "levels" (mVar 0)) mNil)) (mCall lenD (mCons (mBin ixD (mFld "Looker" "rows" (mVar 0)) (mC (.int 0))) mNil)))))) (sRaise "NoDeeper") sNil)
    (sIf (mTru (mFld "Looker" "levels" (mVar 0))) (sSeq (sAsg (mBin ixD (mFld "Looker" "levels" (mVar 0)) (mUn negD (mC (.int 1)))) (tgT 3 (tgsCons (tgN 1) (tgsCons (tgN 2) (tgsCons (tgN 3) tgsNil)))))
    (sDrop (mAppend (mFld "Looker" "levels" (mVar 0)) (mTup (mCons (mVar 3) (mCons (mMeth "Looker" "behind" 2 (F_Looker_behind fu) (mVar 0) (mCons (mMeth "Looker" "key" 1 (F_Looker_key fu) (mVar 0) mNil) mNil)) (mCons (mVar 3) mNil))))))) (sDrop (mAppend (mFld "Looker" "levels" (mVar 0)) (mTup (mCons (mC (.int 0)) (mCons (mCall lenD (mCons (mFld "Looker" "rows" (mVar 0)) mNil)) (mCons (mC (.int 0)) mNil))))))))
noncomputable def F_Looker_opened (fu : Nat) : List D → Store → R D := runT 4 (m_Looker_opened fu)
def m__law_word (a : Addr) (b_NoDeeper b_NoUp b_NoKey : Bool) : SM :=
    (sSeq (sSet 1 (mC (.str "")))
    (sSeq (sIf (mTru (mIsE 0 a b_NoDeeper)) (sSet 1 (mBin addD (mVar 1) (mC (.str "NoDeeper")))) sNil)
    (sSeq (sIf (mTru (mIsE 0 a b_NoUp)) (sSet 1 (mBin addD (mVar 1) (mC (.str "NoUp")))) sNil)
    (sRet (mIf (mTru (mIsE 0 a b_NoKey)) (mBin addD (mVar 1) (mC (.str "NoKey"))) (mVar 1))))))
def W_word (m : Str) : Option Str := if m = "NoDeeper" then some ("NoDeeper") else if m = "NoUp" then some ("NoUp") else if m = "NoKey" then some ("NoKey") else none
noncomputable def m_Looker_up (fu : Nat) : SM :=
    (sSeq (sIf (mNotT (mTru (mFld "Looker" "levels" (mVar 0)))) (sRaise "NoUp") sNil)
    (sDrop (mPop (mFld "Looker" "levels" (mVar 0)))))
noncomputable def F_Looker_up (fu : Nat) : List D → Store → R D := runT 1 (m_Looker_up fu)
noncomputable def m_Looker_go_to (fu : Nat) : SM :=
    (sSeq (sAsg (mBin ixD (mFld "Looker" "levels" (mVar 0)) (mUn negD (mC (.int 1)))) (tgT 3 (tgsCons (tgN 2) (tgsCons (tgN 3) (tgsCons (tgN 4) tgsNil)))))
    (sSeq (sSetIx (mFld "Looker" "levels" (mVar 0)) (mUn negD (mC (.int 1))) (mTup (mCons (mVar 2) (mCons (mVar 3) (mCons (mVar 1) mNil)))))
    (sFldAugD "Looker" "many" (fun i j => i + j) (mVar 0) (mC (.int 1)))))
noncomputable def F_Looker_go_to (fu : Nat) : List D → Store → R D := runT 5 (m_Looker_go_to fu)
noncomputable def m_Looker_further (fu : Nat) : SM :=
    (sDrop (mMeth "Looker" "go_to" 2 (F_Looker_go_to fu) (mVar 0) (mCons (mMeth "Looker" "behind" 2 (F_Looker_behind fu) (mVar 0) (mCons (mMeth "Looker" "key" 1 (F_Looker_key fu) (mVar 0) mNil) mNil)) mNil)))
noncomputable def F_Looker_further (fu : Nat) : List D → Store → R D := runT 1 (m_Looker_further fu)
noncomputable def m_Looker_reach (fu : Nat) : SM :=
    (sIf (mT (mBin ltD (mMeth "Looker" "key" 1 (F_Looker_key fu) (mVar 0) mNil) (mVar 1))) (sDrop (mMeth "Looker" "go_to" 2 (F_Looker_go_to fu) (mVar 0) (mCons (mMeth "Looker" "behind" 2 (F_Looker_behind fu) (mVar 0) (mCons (mBin subD (mVar 1) (mC (.int 1))) mNil)) mNil))) (sDrop (mMeth "Looker" "go_to" 2 (F_Looker_go_to fu) (mVar 0) (mCons (mBin ixD (mBin ixD (mFld "Looker" "levels" (mVar 0)) (mUn negD (mC (.int 1)))) (mC (.int 2))) mNil))))
noncomputable def F_Looker_reach (fu : Nat) : List D → Store → R D := runT 2 (m_Looker_reach fu)
noncomputable def m__law_acted (fu : Nat) : SM :=
    (sSeq (sSet 2 (mC .non))
    (sSeq (sTryW 3 2 W_word (sIf (mT (mBin eqD (mBin ixD (mVar 1) (mC (.int 0))) (mC (.str "opened")))) (sSet 2 (mMeth "Looker" "opened" 1 (F_Looker_opened fu) (mVar 0) mNil)) (sIf (mT (mBin eqD (mBin ixD (mVar 1) (mC (.int 0))) (mC (.str "up")))) (sSet 2 (mMeth "Looker" "up" 1 (F_Looker_up fu) (mVar 0) mNil)) (sIf (mT (mBin eqD (mBin ixD (mVar 1) (mC (.int 0))) (mC (.str "key")))) (sSet 2 (mMeth "Looker" "key" 1 (F_Looker_key fu) (mVar 0) mNil)) (sSet 2 (mIf (mT (mBin eqD (mBin ixD (mVar 1) (mC (.int 0))) (mC (.str "further")))) (mMeth "Looker" "further" 1 (F_Looker_further fu) (mVar 0) mNil) (mMeth "Looker" "reach" 2 (F_Looker_reach fu) (mVar 0) (mCons (mBin ixD (mVar 1) (mC (.int 1))) mNil))))))))
    (sRet (mVar 2))))
noncomputable def F__law_acted (fu : Nat) : List D → Store → R D := runT 4 (m__law_acted fu)
noncomputable def m__law_trie (fu : Nat) : SM :=
    (sRet (mCall sortSetD (mCons (mLc (mIter (mVar 0)) [2] (tgN 2) (mT (mBin eqD (mSl (mVar 2) mNoP (mP (mCall lenD (mCons (mVar 1) mNil)))) (mVar 1))) (mBin ixD (mVar 2) (mCall lenD (mCons (mVar 1) mNil)))) mNil)))
noncomputable def F__law_trie (fu : Nat) : List D → Store → R D := runT 3 (m__law_trie fu)
noncomputable def m__law_moved (fu : Nat) : SM :=
    (sSeq (sPar 5 6 (mCons (mBin dgetD (mVar 1) (mC (.str "path"))) (mCons (mBin dgetD (mVar 1) (mC (.str "ended"))) mNil)))
    (sSeq (sIf (mT (mBin eqD (mBin ixD (mVar 2) (mC (.int 0))) (mC (.str "opened")))) (sSeq (sSet 4 (mIf (mAndT (mTru (mVar 0)) (mAndT (mNotT (mTru (mVar 6))) (mT (mBin ltD (mCall lenD (mCons (mVar 5) mNil)) (mCall lenD (mCons (mBin ixD (mVar 0) (mC (.int 0))) mNil)))))) (mApp 2 (F__law_trie fu) (mCons (mVar 0) (mCons (mVar 5) mNil))) (mLst mNil)))
    (sSeq (sIf (mNotT (mTru (mVar 4))) (sRet (mC (.str "NoDeeper"))) sNil)
    (sSeq (sDPutD (mVar 1) (mC (.str "path")) (mBin addD (mVar 5) (mTup (mCons (mBin ixD (mVar 4) (mC (.int 0))) mNil))))
    (sRet (mC .non))))) sNil)
    (sSeq (sIf (mT (mBin eqD (mBin ixD (mVar 2) (mC (.int 0))) (mC (.str "up")))) (sSeq (sIf (mAndT (mNotT (mTru (mVar 5))) (mNotT (mTru (mVar 6)))) (sRet (mC (.str "NoUp"))) sNil)
    (sSeq (sDrop (mUpd (mVar 1) (mDisp false ["path", "ended"] [(mIf (mTru (mVar 6)) (mVar 5) (mSl (mVar 5) mNoP (mP (mUn negD (mC (.int 1)))))), (mC (.bl false))])))
    (sRet (mC .non)))) sNil)
    (sSeq (sIf (mOrT (mNotT (mTru (mVar 5))) (mTru (mVar 6))) (sRet (mC (.str "NoKey"))) sNil)
    (sSeq (sIf (mT (mBin eqD (mBin ixD (mVar 2) (mC (.int 0))) (mC (.str "key")))) (sRet (mBin ixD (mVar 5) (mUn negD (mC (.int 1))))) sNil)
    (sSeq (sSet 3 (mIf (mT (mBin eqD (mBin ixD (mVar 2) (mC (.int 0))) (mC (.str "further")))) (mBin addD (mBin ixD (mVar 5) (mUn negD (mC (.int 1)))) (mC (.int 1))) (mCall max2D (mCons (mBin ixD (mVar 5) (mUn negD (mC (.int 1)))) (mCons (mBin ixD (mVar 2) (mC (.int 1))) mNil)))))
    (sSeq (sSet 4 (mLc (mIter (mApp 2 (F__law_trie fu) (mCons (mVar 0) (mCons (mSl (mVar 5) mNoP (mP (mUn negD (mC (.int 1))))) mNil)))) [7] (tgN 7) (mT (mBin geD (mVar 7) (mVar 3))) (mVar 7)))
    (sSeq (sDPutD (mVar 1) (mC (.str "looks")) (mBin addD (mBin dgetD (mVar 1) (mC (.str "looks"))) (mC (.int 1))))
    (sSeq (sDrop (mUpd (mVar 1) (mDisp false ["path", "ended"] [(mIf (mTru (mVar 4)) (mBin addD (mSl (mVar 5) mNoP (mP (mUn negD (mC (.int 1))))) (mTup (mCons (mBin ixD (mVar 4) (mC (.int 0))) mNil))) (mSl (mVar 5) mNoP (mP (mUn negD (mC (.int 1)))))), (mBin eqD (mVar 4) (mLst mNil))])))
    (sRet (mC .non)))))))))))
noncomputable def F__law_moved (fu : Nat) : List D → Store → R D := runT 8 (m__law_moved fu)
noncomputable def m_law (fu : Nat) : SM :=
    (sSeq (sSet 1 (mNewL mNil))
    (sSeq (sFor (mRng1 (mCons (mC (.int 4)) mNil)) (tgN 2) (sSeq (sSet 3 (mBin addD (mC (.int 1)) (mApp 3 (F__law_draw fu) (mCons (mVar 0) (mCons (mVar 1) (mCons (mC (.int 3)) mNil))))))
    (sSeq (sSet 4 (mApp 5 (F__law_drawn_rows fu) (mCons (mVar 0) (mCons (mVar 1) (mCons (mVar 3) (mCons (mApp 3 (F__law_pick fu) (mCons (mVar 0) (mCons (mVar 1) (mCons (mLst (mCons (mC (.int 0)) (mCons (mC (.int 3)) (mCons (mC (.int 12)) mNil)))) mNil)))) (mCons (mC (.int 4)) mNil)))))))
    (sSeq (sPar 6 7 (mCons (mMake "Looker" 2 (F_Looker___init__ fu) (mCons (mVar 4) mNil)) (mCons (mDisp true ["path", "ended", "looks"] [(mTup mNil), (mC (.bl false)), (mC (.int 0))]) mNil)))
    (sFor (mRng1 (mCons (mC (.int 24)) mNil)) (tgN 5) (sSeq (sSet 8 (mLst (mCons (mC (.str "opened")) (mCons (mC (.str "opened")) (mCons (mC (.str "opened")) (mCons (mC (.str "up")) (mCons (mC (.str "key")) (mCons (mC (.str "further")) (mCons (mC (.str "further")) (mCons (mC (.str "reach")) (mCons (mC (.str "reach")) mNil)))))))))))
    (sSeq (sSet 9 (mApp 3 (F__law_pick fu) (mCons (mVar 0) (mCons (mVar 1) (mCons (mVar 8) mNil)))))
    (sSeq (sSet 10 (mTup (mCons (mVar 9) (mCons (mBin subD (mApp 3 (F__law_draw fu) (mCons (mVar 0) (mCons (mVar 1) (mCons (mC (.int 6)) mNil)))) (mC (.int 1))) mNil))))
    (sSeq (sIf (mNotT (mTru (mApp 2 (F__law_same fu 4) (mCons (mApp 2 (F__law_acted fu) (mCons (mVar 6) (mCons (mVar 10) mNil))) (mCons (mApp 3 (F__law_moved fu) (mCons (mVar 4) (mCons (mVar 7) (mCons (mVar 10) mNil)))) mNil))))) (sRet (mC (.bl false))) sNil)
    (sSeq (sSet 11 (mBin addD (mCall lenD (mCons (mBin dgetD (mVar 7) (mC (.str "path"))) mNil)) (mCall intD (mCons (mBin dgetD (mVar 7) (mC (.str "ended"))) mNil))))
    (sSeq (sSet 12 (mTup (mCons (mMeth "Looker" "at_end" 1 (F_Looker_at_end fu) (mVar 6) mNil) (mCons (mMeth "Looker" "depth" 1 (F_Looker_depth fu) (mVar 6) mNil) (mCons (mMeth "Looker" "place" 1 (F_Looker_place fu) (mVar 6) mNil) (mCons (mMeth "Looker" "looks" 1 (F_Looker_looks fu) (mVar 6) mNil) mNil))))))
    (sIf (mNotT (mTru (mApp 2 (F__law_same fu 4) (mCons (mVar 12) (mCons (mTup (mCons (mBin dgetD (mVar 7) (mC (.str "ended"))) (mCons (mVar 11) (mCons (mBin dgetD (mVar 7) (mC (.str "path"))) (mCons (mBin dgetD (mVar 7) (mC (.str "looks"))) mNil))))) mNil))))) (sRet (mC (.bl false))) sNil))))))))))))
    (sRet (mC (.bl true)))))
noncomputable def F_law (fu : Nat) : List D → Store → R D := runT 13 (m_law fu)
end Law
namespace Law
open PySem L2 Dv
structure Tx (K : PySem.W.Frag) (mg : Str → Option Value) (a__law_draw a__law_drawn_rows a__law_pick a_Looker___init__ a__law_same a_Looker_at_end a_Looker_depth a_Looker_place a_Looker_looks a_first_at a_Looker_behind a_Looker_key a_Looker_opened a__law_word a_Looker_up a_Looker_go_to a_Looker_further a_Looker_reach a__law_acted a__law_trie a__law_moved a_law C_Looker C_NoDeeper C_NoUp C_NoKey C_RowError : Addr) (d__law_draw d__law_drawn_rows d__law_pick d_Looker___init__ d__law_same d_Looker_at_end d_Looker_depth d_Looker_place d_Looker_looks d_first_at d_Looker_behind d_Looker_key d_Looker_opened d__law_word d_Looker_up d_Looker_go_to d_Looker_further d_Looker_reach d__law_acted d__law_trie d__law_moved d_law : FuncData) : Prop where
  z_abs : mg "abs" = none
  z_all : mg "all" = none
  z_bool : mg "bool" = none
  z_int : mg "int" = none
  z_isinstance : mg "isinstance" = none
  z_len : mg "len" = none
  z_max : mg "max" = none
  z_range : mg "range" = none
  z_set : mg "set" = none
  z_sorted : mg "sorted" = none
  z_str : mg "str" = none
  z_tuple : mg "tuple" = none
  z_zip : mg "zip" = none
  k_Looker : ClsOk K mg "Looker" C_Looker
  m_Looker : Mk K C_Looker a_Looker___init__
  x_NoDeeper : ExcOk K mg "NoDeeper" C_NoDeeper
  x_NoUp : ExcOk K mg "NoUp" C_NoUp
  x_NoKey : ExcOk K mg "NoKey" C_NoKey
  gw_RowError : mg "RowError" = some (.ref C_RowError)
  c_NoDeeper : ExcC K C_NoDeeper
  w_NoDeeper_RowError : PySem.W.exmOne K (.ref C_NoDeeper) (.ref C_RowError) = some true
  k_NoDeeper_NoDeeper : PySem.W.kitOne K (.ref C_NoDeeper) (.ref C_NoDeeper) = some true
  k_NoDeeper_NoUp : PySem.W.kitOne K (.ref C_NoDeeper) (.ref C_NoUp) = some false
  k_NoDeeper_NoKey : PySem.W.kitOne K (.ref C_NoDeeper) (.ref C_NoKey) = some false
  c_NoUp : ExcC K C_NoUp
  w_NoUp_RowError : PySem.W.exmOne K (.ref C_NoUp) (.ref C_RowError) = some true
  k_NoUp_NoDeeper : PySem.W.kitOne K (.ref C_NoUp) (.ref C_NoDeeper) = some false
  k_NoUp_NoUp : PySem.W.kitOne K (.ref C_NoUp) (.ref C_NoUp) = some true
  k_NoUp_NoKey : PySem.W.kitOne K (.ref C_NoUp) (.ref C_NoKey) = some false
  c_NoKey : ExcC K C_NoKey
  w_NoKey_RowError : PySem.W.exmOne K (.ref C_NoKey) (.ref C_RowError) = some true
  k_NoKey_NoDeeper : PySem.W.kitOne K (.ref C_NoKey) (.ref C_NoDeeper) = some false
  k_NoKey_NoUp : PySem.W.kitOne K (.ref C_NoKey) (.ref C_NoUp) = some false
  k_NoKey_NoKey : PySem.W.kitOne K (.ref C_NoKey) (.ref C_NoKey) = some true
  n_Looker_levels : NoAttr K C_Looker "levels"
  n_Looker_many : NoAttr K C_Looker "many"
  n_Looker_rows : NoAttr K C_Looker "rows"
  F__law_draw : Fun K "_law_draw" "_law_draw" s__law_draw a__law_draw d__law_draw
  b__law_draw : Binds K d__law_draw P__law_draw []
  g__law_draw : mg "_law_draw" = some (.ref a__law_draw)
  F__law_drawn_rows : Fun K "_law_drawn_rows" "_law_drawn_rows" s__law_drawn_rows a__law_drawn_rows d__law_drawn_rows
  b__law_drawn_rows : Binds K d__law_drawn_rows P__law_drawn_rows []
  g__law_drawn_rows : mg "_law_drawn_rows" = some (.ref a__law_drawn_rows)
  F__law_pick : Fun K "_law_pick" "_law_pick" s__law_pick a__law_pick d__law_pick
  b__law_pick : Binds K d__law_pick P__law_pick []
  g__law_pick : mg "_law_pick" = some (.ref a__law_pick)
  F_Looker___init__ : Fun K "__init__" "Looker.__init__" s_Looker___init__ a_Looker___init__ d_Looker___init__
  b_Looker___init__ : Binds K d_Looker___init__ P_Looker___init__ []
  F__law_same : Fun K "_law_same" "_law_same" s__law_same a__law_same d__law_same
  b__law_same : Binds K d__law_same P__law_same []
  g__law_same : mg "_law_same" = some (.ref a__law_same)
  F_Looker_at_end : Fun K "at_end" "Looker.at_end" s_Looker_at_end a_Looker_at_end d_Looker_at_end
  b_Looker_at_end : Binds K d_Looker_at_end P_Looker_at_end []
  h_Looker_at_end : Meth K C_Looker "at_end" a_Looker_at_end
  F_Looker_depth : Fun K "depth" "Looker.depth" s_Looker_depth a_Looker_depth d_Looker_depth
  b_Looker_depth : Binds K d_Looker_depth P_Looker_depth []
  h_Looker_depth : Meth K C_Looker "depth" a_Looker_depth
  F_Looker_place : Fun K "place" "Looker.place" s_Looker_place a_Looker_place d_Looker_place
  b_Looker_place : Binds K d_Looker_place P_Looker_place []
  h_Looker_place : Meth K C_Looker "place" a_Looker_place
  F_Looker_looks : Fun K "looks" "Looker.looks" s_Looker_looks a_Looker_looks d_Looker_looks
  b_Looker_looks : Binds K d_Looker_looks P_Looker_looks []
  h_Looker_looks : Meth K C_Looker "looks" a_Looker_looks
  F_first_at : Fun K "first_at" "first_at" s_first_at a_first_at d_first_at
  b_first_at : Binds K d_first_at P_first_at []
  g_first_at : mg "first_at" = some (.ref a_first_at)
  F_Looker_behind : Fun K "behind" "Looker.behind" s_Looker_behind a_Looker_behind d_Looker_behind
  b_Looker_behind : Binds K d_Looker_behind P_Looker_behind []
  h_Looker_behind : Meth K C_Looker "behind" a_Looker_behind
  F_Looker_key : Fun K "key" "Looker.key" s_Looker_key a_Looker_key d_Looker_key
  b_Looker_key : Binds K d_Looker_key P_Looker_key []
  h_Looker_key : Meth K C_Looker "key" a_Looker_key
  F_Looker_opened : Fun K "opened" "Looker.opened" s_Looker_opened a_Looker_opened d_Looker_opened
  b_Looker_opened : Binds K d_Looker_opened P_Looker_opened []
  h_Looker_opened : Meth K C_Looker "opened" a_Looker_opened
  F__law_word : Fun K "_law_word" "_law_word" s__law_word a__law_word d__law_word
  b__law_word : Binds K d__law_word P__law_word []
  g__law_word : mg "_law_word" = some (.ref a__law_word)
  F_Looker_up : Fun K "up" "Looker.up" s_Looker_up a_Looker_up d_Looker_up
  b_Looker_up : Binds K d_Looker_up P_Looker_up []
  h_Looker_up : Meth K C_Looker "up" a_Looker_up
  F_Looker_go_to : Fun K "go_to" "Looker.go_to" s_Looker_go_to a_Looker_go_to d_Looker_go_to
  b_Looker_go_to : Binds K d_Looker_go_to P_Looker_go_to []
  h_Looker_go_to : Meth K C_Looker "go_to" a_Looker_go_to
  F_Looker_further : Fun K "further" "Looker.further" s_Looker_further a_Looker_further d_Looker_further
  b_Looker_further : Binds K d_Looker_further P_Looker_further []
  h_Looker_further : Meth K C_Looker "further" a_Looker_further
  F_Looker_reach : Fun K "reach" "Looker.reach" s_Looker_reach a_Looker_reach d_Looker_reach
  b_Looker_reach : Binds K d_Looker_reach P_Looker_reach []
  h_Looker_reach : Meth K C_Looker "reach" a_Looker_reach
  F__law_acted : Fun K "_law_acted" "_law_acted" s__law_acted a__law_acted d__law_acted
  b__law_acted : Binds K d__law_acted P__law_acted []
  g__law_acted : mg "_law_acted" = some (.ref a__law_acted)
  F__law_trie : Fun K "_law_trie" "_law_trie" s__law_trie a__law_trie d__law_trie
  b__law_trie : Binds K d__law_trie P__law_trie []
  g__law_trie : mg "_law_trie" = some (.ref a__law_trie)
  F__law_moved : Fun K "_law_moved" "_law_moved" s__law_moved a__law_moved d__law_moved
  b__law_moved : Binds K d__law_moved P__law_moved []
  g__law_moved : mg "_law_moved" = some (.ref a__law_moved)
  F_law : Fun K "law" "law" s_law a_law d_law
  b_law : Binds K d_law P_law []
  g_law : mg "law" = some (.ref a_law)
section
variable {P : Program} {w : World} {K : PySem.W.Frag} {mg : Str → Option Value} {base : Heap} {a__law_draw a__law_drawn_rows a__law_pick a_Looker___init__ a__law_same a_Looker_at_end a_Looker_depth a_Looker_place a_Looker_looks a_first_at a_Looker_behind a_Looker_key a_Looker_opened a__law_word a_Looker_up a_Looker_go_to a_Looker_further a_Looker_reach a__law_acted a__law_trie a__law_moved a_law C_Looker C_NoDeeper C_NoUp C_NoKey C_RowError : Addr} {d__law_draw d__law_drawn_rows d__law_pick d_Looker___init__ d__law_same d_Looker_at_end d_Looker_depth d_Looker_place d_Looker_looks d_first_at d_Looker_behind d_Looker_key d_Looker_opened d__law_word d_Looker_up d_Looker_go_to d_Looker_further d_Looker_reach d__law_acted d__law_trie d__law_moved d_law : FuncData}
theorem ok__law_draw (T : Tx K mg a__law_draw a__law_drawn_rows a__law_pick a_Looker___init__ a__law_same a_Looker_at_end a_Looker_depth a_Looker_place a_Looker_looks a_first_at a_Looker_behind a_Looker_key a_Looker_opened a__law_word a_Looker_up a_Looker_go_to a_Looker_further a_Looker_reach a__law_acted a__law_trie a__law_moved a_law C_Looker C_NoDeeper C_NoUp C_NoKey C_RowError d__law_draw d__law_drawn_rows d__law_pick d_Looker___init__ d__law_same d_Looker_at_end d_Looker_depth d_Looker_place d_Looker_looks d_first_at d_Looker_behind d_Looker_key d_Looker_opened d__law_word d_Looker_up d_Looker_go_to d_Looker_further d_Looker_reach d__law_acted d__law_trie d__law_moved d_law) (fu : Nat) : FnOk P w K mg base (L2.CX P w) 1 a__law_draw d__law_draw P__law_draw (spD K mg 3 (F__law_draw fu)) := by
  refine fnT (N := N__law_draw) (b := m__law_draw fu) T.F__law_draw sc__law_draw fun cdv A outer s H E hr => ?_
  have tk : Takes (cxOf (L2.CX P w) P w K mg base N__law_draw "_law_draw" (defScope s__law_draw) a__law_draw cdv A outer s H E) (fun c d _ H => E c d H) := takes_of rfl rfl rfl rfl
  exact (js_cons (js_if (jt_not (jt_tru (jv 1))) (js_one (js_drop (j_append (jv 1) (j_callB (cr_max rfl) pok_max (by rfl) T.z_max (by decide +kernel) (ja_cons (j_bin op_addA pok_add (j_lc (own := [("cell", 4)]) (sl := [4]) (by decide) rfl sc__law_draw.nd (ji_seq (jv 0)) (blkOk_by (own := [("cell", 4)]) (N := N__law_draw) (sc := defScope s__law_draw) (by decide +kernel)) (fun _ _ _ _ _ => (jg_name (i := 4) sc__law_draw.nd rfl (by first | exact Or.inl rfl | exact Or.inr rfl))) (fun _ _ _ _ _ => jts_nil) (fun _ _ _ _ _ => (j_callB call_abs pok_abs (by rfl) T.z_abs (by decide +kernel) (ja_cons (jv 4) ja_nil)))) (j_lst (ja_cons j_int ja_nil))) ja_nil))))) js_nil)
    (js_cons (js_drop (j_append (jv 1) j_int))
    (js_cons (js_set (i := 3) sc__law_draw.nd rfl (by first | exact Or.inl rfl | exact Or.inr rfl) (j_callB call_len pok_len (by rfl) T.z_len (by decide +kernel) (ja_cons (jv 1) ja_nil)))
    (js_cons (js_set (i := 4) sc__law_draw.nd rfl (by first | exact Or.inl rfl | exact Or.inr rfl) (j_if (jt_tru (jv 0)) (j_ix ix_seq pok_ix (fun _ _ => rfl) (jv 0) (j_bin op_mod pok_mod (jv 3) (j_callB call_len pok_len (by rfl) T.z_len (by decide +kernel) (ja_cons (jv 0) ja_nil)))) j_int))
    (js_cons (js_set (i := 5) sc__law_draw.nd rfl (by first | exact Or.inl rfl | exact Or.inr rfl) (j_bin op_mod pok_mod (j_ix ix_seq pok_ix (fun _ _ => rfl) (jv 1) j_int) j_int))
    (js_cons (js_setIx (j_bin op_fdiv pok_fdiv (j_ix ix_seq pok_ix (fun _ _ => rfl) (jv 1) j_int) j_int) (jv 1) j_int)
    (js_cons (js_set (i := 6) sc__law_draw.nd rfl (by first | exact Or.inl rfl | exact Or.inr rfl) (j_bin op_mod pok_mod (j_bin op_addA pok_add (j_bin op_addA pok_add (jv 4) (j_bin op_mulA pok_mul j_int (jv 5))) (j_bin op_mulA pok_mul j_int (jv 3))) j_int))
    (js_cons (js_set (i := 6) sc__law_draw.nd rfl (by first | exact Or.inl rfl | exact Or.inr rfl) (j_bin op_mod pok_mod (j_bin op_mulA pok_mul (j_bin op_mod pok_mod (j_bin op_mulA pok_mul (jv 6) (jv 6)) j_int) j_int) j_int))
    (js_cons (js_set (i := 7) sc__law_draw.nd rfl (by first | exact Or.inl rfl | exact Or.inr rfl) (j_bin op_mod pok_mod (j_bin op_mulA pok_mul (j_bin op_mod pok_mod (j_bin op_mulA pok_mul (jv 6) (jv 6)) j_int) j_int) j_int))
    (js_one (js_ret (j_bin op_mod pok_mod (j_bin op_addA pok_add (j_bin op_mulA pok_mul (j_bin op_fdiv pok_fdiv (jv 6) j_int) j_int) (j_bin op_fdiv pok_fdiv (jv 7) j_int)) (jv 2)))))))))))))
theorem ok__law_drawn_rows (T : Tx K mg a__law_draw a__law_drawn_rows a__law_pick a_Looker___init__ a__law_same a_Looker_at_end a_Looker_depth a_Looker_place a_Looker_looks a_first_at a_Looker_behind a_Looker_key a_Looker_opened a__law_word a_Looker_up a_Looker_go_to a_Looker_further a_Looker_reach a__law_acted a__law_trie a__law_moved a_law C_Looker C_NoDeeper C_NoUp C_NoKey C_RowError d__law_draw d__law_drawn_rows d__law_pick d_Looker___init__ d__law_same d_Looker_at_end d_Looker_depth d_Looker_place d_Looker_looks d_first_at d_Looker_behind d_Looker_key d_Looker_opened d__law_word d_Looker_up d_Looker_go_to d_Looker_further d_Looker_reach d__law_acted d__law_trie d__law_moved d_law) (fu : Nat) : FnOk P w K mg base (L2.CX P w) 2 a__law_drawn_rows d__law_drawn_rows P__law_drawn_rows (spD K mg 5 (F__law_drawn_rows fu)) := by
  refine fnT (N := N__law_drawn_rows) (b := m__law_drawn_rows fu) T.F__law_drawn_rows sc__law_drawn_rows fun cdv A outer s H E hr => ?_
  have tk : Takes (cxOf (L2.CX P w) P w K mg base N__law_drawn_rows "_law_drawn_rows" (defScope s__law_drawn_rows) a__law_drawn_rows cdv A outer s H E) (fun c d _ H => E c d H) := takes_of rfl rfl rfl rfl
  exact (js_cons (js_set (i := 5) sc__law_drawn_rows.nd rfl (by first | exact Or.inl rfl | exact Or.inr rfl) (j_lst ja_nil))
    (js_cons (js_for (passes_of rfl) rfl (ji_rng1 (by rfl) T.z_range (ja_cons (j_call (ok__law_draw T fu) (hr.mono (by decide)) (by rfl) T.g__law_draw T.F__law_draw.kp T.b__law_draw tk (ja_cons (jv 0) (ja_cons (jv 1) (ja_cons (j_bin op_addA pok_add (jv 3) j_int) ja_nil)))) ja_nil)) (jg_name (i := 6) sc__law_drawn_rows.nd rfl (by first | exact Or.inl rfl | exact Or.inr rfl)) (js_cons (js_set (i := 7) sc__law_drawn_rows.nd rfl (by first | exact Or.inl rfl | exact Or.inr rfl) (j_callT call_tuple_of pok_tup (by rfl) T.z_tuple (by decide +kernel) (ja_cons (j_lc (own := [("j", 8)]) (sl := [8]) (by decide) rfl sc__law_drawn_rows.nd (ji_rng1 (by rfl) T.z_range (ja_cons (jv 2) ja_nil)) (blkOk_by (own := [("j", 8)]) (N := N__law_drawn_rows) (sc := defScope s__law_drawn_rows) (by decide +kernel)) (fun _ _ _ _ _ => (jg_name (i := 8) sc__law_drawn_rows.nd rfl (by first | exact Or.inl rfl | exact Or.inr rfl))) (fun _ _ _ _ _ => jts_nil) (fun _ _ _ _ _ => (j_call (ok__law_draw T fu) (hr.mono (by decide)) (by rfl) T.g__law_draw T.F__law_draw.kp T.b__law_draw takes0 (ja_cons (jv 0) (ja_cons (jv 1) (ja_cons (jv 4) ja_nil)))))) ja_nil)))
    (js_one (js_set (i := 5) sc__law_drawn_rows.nd rfl (by first | exact Or.inl rfl | exact Or.inr rfl) (j_bin op_addA pok_add (jv 5) (j_bin op_mulA pok_mul (j_lst (ja_cons (jv 7) ja_nil)) (j_callT call_int1 pok_int (by rfl) T.z_int (by decide +kernel) (ja_cons (j_cmp (op_notInD (room65 hr)) pok_nin (by rfl) (jv 7) (jv 5)) ja_nil))))))))
    (js_one (js_ret (j_callT call_tuple_of pok_tup (by rfl) T.z_tuple (by decide +kernel) (ja_cons (j_callB cr_sortA pok_sort (by rfl) T.z_sorted (by decide +kernel) (ja_cons (jv 5) ja_nil)) ja_nil))))))
theorem ok__law_pick (T : Tx K mg a__law_draw a__law_drawn_rows a__law_pick a_Looker___init__ a__law_same a_Looker_at_end a_Looker_depth a_Looker_place a_Looker_looks a_first_at a_Looker_behind a_Looker_key a_Looker_opened a__law_word a_Looker_up a_Looker_go_to a_Looker_further a_Looker_reach a__law_acted a__law_trie a__law_moved a_law C_Looker C_NoDeeper C_NoUp C_NoKey C_RowError d__law_draw d__law_drawn_rows d__law_pick d_Looker___init__ d__law_same d_Looker_at_end d_Looker_depth d_Looker_place d_Looker_looks d_first_at d_Looker_behind d_Looker_key d_Looker_opened d__law_word d_Looker_up d_Looker_go_to d_Looker_further d_Looker_reach d__law_acted d__law_trie d__law_moved d_law) (fu : Nat) : FnOk P w K mg base (L2.CX P w) 2 a__law_pick d__law_pick P__law_pick (spD K mg 3 (F__law_pick fu)) := by
  refine fnT (N := N__law_pick) (b := m__law_pick fu) T.F__law_pick sc__law_pick fun cdv A outer s H E hr => ?_
  have tk : Takes (cxOf (L2.CX P w) P w K mg base N__law_pick "_law_pick" (defScope s__law_pick) a__law_pick cdv A outer s H E) (fun c d _ H => E c d H) := takes_of rfl rfl rfl rfl
  exact (js_one (js_ret (j_ix ix_seq pok_ix (fun _ _ => rfl) (jv 2) (j_call (ok__law_draw T fu) (hr.mono (by decide)) (by rfl) T.g__law_draw T.F__law_draw.kp T.b__law_draw tk (ja_cons (jv 0) (ja_cons (jv 1) (ja_cons (j_callB call_len pok_len (by rfl) T.z_len (by decide +kernel) (ja_cons (jv 2) ja_nil)) ja_nil)))))))
theorem ok_Looker___init__ (T : Tx K mg a__law_draw a__law_drawn_rows a__law_pick a_Looker___init__ a__law_same a_Looker_at_end a_Looker_depth a_Looker_place a_Looker_looks a_first_at a_Looker_behind a_Looker_key a_Looker_opened a__law_word a_Looker_up a_Looker_go_to a_Looker_further a_Looker_reach a__law_acted a__law_trie a__law_moved a_law C_Looker C_NoDeeper C_NoUp C_NoKey C_RowError d__law_draw d__law_drawn_rows d__law_pick d_Looker___init__ d__law_same d_Looker_at_end d_Looker_depth d_Looker_place d_Looker_looks d_first_at d_Looker_behind d_Looker_key d_Looker_opened d__law_word d_Looker_up d_Looker_go_to d_Looker_further d_Looker_reach d__law_acted d__law_trie d__law_moved d_law) (fu : Nat) : FnOk P w K mg base (L2.CX P w) 1 a_Looker___init__ d_Looker___init__ P_Looker___init__ (spD K mg 2 (F_Looker___init__ fu)) := by
  refine fnK (N := N_Looker___init__) (b := m_Looker___init__ fu) T.F_Looker___init__ sc_Looker___init__ fun cdv A outer s H E hr => ?_
  have tk : Takes (cxOf (L2.CX P w) P w K mg base N_Looker___init__ "Looker.__init__" (defScope s_Looker___init__) a_Looker___init__ cdv A outer s H E) (fun c d _ H => E c d H) := takes_of rfl rfl rfl rfl
  exact (js_cons (js_fld T.k_Looker T.n_Looker_rows (jv 0) (jv 1))
    (js_cons (js_fld T.k_Looker T.n_Looker_levels (jv 0) (j_newL ja_nil))
    (js_one (js_fld T.k_Looker T.n_Looker_many (jv 0) j_int))))
theorem ok__law_same (T : Tx K mg a__law_draw a__law_drawn_rows a__law_pick a_Looker___init__ a__law_same a_Looker_at_end a_Looker_depth a_Looker_place a_Looker_looks a_first_at a_Looker_behind a_Looker_key a_Looker_opened a__law_word a_Looker_up a_Looker_go_to a_Looker_further a_Looker_reach a__law_acted a__law_trie a__law_moved a_law C_Looker C_NoDeeper C_NoUp C_NoKey C_RowError d__law_draw d__law_drawn_rows d__law_pick d_Looker___init__ d__law_same d_Looker_at_end d_Looker_depth d_Looker_place d_Looker_looks d_first_at d_Looker_behind d_Looker_key d_Looker_opened d__law_word d_Looker_up d_Looker_go_to d_Looker_further d_Looker_reach d__law_acted d__law_trie d__law_moved d_law) (fu : Nat) : ∀ n : Nat, FnOk P w K mg base (L2.CX P w) (1 + n) a__law_same d__law_same P__law_same (spD K mg 2 (F__law_same fu n))
  | 0 => fn_bad
  | n + 1 => by
    have ih := ok__law_same T fu n
    refine fnT (k := 1 + n) (N := N__law_same) (b := m__law_same fu (F__law_same fu n)) T.F__law_same sc__law_same fun cdv A outer s H E hr => ?_
    have tk : Takes (cxOf (L2.CX P w) P w K mg base N__law_same "_law_same" (defScope s__law_same) a__law_same cdv A outer s H E) (fun c d _ H => E c d H) := takes_of rfl rfl rfl rfl
    exact (js_cons (js_if (jt_cmp op_isN pok_isN (nomark _) (jv 1) j_non) (js_one (js_ret (j_cmp op_isN pok_isN (nomark _) (jv 0) j_non))) js_nil)
    (js_cons (js_if (jt_tru (j_callB call_isi pok_isi (by rfl) T.z_isinstance (by decide +kernel) (ja_cons (jv 1) (ja_cons (j_ty (by rfl) T.z_bool (by decide +kernel)) ja_nil)))) (js_one (js_ret (j_and (j_callB call_isi pok_isi (by rfl) T.z_isinstance (by decide +kernel) (ja_cons (jv 0) (ja_cons (j_ty (by rfl) T.z_bool (by decide +kernel)) ja_nil))) (j_one (j_cmp (op_eqA hr.units) pok_eq (nomark _) (jv 0) (jv 1)))))) js_nil)
    (js_cons (js_if (jt_tru (j_callB call_isi pok_isi (by rfl) T.z_isinstance (by decide +kernel) (ja_cons (jv 1) (ja_cons (j_ty (by rfl) T.z_tuple (by decide +kernel)) ja_nil)))) (js_cons (js_if (jw_pt (jw_or (jt_not (jt_tru (j_callB call_isi pok_isi (by rfl) T.z_isinstance (by decide +kernel) (ja_cons (jv 0) (ja_cons (j_ty (by rfl) T.z_tuple (by decide +kernel)) ja_nil))))) (jw_or1 (jt_cmp (op_neA hr.units) pok_ne (nomark _) (j_callB call_len pok_len (by rfl) T.z_len (by decide +kernel) (ja_cons (jv 0) ja_nil)) (j_callB call_len pok_len (by rfl) T.z_len (by decide +kernel) (ja_cons (jv 1) ja_nil)))))) (js_one (js_ret j_bl)) js_nil)
    (js_one (js_ret (j_callB (cr_all rfl) pok_all (by rfl) T.z_all (by decide +kernel) (ja_cons (j_lc (own := [("one", 2), ("other", 3)]) (sl := [2, 3]) (by decide) rfl sc__law_same.nd (ji_zip (by rfl) T.z_zip (ja_cons (jv 0) (ja_cons (jv 1) ja_nil))) (blkOk_by (own := [("one", 2), ("other", 3)]) (N := N__law_same) (sc := defScope s__law_same) (by decide +kernel)) (fun _ _ _ _ _ => (jg_tup rfl (jgs_cons (jg_name (i := 2) sc__law_same.nd rfl (by first | exact Or.inl rfl | exact Or.inr rfl)) (jgs_cons (jg_name (i := 3) sc__law_same.nd rfl (by first | exact Or.inl rfl | exact Or.inr rfl)) jgs_nil)))) (fun _ _ _ _ _ => jts_nil) (fun _ _ _ _ _ => (j_call ih (hr.mono (by omega)) (by rfl) T.g__law_same T.F__law_same.kp T.b__law_same takes0 (ja_cons (jv 2) (ja_cons (jv 3) ja_nil))))) ja_nil))))) js_nil)
    (js_cons (js_if (jt_tru (j_callB call_isi pok_isi (by rfl) T.z_isinstance (by decide +kernel) (ja_cons (jv 1) (ja_cons (j_ty (by rfl) T.z_str (by decide +kernel)) ja_nil)))) (js_one (js_ret (j_and (j_callB call_isi pok_isi (by rfl) T.z_isinstance (by decide +kernel) (ja_cons (jv 0) (ja_cons (j_ty (by rfl) T.z_str (by decide +kernel)) ja_nil))) (j_one (j_cmp (op_eqA hr.units) pok_eq (nomark _) (jv 0) (jv 1)))))) js_nil)
    (js_one (js_ret (j_and (j_callB call_isi pok_isi (by rfl) T.z_isinstance (by decide +kernel) (ja_cons (jv 0) (ja_cons (j_ty (by rfl) T.z_int (by decide +kernel)) ja_nil))) (j_and (j_not (j_callB call_isi pok_isi (by rfl) T.z_isinstance (by decide +kernel) (ja_cons (jv 0) (ja_cons (j_ty (by rfl) T.z_bool (by decide +kernel)) ja_nil)))) (j_one (j_cmp (op_eqA hr.units) pok_eq (nomark _) (jv 0) (jv 1)))))))))))
theorem ok_Looker_at_end (T : Tx K mg a__law_draw a__law_drawn_rows a__law_pick a_Looker___init__ a__law_same a_Looker_at_end a_Looker_depth a_Looker_place a_Looker_looks a_first_at a_Looker_behind a_Looker_key a_Looker_opened a__law_word a_Looker_up a_Looker_go_to a_Looker_further a_Looker_reach a__law_acted a__law_trie a__law_moved a_law C_Looker C_NoDeeper C_NoUp C_NoKey C_RowError d__law_draw d__law_drawn_rows d__law_pick d_Looker___init__ d__law_same d_Looker_at_end d_Looker_depth d_Looker_place d_Looker_looks d_first_at d_Looker_behind d_Looker_key d_Looker_opened d__law_word d_Looker_up d_Looker_go_to d_Looker_further d_Looker_reach d__law_acted d__law_trie d__law_moved d_law) (fu : Nat) : FnOk P w K mg base (L2.CX P w) 1 a_Looker_at_end d_Looker_at_end P_Looker_at_end (spD K mg 1 (F_Looker_at_end fu)) := by
  refine fnT (N := N_Looker_at_end) (b := m_Looker_at_end fu) T.F_Looker_at_end sc_Looker_at_end fun cdv A outer s H E hr => ?_
  have tk : Takes (cxOf (L2.CX P w) P w K mg base N_Looker_at_end "Looker.at_end" (defScope s_Looker_at_end) a_Looker_at_end cdv A outer s H E) (fun c d _ H => E c d H) := takes_of rfl rfl rfl rfl
  exact (js_one (js_ret (j_and (j_cmp (op_neA hr.units) pok_ne (nomark _) (j_fld T.k_Looker T.n_Looker_levels (jv 0)) (j_lst ja_nil)) (j_one (j_cmp (op_eqA hr.units) pok_eq (nomark _) (j_ix ix_seq pok_ix (fun _ _ => rfl) (j_ix ix_seq pok_ix (fun _ _ => rfl) (j_fld T.k_Looker T.n_Looker_levels (jv 0)) (j_un un_neg pok_neg j_int)) j_int) (j_ix ix_seq pok_ix (fun _ _ => rfl) (j_ix ix_seq pok_ix (fun _ _ => rfl) (j_fld T.k_Looker T.n_Looker_levels (jv 0)) (j_un un_neg pok_neg j_int)) j_int))))))
theorem ok_Looker_depth (T : Tx K mg a__law_draw a__law_drawn_rows a__law_pick a_Looker___init__ a__law_same a_Looker_at_end a_Looker_depth a_Looker_place a_Looker_looks a_first_at a_Looker_behind a_Looker_key a_Looker_opened a__law_word a_Looker_up a_Looker_go_to a_Looker_further a_Looker_reach a__law_acted a__law_trie a__law_moved a_law C_Looker C_NoDeeper C_NoUp C_NoKey C_RowError d__law_draw d__law_drawn_rows d__law_pick d_Looker___init__ d__law_same d_Looker_at_end d_Looker_depth d_Looker_place d_Looker_looks d_first_at d_Looker_behind d_Looker_key d_Looker_opened d__law_word d_Looker_up d_Looker_go_to d_Looker_further d_Looker_reach d__law_acted d__law_trie d__law_moved d_law) (fu : Nat) : FnOk P w K mg base (L2.CX P w) 1 a_Looker_depth d_Looker_depth P_Looker_depth (spD K mg 1 (F_Looker_depth fu)) := by
  refine fnT (N := N_Looker_depth) (b := m_Looker_depth fu) T.F_Looker_depth sc_Looker_depth fun cdv A outer s H E hr => ?_
  have tk : Takes (cxOf (L2.CX P w) P w K mg base N_Looker_depth "Looker.depth" (defScope s_Looker_depth) a_Looker_depth cdv A outer s H E) (fun c d _ H => E c d H) := takes_of rfl rfl rfl rfl
  exact (js_one (js_ret (j_callB call_len pok_len (by rfl) T.z_len (by decide +kernel) (ja_cons (j_fld T.k_Looker T.n_Looker_levels (jv 0)) ja_nil))))
theorem ok_Looker_place (T : Tx K mg a__law_draw a__law_drawn_rows a__law_pick a_Looker___init__ a__law_same a_Looker_at_end a_Looker_depth a_Looker_place a_Looker_looks a_first_at a_Looker_behind a_Looker_key a_Looker_opened a__law_word a_Looker_up a_Looker_go_to a_Looker_further a_Looker_reach a__law_acted a__law_trie a__law_moved a_law C_Looker C_NoDeeper C_NoUp C_NoKey C_RowError d__law_draw d__law_drawn_rows d__law_pick d_Looker___init__ d__law_same d_Looker_at_end d_Looker_depth d_Looker_place d_Looker_looks d_first_at d_Looker_behind d_Looker_key d_Looker_opened d__law_word d_Looker_up d_Looker_go_to d_Looker_further d_Looker_reach d__law_acted d__law_trie d__law_moved d_law) (fu : Nat) : FnOk P w K mg base (L2.CX P w) 2 a_Looker_place d_Looker_place P_Looker_place (spD K mg 1 (F_Looker_place fu)) := by
  refine fnT (N := N_Looker_place) (b := m_Looker_place fu) T.F_Looker_place sc_Looker_place fun cdv A outer s H E hr => ?_
  have tk : Takes (cxOf (L2.CX P w) P w K mg base N_Looker_place "Looker.place" (defScope s_Looker_place) a_Looker_place cdv A outer s H E) (fun c d _ H => E c d H) := takes_of rfl rfl rfl rfl
  exact (js_cons (js_if (jt_not (jt_tru (j_fld T.k_Looker T.n_Looker_levels (jv 0)))) (js_one (js_ret (j_tup ja_nil))) js_nil)
    (js_cons (js_if (jt_tru (j_meth0 T.k_Looker T.h_Looker_at_end (ok_Looker_at_end T fu) (hr.mono (by decide)) T.b_Looker_at_end tk (jv 0))) (js_one (js_ret (j_slice (j_ix ix_seq pok_ix (fun _ _ => rfl) (j_fld T.k_Looker T.n_Looker_rows (jv 0)) (j_ix ix_seq pok_ix (fun _ _ => rfl) (j_ix ix_seq pok_ix (fun _ _ => rfl) (j_fld T.k_Looker T.n_Looker_levels (jv 0)) (j_un un_neg pok_neg j_int)) j_int)) jo_none (jo_some (j_bin op_sub pok_sub (j_callB call_len pok_len (by rfl) T.z_len (by decide +kernel) (ja_cons (j_fld T.k_Looker T.n_Looker_levels (jv 0)) ja_nil)) j_int))))) js_nil)
    (js_one (js_ret (j_slice (j_ix ix_seq pok_ix (fun _ _ => rfl) (j_fld T.k_Looker T.n_Looker_rows (jv 0)) (j_ix ix_seq pok_ix (fun _ _ => rfl) (j_ix ix_seq pok_ix (fun _ _ => rfl) (j_fld T.k_Looker T.n_Looker_levels (jv 0)) (j_un un_neg pok_neg j_int)) j_int)) jo_none (jo_some (j_callB call_len pok_len (by rfl) T.z_len (by decide +kernel) (ja_cons (j_fld T.k_Looker T.n_Looker_levels (jv 0)) ja_nil))))))))
theorem ok_Looker_looks (T : Tx K mg a__law_draw a__law_drawn_rows a__law_pick a_Looker___init__ a__law_same a_Looker_at_end a_Looker_depth a_Looker_place a_Looker_looks a_first_at a_Looker_behind a_Looker_key a_Looker_opened a__law_word a_Looker_up a_Looker_go_to a_Looker_further a_Looker_reach a__law_acted a__law_trie a__law_moved a_law C_Looker C_NoDeeper C_NoUp C_NoKey C_RowError d__law_draw d__law_drawn_rows d__law_pick d_Looker___init__ d__law_same d_Looker_at_end d_Looker_depth d_Looker_place d_Looker_looks d_first_at d_Looker_behind d_Looker_key d_Looker_opened d__law_word d_Looker_up d_Looker_go_to d_Looker_further d_Looker_reach d__law_acted d__law_trie d__law_moved d_law) (fu : Nat) : FnOk P w K mg base (L2.CX P w) 1 a_Looker_looks d_Looker_looks P_Looker_looks (spD K mg 1 (F_Looker_looks fu)) := by
  refine fnT (N := N_Looker_looks) (b := m_Looker_looks fu) T.F_Looker_looks sc_Looker_looks fun cdv A outer s H E hr => ?_
  have tk : Takes (cxOf (L2.CX P w) P w K mg base N_Looker_looks "Looker.looks" (defScope s_Looker_looks) a_Looker_looks cdv A outer s H E) (fun c d _ H => E c d H) := takes_of rfl rfl rfl rfl
  exact (js_one (js_ret (j_fld T.k_Looker T.n_Looker_many (jv 0))))
theorem ok_first_at (T : Tx K mg a__law_draw a__law_drawn_rows a__law_pick a_Looker___init__ a__law_same a_Looker_at_end a_Looker_depth a_Looker_place a_Looker_looks a_first_at a_Looker_behind a_Looker_key a_Looker_opened a__law_word a_Looker_up a_Looker_go_to a_Looker_further a_Looker_reach a__law_acted a__law_trie a__law_moved a_law C_Looker C_NoDeeper C_NoUp C_NoKey C_RowError d__law_draw d__law_drawn_rows d__law_pick d_Looker___init__ d__law_same d_Looker_at_end d_Looker_depth d_Looker_place d_Looker_looks d_first_at d_Looker_behind d_Looker_key d_Looker_opened d__law_word d_Looker_up d_Looker_go_to d_Looker_further d_Looker_reach d__law_acted d__law_trie d__law_moved d_law) (fu : Nat) : FnOk P w K mg base (L2.CX P w) 1 a_first_at d_first_at P_first_at (spD K mg 3 (F_first_at fu)) := by
  refine fnT (N := N_first_at) (b := m_first_at fu) T.F_first_at sc_first_at fun cdv A outer s H E hr => ?_
  have tk : Takes (cxOf (L2.CX P w) P w K mg base N_first_at "first_at" (defScope s_first_at) a_first_at cdv A outer s H E) (fun c d _ H => E c d H) := takes_of rfl rfl rfl rfl
  exact (js_cons (js_par (i := 3) (j := 4) rfl sc_first_at.nd rfl rfl (by decide) rfl rfl (ja_cons (jv 1) (ja_cons (j_callB call_len pok_len (by rfl) T.z_len (by decide +kernel) (ja_cons (jv 0) ja_nil)) ja_nil)) (by rfl))
    (js_cons (js_while fu (passes_of rfl) (jt_cmp op_ltA pok_lt (nomark _) (jv 3) (jv 4)) (js_cons (js_set (i := 5) sc_first_at.nd rfl (by first | exact Or.inl rfl | exact Or.inr rfl) (j_bin op_fdiv pok_fdiv (j_bin op_addA pok_add (jv 3) (jv 4)) j_int))
    (js_one (js_if (jt_cmp op_ltA pok_lt (nomark _) (j_ix ix_seq pok_ix (fun _ _ => rfl) (jv 0) (jv 5)) (jv 2)) (js_one (js_set (i := 3) sc_first_at.nd rfl (by first | exact Or.inl rfl | exact Or.inr rfl) (j_bin op_addA pok_add (jv 5) j_int))) (js_one (js_set (i := 4) sc_first_at.nd rfl (by first | exact Or.inl rfl | exact Or.inr rfl) (jv 5)))))))
    (js_one (js_ret (jv 3)))))
theorem ok_Looker_behind (T : Tx K mg a__law_draw a__law_drawn_rows a__law_pick a_Looker___init__ a__law_same a_Looker_at_end a_Looker_depth a_Looker_place a_Looker_looks a_first_at a_Looker_behind a_Looker_key a_Looker_opened a__law_word a_Looker_up a_Looker_go_to a_Looker_further a_Looker_reach a__law_acted a__law_trie a__law_moved a_law C_Looker C_NoDeeper C_NoUp C_NoKey C_RowError d__law_draw d__law_drawn_rows d__law_pick d_Looker___init__ d__law_same d_Looker_at_end d_Looker_depth d_Looker_place d_Looker_looks d_first_at d_Looker_behind d_Looker_key d_Looker_opened d__law_word d_Looker_up d_Looker_go_to d_Looker_further d_Looker_reach d__law_acted d__law_trie d__law_moved d_law) (fu : Nat) : FnOk P w K mg base (L2.CX P w) 2 a_Looker_behind d_Looker_behind P_Looker_behind (spD K mg 2 (F_Looker_behind fu)) := by
  refine fnT (N := N_Looker_behind) (b := m_Looker_behind fu) T.F_Looker_behind sc_Looker_behind fun cdv A outer s H E hr => ?_
  have tk : Takes (cxOf (L2.CX P w) P w K mg base N_Looker_behind "Looker.behind" (defScope s_Looker_behind) a_Looker_behind cdv A outer s H E) (fun c d _ H => E c d H) := takes_of rfl rfl rfl rfl
  exact (js_cons (js_asg (j_ix ix_seq pok_ix (fun _ _ => rfl) (j_fld T.k_Looker T.n_Looker_levels (jv 0)) (j_un un_neg pok_neg j_int)) (jg_tup rfl (jgs_cons (jg_name (i := 3) sc_Looker_behind.nd rfl (by first | exact Or.inl rfl | exact Or.inr rfl)) (jgs_cons (jg_name (i := 4) sc_Looker_behind.nd rfl (by first | exact Or.inl rfl | exact Or.inr rfl)) (jgs_cons (jg_name (i := 5) sc_Looker_behind.nd rfl (by first | exact Or.inl rfl | exact Or.inr rfl)) jgs_nil)))))
    (js_cons (js_setLc (i := 2) (own := [("row", 6)]) (sl := [6]) (by decide) rfl sc_Looker_behind.nd rfl rfl (sw_true rfl rfl rfl (by decide +kernel)) (ji_seq (j_slice (j_fld T.k_Looker T.n_Looker_rows (jv 0)) jo_none (jo_some (jv 4)))) (blkOk_by (own := [("row", 6)]) (N := N_Looker_behind) (sc := defScope s_Looker_behind) (by decide +kernel)) (fun _ _ _ _ _ => (jg_name (i := 6) sc_Looker_behind.nd rfl (by first | exact Or.inl rfl | exact Or.inr rfl))) (fun _ _ _ _ _ => jts_nil) (fun _ _ _ _ _ => (j_ix ix_seq pok_ix (fun _ _ => rfl) (jv 6) (j_bin op_sub pok_sub (j_callB call_len pok_len (by rfl) T.z_len (by decide +kernel) (ja_cons (j_fld T.k_Looker T.n_Looker_levels (jv 0)) ja_nil)) j_int))))
    (js_one (js_ret (j_call (ok_first_at T fu) (hr.mono (by decide)) (by rfl) T.g_first_at T.F_first_at.kp T.b_first_at tk (ja_cons (jv 2) (ja_cons (jv 5) (ja_cons (j_bin op_addA pok_add (jv 1) j_int) ja_nil))))))))
theorem ok_Looker_key (T : Tx K mg a__law_draw a__law_drawn_rows a__law_pick a_Looker___init__ a__law_same a_Looker_at_end a_Looker_depth a_Looker_place a_Looker_looks a_first_at a_Looker_behind a_Looker_key a_Looker_opened a__law_word a_Looker_up a_Looker_go_to a_Looker_further a_Looker_reach a__law_acted a__law_trie a__law_moved a_law C_Looker C_NoDeeper C_NoUp C_NoKey C_RowError d__law_draw d__law_drawn_rows d__law_pick d_Looker___init__ d__law_same d_Looker_at_end d_Looker_depth d_Looker_place d_Looker_looks d_first_at d_Looker_behind d_Looker_key d_Looker_opened d__law_word d_Looker_up d_Looker_go_to d_Looker_further d_Looker_reach d__law_acted d__law_trie d__law_moved d_law) (fu : Nat) : FnOk P w K mg base (L2.CX P w) 2 a_Looker_key d_Looker_key P_Looker_key (spD K mg 1 (F_Looker_key fu)) := by
  refine fnT (N := N_Looker_key) (b := m_Looker_key fu) T.F_Looker_key sc_Looker_key fun cdv A outer s H E hr => ?_
  have tk : Takes (cxOf (L2.CX P w) P w K mg base N_Looker_key "Looker.key" (defScope s_Looker_key) a_Looker_key cdv A outer s H E) (fun c d _ H => E c d H) := takes_of rfl rfl rfl rfl
  exact (js_cons (js_if (jw_pt (jw_or (jt_not (jt_tru (j_fld T.k_Looker T.n_Looker_levels (jv 0)))) (jw_or1 (jt_tru (j_meth0 T.k_Looker T.h_Looker_at_end (ok_Looker_at_end T fu) (hr.mono (by decide)) T.b_Looker_at_end tk (jv 0)))))) (js_one (js_raiseX T.x_NoKey rfl tk (by rfl))) js_nil)
    (js_one (js_ret (j_ix ix_seq pok_ix (fun _ _ => rfl) (j_ix ix_seq pok_ix (fun _ _ => rfl) (j_fld T.k_Looker T.n_Looker_rows (jv 0)) (j_ix ix_seq pok_ix (fun _ _ => rfl) (j_ix ix_seq pok_ix (fun _ _ => rfl) (j_fld T.k_Looker T.n_Looker_levels (jv 0)) (j_un un_neg pok_neg j_int)) j_int)) (j_bin op_sub pok_sub (j_callB call_len pok_len (by rfl) T.z_len (by decide +kernel) (ja_cons (j_fld T.k_Looker T.n_Looker_levels (jv 0)) ja_nil)) j_int)))))
theorem ok_Looker_opened (T : Tx K mg a__law_draw a__law_drawn_rows a__law_pick a_Looker___init__ a__law_same a_Looker_at_end a_Looker_depth a_Looker_place a_Looker_looks a_first_at a_Looker_behind a_Looker_key a_Looker_opened a__law_word a_Looker_up a_Looker_go_to a_Looker_further a_Looker_reach a__law_acted a__law_trie a__law_moved a_law C_Looker C_NoDeeper C_NoUp C_NoKey C_RowError d__law_draw d__law_drawn_rows d__law_pick d_Looker___init__ d__law_same d_Looker_at_end d_Looker_depth d_Looker_place d_Looker_looks d_first_at d_Looker_behind d_Looker_key d_Looker_opened d__law_word d_Looker_up d_Looker_go_to d_Looker_further d_Looker_reach d__law_acted d__law_trie d__law_moved d_law) (fu : Nat) : FnOk P w K mg base (L2.CX P w) 3 a_Looker_opened d_Looker_opened P_Looker_opened (spD K mg 1 (F_Looker_opened fu)) := by
  refine fnT (N := N_Looker_opened) (b := m_Looker_opened fu) T.F_Looker_opened sc_Looker_opened fun cdv A outer s H E hr => ?_
  have tk : Takes (cxOf (L2.CX P w) P w K mg base N_Looker_opened "Looker.opened" (defScope s_Looker_opened) a_Looker_opened cdv A outer s H E) (fun c d _ H => E c d H) := takes_of rfl rfl rfl rfl
  exact (js_cons (js_if (jw_pt (jw_or (jt_cmp (op_eqA hr.units) pok_eq (nomark _) (j_fld T.k_Looker T.n_Looker_rows (jv 0)) (j_tup ja_nil)) (jw_or (jt_tru (j_meth0 T.k_Looker T.h_Looker_at_end (ok_Looker_at_end T fu) (hr.mono (by decide)) T.b_Looker_at_end tk (jv 0))) (jw_or1 (jt_cmp (op_eqA hr.units) pok_eq (nomark _) (j_callB call_len pok_len (by rfl) T.z_len (by decide +kernel) (ja_cons (j_fld T.k_Looker T.n_Looker_levels (jv 0)) ja_nil)) (j_callB call_len pok_len (by rfl) T.z_len (by decide +kernel) (ja_cons (j_ix ix_seq pok_ix (fun _ _ => rfl) (j_fld T.k_Looker T.n_Looker_rows (jv 0)) j_int) ja_nil))))))) (js_one (js_raiseX T.x_NoDeeper rfl tk (by rfl))) js_nil)
    (js_one (js_if (jt_tru (j_fld T.k_Looker T.n_Looker_levels (jv 0))) (js_cons (js_asg (j_ix ix_seq pok_ix (fun _ _ => rfl) (j_fld T.k_Looker T.n_Looker_levels (jv 0)) (j_un un_neg pok_neg j_int)) (jg_tup rfl (jgs_cons (jg_name (i := 1) sc_Looker_opened.nd rfl (by first | exact Or.inl rfl | exact Or.inr rfl)) (jgs_cons (jg_name (i := 2) sc_Looker_opened.nd rfl (by first | exact Or.inl rfl | exact Or.inr rfl)) (jgs_cons (jg_name (i := 3) sc_Looker_opened.nd rfl (by first | exact Or.inl rfl | exact Or.inr rfl)) jgs_nil)))))
    (js_one (js_drop (j_append (j_fld T.k_Looker T.n_Looker_levels (jv 0)) (j_tup (ja_cons (jv 3) (ja_cons (j_meth T.k_Looker T.h_Looker_behind (ok_Looker_behind T fu) (hr.mono (by decide)) T.b_Looker_behind tk (jv 0) (ja_cons (j_meth0 T.k_Looker T.h_Looker_key (ok_Looker_key T fu) (hr.mono (by decide)) T.b_Looker_key tk (jv 0)) ja_nil)) (ja_cons (jv 3) ja_nil)))))))) (js_one (js_drop (j_append (j_fld T.k_Looker T.n_Looker_levels (jv 0)) (j_tup (ja_cons j_int (ja_cons (j_callB call_len pok_len (by rfl) T.z_len (by decide +kernel) (ja_cons (j_fld T.k_Looker T.n_Looker_rows (jv 0)) ja_nil)) (ja_cons j_int ja_nil))))))))))
theorem psw (T : Tx K mg a__law_draw a__law_drawn_rows a__law_pick a_Looker___init__ a__law_same a_Looker_at_end a_Looker_depth a_Looker_place a_Looker_looks a_first_at a_Looker_behind a_Looker_key a_Looker_opened a__law_word a_Looker_up a_Looker_go_to a_Looker_further a_Looker_reach a__law_acted a__law_trie a__law_moved a_law C_Looker C_NoDeeper C_NoUp C_NoKey C_RowError d__law_draw d__law_drawn_rows d__law_pick d_Looker___init__ d__law_same d_Looker_at_end d_Looker_depth d_Looker_place d_Looker_looks d_first_at d_Looker_behind d_Looker_key d_Looker_opened d__law_word d_Looker_up d_Looker_go_to d_Looker_further d_Looker_reach d__law_acted d__law_trie d__law_moved d_law) {D : Addr} (C : ExcC K D) {b_NoDeeper b_NoUp b_NoKey : Bool} (h_NoDeeper : PySem.W.kitOne K (.ref D) (.ref C_NoDeeper) = some b_NoDeeper) (h_NoUp : PySem.W.kitOne K (.ref D) (.ref C_NoUp) = some b_NoUp) (h_NoKey : PySem.W.kitOne K (.ref D) (.ref C_NoKey) = some b_NoKey) (cdv : Value) (A : Around) (outer : List PySem.Env) (s : Shared) (H : Hp) (E : XK) (p : Addr × Obj) (hz : Zc (.ref D) none p.2) (hf : ∃ vs, p.2.data = .fields vs) :
    PSs (cxE P w K mg base N__law_word "_law_word" s__law_word a__law_word cdv A outer s H E p) (defBody s__law_word) (tDS K mg W0 (m__law_word p.1 b_NoDeeper b_NoUp b_NoKey)) := by
  exact (js_cons (js_set (i := 1) sc__law_word.nd rfl (by first | exact Or.inl rfl | exact Or.inr rfl) j_str)
    (js_cons (js_if (jt_tru (j_isE C hz hf (List.mem_cons_self) (by rfl) T.z_isinstance rfl (by first | exact Or.inl rfl | exact Or.inr (Or.inl rfl) | exact Or.inr (Or.inr rfl)) (pe_glob (v := .ref C_NoDeeper) (by rfl) T.x_NoDeeper.g rfl) (fun _ r => r) h_NoDeeper)) (js_one (js_set (i := 1) sc__law_word.nd rfl (by first | exact Or.inl rfl | exact Or.inr rfl) (j_bin op_addA pok_add (jv 1) j_str))) js_nil)
    (js_cons (js_if (jt_tru (j_isE C hz hf (List.mem_cons_self) (by rfl) T.z_isinstance rfl (by first | exact Or.inl rfl | exact Or.inr (Or.inl rfl) | exact Or.inr (Or.inr rfl)) (pe_glob (v := .ref C_NoUp) (by rfl) T.x_NoUp.g rfl) (fun _ r => r) h_NoUp)) (js_one (js_set (i := 1) sc__law_word.nd rfl (by first | exact Or.inl rfl | exact Or.inr rfl) (j_bin op_addA pok_add (jv 1) j_str))) js_nil)
    (js_one (js_ret (j_if (jt_tru (j_isE C hz hf (List.mem_cons_self) (by rfl) T.z_isinstance rfl (by first | exact Or.inl rfl | exact Or.inr (Or.inl rfl) | exact Or.inr (Or.inr rfl)) (pe_glob (v := .ref C_NoKey) (by rfl) T.x_NoKey.g rfl) (fun _ r => r) h_NoKey)) (j_bin op_addA pok_add (jv 1) j_str) (jv 1)))))))
theorem addW_NoDeeper (S : Store) : addD (.str "") (.str "NoDeeper") S = some (.str "NoDeeper") := by rfl
theorem addW_NoUp (S : Store) : addD (.str "") (.str "NoUp") S = some (.str "NoUp") := by rfl
theorem addW_NoKey (S : Store) : addD (.str "") (.str "NoKey") S = some (.str "NoKey") := by rfl
def resw (C_NoDeeper C_NoUp C_NoKey : Addr) (D : Addr) (r : Str) : Prop := (D = C_NoDeeper ∧ r = "NoDeeper") ∨ (D = C_NoUp ∧ r = "NoUp") ∨ (D = C_NoKey ∧ r = "NoKey")
theorem okw (T : Tx K mg a__law_draw a__law_drawn_rows a__law_pick a_Looker___init__ a__law_same a_Looker_at_end a_Looker_depth a_Looker_place a_Looker_looks a_first_at a_Looker_behind a_Looker_key a_Looker_opened a__law_word a_Looker_up a_Looker_go_to a_Looker_further a_Looker_reach a__law_acted a__law_trie a__law_moved a_law C_Looker C_NoDeeper C_NoUp C_NoKey C_RowError d__law_draw d__law_drawn_rows d__law_pick d_Looker___init__ d__law_same d_Looker_at_end d_Looker_depth d_Looker_place d_Looker_looks d_first_at d_Looker_behind d_Looker_key d_Looker_opened d__law_word d_Looker_up d_Looker_go_to d_Looker_further d_Looker_reach d__law_acted d__law_trie d__law_moved d_law) : FnE P w K mg base 1 a__law_word d__law_word "e" (resw C_NoDeeper C_NoUp C_NoKey) := by
  refine fnE (k := 0) (N := N__law_word) T.F__law_word sc__law_word fun D r hD => ?_
  rcases hD with ⟨rfl, rfl⟩ | ⟨rfl, rfl⟩ | ⟨rfl, rfl⟩
  · exact ⟨fun a => m__law_word a true false false, fun a S => by simp [m__law_word, finK, frame, addW_NoDeeper]; try decide, fun cdv A outer s H E p hz hf => psw T T.c_NoDeeper T.k_NoDeeper_NoDeeper T.k_NoDeeper_NoUp T.k_NoDeeper_NoKey cdv A outer s H E p hz hf⟩
  · exact ⟨fun a => m__law_word a false true false, fun a S => by simp [m__law_word, finK, frame, addW_NoUp]; try decide, fun cdv A outer s H E p hz hf => psw T T.c_NoUp T.k_NoUp_NoDeeper T.k_NoUp_NoUp T.k_NoUp_NoKey cdv A outer s H E p hz hf⟩
  · exact ⟨fun a => m__law_word a false false true, fun a S => by simp [m__law_word, finK, frame, addW_NoKey]; try decide, fun cdv A outer s H E p hz hf => psw T T.c_NoKey T.k_NoKey_NoDeeper T.k_NoKey_NoUp T.k_NoKey_NoKey cdv A outer s H E p hz hf⟩
theorem hW (T : Tx K mg a__law_draw a__law_drawn_rows a__law_pick a_Looker___init__ a__law_same a_Looker_at_end a_Looker_depth a_Looker_place a_Looker_looks a_first_at a_Looker_behind a_Looker_key a_Looker_opened a__law_word a_Looker_up a_Looker_go_to a_Looker_further a_Looker_reach a__law_acted a__law_trie a__law_moved a_law C_Looker C_NoDeeper C_NoUp C_NoKey C_RowError d__law_draw d__law_drawn_rows d__law_pick d_Looker___init__ d__law_same d_Looker_at_end d_Looker_depth d_Looker_place d_Looker_looks d_first_at d_Looker_behind d_Looker_key d_Looker_opened d__law_word d_Looker_up d_Looker_go_to d_Looker_further d_Looker_reach d__law_acted d__law_trie d__law_moved d_law) : ∀ m t, W_word m = some t → ∃ D, mg m = some (.ref D) ∧ resw C_NoDeeper C_NoUp C_NoKey D t ∧ PySem.W.exmOne K (.ref D) (.ref C_RowError) = some true := by
  intro m t h
  unfold W_word at h
  split at h
  · rename_i e
    subst e
    cases h
    exact ⟨C_NoDeeper, T.x_NoDeeper.g, .inl ⟨rfl, rfl⟩, T.w_NoDeeper_RowError⟩
  split at h
  · rename_i e
    subst e
    cases h
    exact ⟨C_NoUp, T.x_NoUp.g, .inr (.inl ⟨rfl, rfl⟩), T.w_NoUp_RowError⟩
  split at h
  · rename_i e
    subst e
    cases h
    exact ⟨C_NoKey, T.x_NoKey.g, .inr (.inr (⟨rfl, rfl⟩)), T.w_NoKey_RowError⟩
  cases h
theorem ok_Looker_up (T : Tx K mg a__law_draw a__law_drawn_rows a__law_pick a_Looker___init__ a__law_same a_Looker_at_end a_Looker_depth a_Looker_place a_Looker_looks a_first_at a_Looker_behind a_Looker_key a_Looker_opened a__law_word a_Looker_up a_Looker_go_to a_Looker_further a_Looker_reach a__law_acted a__law_trie a__law_moved a_law C_Looker C_NoDeeper C_NoUp C_NoKey C_RowError d__law_draw d__law_drawn_rows d__law_pick d_Looker___init__ d__law_same d_Looker_at_end d_Looker_depth d_Looker_place d_Looker_looks d_first_at d_Looker_behind d_Looker_key d_Looker_opened d__law_word d_Looker_up d_Looker_go_to d_Looker_further d_Looker_reach d__law_acted d__law_trie d__law_moved d_law) (fu : Nat) : FnOk P w K mg base (L2.CX P w) 1 a_Looker_up d_Looker_up P_Looker_up (spD K mg 1 (F_Looker_up fu)) := by
  refine fnT (N := N_Looker_up) (b := m_Looker_up fu) T.F_Looker_up sc_Looker_up fun cdv A outer s H E hr => ?_
  have tk : Takes (cxOf (L2.CX P w) P w K mg base N_Looker_up "Looker.up" (defScope s_Looker_up) a_Looker_up cdv A outer s H E) (fun c d _ H => E c d H) := takes_of rfl rfl rfl rfl
  exact (js_cons (js_if (jt_not (jt_tru (j_fld T.k_Looker T.n_Looker_levels (jv 0)))) (js_one (js_raiseX T.x_NoUp rfl tk (by rfl))) js_nil)
    (js_one (js_drop (j_pop (j_fld T.k_Looker T.n_Looker_levels (jv 0))))))
theorem ok_Looker_go_to (T : Tx K mg a__law_draw a__law_drawn_rows a__law_pick a_Looker___init__ a__law_same a_Looker_at_end a_Looker_depth a_Looker_place a_Looker_looks a_first_at a_Looker_behind a_Looker_key a_Looker_opened a__law_word a_Looker_up a_Looker_go_to a_Looker_further a_Looker_reach a__law_acted a__law_trie a__law_moved a_law C_Looker C_NoDeeper C_NoUp C_NoKey C_RowError d__law_draw d__law_drawn_rows d__law_pick d_Looker___init__ d__law_same d_Looker_at_end d_Looker_depth d_Looker_place d_Looker_looks d_first_at d_Looker_behind d_Looker_key d_Looker_opened d__law_word d_Looker_up d_Looker_go_to d_Looker_further d_Looker_reach d__law_acted d__law_trie d__law_moved d_law) (fu : Nat) : FnOk P w K mg base (L2.CX P w) 1 a_Looker_go_to d_Looker_go_to P_Looker_go_to (spD K mg 2 (F_Looker_go_to fu)) := by
  refine fnT (N := N_Looker_go_to) (b := m_Looker_go_to fu) T.F_Looker_go_to sc_Looker_go_to fun cdv A outer s H E hr => ?_
  have tk : Takes (cxOf (L2.CX P w) P w K mg base N_Looker_go_to "Looker.go_to" (defScope s_Looker_go_to) a_Looker_go_to cdv A outer s H E) (fun c d _ H => E c d H) := takes_of rfl rfl rfl rfl
  exact (js_cons (js_asg (j_ix ix_seq pok_ix (fun _ _ => rfl) (j_fld T.k_Looker T.n_Looker_levels (jv 0)) (j_un un_neg pok_neg j_int)) (jg_tup rfl (jgs_cons (jg_name (i := 2) sc_Looker_go_to.nd rfl (by first | exact Or.inl rfl | exact Or.inr rfl)) (jgs_cons (jg_name (i := 3) sc_Looker_go_to.nd rfl (by first | exact Or.inl rfl | exact Or.inr rfl)) (jgs_cons (jg_name (i := 4) sc_Looker_go_to.nd rfl (by first | exact Or.inl rfl | exact Or.inr rfl)) jgs_nil)))))
    (js_cons (js_setIx (j_tup (ja_cons (jv 2) (ja_cons (jv 3) (ja_cons (jv 1) ja_nil)))) (j_fld T.k_Looker T.n_Looker_levels (jv 0)) (j_un un_neg pok_neg j_int))
    (js_one (js_fldAug T.k_Looker T.n_Looker_many in_add (jv 0) j_int))))
theorem ok_Looker_further (T : Tx K mg a__law_draw a__law_drawn_rows a__law_pick a_Looker___init__ a__law_same a_Looker_at_end a_Looker_depth a_Looker_place a_Looker_looks a_first_at a_Looker_behind a_Looker_key a_Looker_opened a__law_word a_Looker_up a_Looker_go_to a_Looker_further a_Looker_reach a__law_acted a__law_trie a__law_moved a_law C_Looker C_NoDeeper C_NoUp C_NoKey C_RowError d__law_draw d__law_drawn_rows d__law_pick d_Looker___init__ d__law_same d_Looker_at_end d_Looker_depth d_Looker_place d_Looker_looks d_first_at d_Looker_behind d_Looker_key d_Looker_opened d__law_word d_Looker_up d_Looker_go_to d_Looker_further d_Looker_reach d__law_acted d__law_trie d__law_moved d_law) (fu : Nat) : FnOk P w K mg base (L2.CX P w) 3 a_Looker_further d_Looker_further P_Looker_further (spD K mg 1 (F_Looker_further fu)) := by
  refine fnT (N := N_Looker_further) (b := m_Looker_further fu) T.F_Looker_further sc_Looker_further fun cdv A outer s H E hr => ?_
  have tk : Takes (cxOf (L2.CX P w) P w K mg base N_Looker_further "Looker.further" (defScope s_Looker_further) a_Looker_further cdv A outer s H E) (fun c d _ H => E c d H) := takes_of rfl rfl rfl rfl
  exact (js_one (js_drop (j_meth T.k_Looker T.h_Looker_go_to (ok_Looker_go_to T fu) (hr.mono (by decide)) T.b_Looker_go_to tk (jv 0) (ja_cons (j_meth T.k_Looker T.h_Looker_behind (ok_Looker_behind T fu) (hr.mono (by decide)) T.b_Looker_behind tk (jv 0) (ja_cons (j_meth0 T.k_Looker T.h_Looker_key (ok_Looker_key T fu) (hr.mono (by decide)) T.b_Looker_key tk (jv 0)) ja_nil)) ja_nil))))
theorem ok_Looker_reach (T : Tx K mg a__law_draw a__law_drawn_rows a__law_pick a_Looker___init__ a__law_same a_Looker_at_end a_Looker_depth a_Looker_place a_Looker_looks a_first_at a_Looker_behind a_Looker_key a_Looker_opened a__law_word a_Looker_up a_Looker_go_to a_Looker_further a_Looker_reach a__law_acted a__law_trie a__law_moved a_law C_Looker C_NoDeeper C_NoUp C_NoKey C_RowError d__law_draw d__law_drawn_rows d__law_pick d_Looker___init__ d__law_same d_Looker_at_end d_Looker_depth d_Looker_place d_Looker_looks d_first_at d_Looker_behind d_Looker_key d_Looker_opened d__law_word d_Looker_up d_Looker_go_to d_Looker_further d_Looker_reach d__law_acted d__law_trie d__law_moved d_law) (fu : Nat) : FnOk P w K mg base (L2.CX P w) 3 a_Looker_reach d_Looker_reach P_Looker_reach (spD K mg 2 (F_Looker_reach fu)) := by
  refine fnT (N := N_Looker_reach) (b := m_Looker_reach fu) T.F_Looker_reach sc_Looker_reach fun cdv A outer s H E hr => ?_
  have tk : Takes (cxOf (L2.CX P w) P w K mg base N_Looker_reach "Looker.reach" (defScope s_Looker_reach) a_Looker_reach cdv A outer s H E) (fun c d _ H => E c d H) := takes_of rfl rfl rfl rfl
  exact (js_one (js_if (jt_cmp op_ltA pok_lt (nomark _) (j_meth0 T.k_Looker T.h_Looker_key (ok_Looker_key T fu) (hr.mono (by decide)) T.b_Looker_key tk (jv 0)) (jv 1)) (js_one (js_drop (j_meth T.k_Looker T.h_Looker_go_to (ok_Looker_go_to T fu) (hr.mono (by decide)) T.b_Looker_go_to tk (jv 0) (ja_cons (j_meth T.k_Looker T.h_Looker_behind (ok_Looker_behind T fu) (hr.mono (by decide)) T.b_Looker_behind tk (jv 0) (ja_cons (j_bin op_sub pok_sub (jv 1) j_int) ja_nil)) ja_nil)))) (js_one (js_drop (j_meth T.k_Looker T.h_Looker_go_to (ok_Looker_go_to T fu) (hr.mono (by decide)) T.b_Looker_go_to tk (jv 0) (ja_cons (j_ix ix_seq pok_ix (fun _ _ => rfl) (j_ix ix_seq pok_ix (fun _ _ => rfl) (j_fld T.k_Looker T.n_Looker_levels (jv 0)) (j_un un_neg pok_neg j_int)) j_int) ja_nil))))))
theorem ok__law_acted (T : Tx K mg a__law_draw a__law_drawn_rows a__law_pick a_Looker___init__ a__law_same a_Looker_at_end a_Looker_depth a_Looker_place a_Looker_looks a_first_at a_Looker_behind a_Looker_key a_Looker_opened a__law_word a_Looker_up a_Looker_go_to a_Looker_further a_Looker_reach a__law_acted a__law_trie a__law_moved a_law C_Looker C_NoDeeper C_NoUp C_NoKey C_RowError d__law_draw d__law_drawn_rows d__law_pick d_Looker___init__ d__law_same d_Looker_at_end d_Looker_depth d_Looker_place d_Looker_looks d_first_at d_Looker_behind d_Looker_key d_Looker_opened d__law_word d_Looker_up d_Looker_go_to d_Looker_further d_Looker_reach d__law_acted d__law_trie d__law_moved d_law) (fu : Nat) : FnOk P w K mg base (L2.CX P w) 4 a__law_acted d__law_acted P__law_acted (spD K mg 2 (F__law_acted fu)) := by
  refine fnT (N := N__law_acted) (b := m__law_acted fu) T.F__law_acted sc__law_acted fun cdv A outer s H E hr => ?_
  have tk : Takes (cxOf (L2.CX P w) P w K mg base N__law_acted "_law_acted" (defScope s__law_acted) a__law_acted cdv A outer s H E) (fun c d _ H => E c d H) := takes_of rfl rfl rfl rfl
  exact (js_cons (js_set (i := 2) sc__law_acted.nd rfl (by first | exact Or.inl rfl | exact Or.inr rfl) j_non)
    (js_cons (js_tryW (i := 3) (j := 2) (okw T) (L2H.roomH_of (hr.mono (by decide))) (hW T) rfl rfl sc__law_acted.nd rfl rfl rfl rfl (by first | exact Or.inl rfl | exact Or.inr (Or.inl rfl) | exact Or.inr (Or.inr rfl)) (by rfl) T.gw_RowError tk (by rfl) T.g__law_word T.F__law_word.kp T.b__law_word (fun W pn xe tk => (js_one (js_if (jt_cmp (op_eqA hr.units) pok_eq (nomark _) (j_ix ix_seq pok_ix (fun _ _ => rfl) (jv 1) j_int) j_str) (js_one (js_set (i := 2) sc__law_acted.nd rfl (by first | exact Or.inl rfl | exact Or.inr rfl) (j_meth0 T.k_Looker T.h_Looker_opened (ok_Looker_opened T fu) (hr.mono (by decide)) T.b_Looker_opened tk (jv 0)))) (js_one (js_if (jt_cmp (op_eqA hr.units) pok_eq (nomark _) (j_ix ix_seq pok_ix (fun _ _ => rfl) (jv 1) j_int) j_str) (js_one (js_set (i := 2) sc__law_acted.nd rfl (by first | exact Or.inl rfl | exact Or.inr rfl) (j_meth0 T.k_Looker T.h_Looker_up (ok_Looker_up T fu) (hr.mono (by decide)) T.b_Looker_up tk (jv 0)))) (js_one (js_if (jt_cmp (op_eqA hr.units) pok_eq (nomark _) (j_ix ix_seq pok_ix (fun _ _ => rfl) (jv 1) j_int) j_str) (js_one (js_set (i := 2) sc__law_acted.nd rfl (by first | exact Or.inl rfl | exact Or.inr rfl) (j_meth0 T.k_Looker T.h_Looker_key (ok_Looker_key T fu) (hr.mono (by decide)) T.b_Looker_key tk (jv 0)))) (js_one (js_set (i := 2) sc__law_acted.nd rfl (by first | exact Or.inl rfl | exact Or.inr rfl) (j_if (jt_cmp (op_eqA hr.units) pok_eq (nomark _) (j_ix ix_seq pok_ix (fun _ _ => rfl) (jv 1) j_int) j_str) (j_meth0 T.k_Looker T.h_Looker_further (ok_Looker_further T fu) (hr.mono (by decide)) T.b_Looker_further tk (jv 0)) (j_meth T.k_Looker T.h_Looker_reach (ok_Looker_reach T fu) (hr.mono (by decide)) T.b_Looker_reach tk (jv 0) (ja_cons (j_ix ix_seq pok_ix (fun _ _ => rfl) (jv 1) j_int) ja_nil)))))))))))))
    (js_one (js_ret (jv 2)))))
theorem ok__law_trie (T : Tx K mg a__law_draw a__law_drawn_rows a__law_pick a_Looker___init__ a__law_same a_Looker_at_end a_Looker_depth a_Looker_place a_Looker_looks a_first_at a_Looker_behind a_Looker_key a_Looker_opened a__law_word a_Looker_up a_Looker_go_to a_Looker_further a_Looker_reach a__law_acted a__law_trie a__law_moved a_law C_Looker C_NoDeeper C_NoUp C_NoKey C_RowError d__law_draw d__law_drawn_rows d__law_pick d_Looker___init__ d__law_same d_Looker_at_end d_Looker_depth d_Looker_place d_Looker_looks d_first_at d_Looker_behind d_Looker_key d_Looker_opened d__law_word d_Looker_up d_Looker_go_to d_Looker_further d_Looker_reach d__law_acted d__law_trie d__law_moved d_law) (fu : Nat) : FnOk P w K mg base (L2.CX P w) 1 a__law_trie d__law_trie P__law_trie (spD K mg 2 (F__law_trie fu)) := by
  refine fnT (N := N__law_trie) (b := m__law_trie fu) T.F__law_trie sc__law_trie fun cdv A outer s H E hr => ?_
  have tk : Takes (cxOf (L2.CX P w) P w K mg base N__law_trie "_law_trie" (defScope s__law_trie) a__law_trie cdv A outer s H E) (fun c d _ H => E c d H) := takes_of rfl rfl rfl rfl
  exact (js_one (js_ret (j_callBT (cr_sortedSet rfl) (cr_setI rfl) pok_sortSet (by rfl) T.z_sorted (by decide +kernel) (by rfl) T.z_set (by decide +kernel) (ja_cons (j_lc (own := [("row", 2)]) (sl := [2]) (by decide) rfl sc__law_trie.nd (ji_seq (jv 0)) (blkOk_by (own := [("row", 2)]) (N := N__law_trie) (sc := defScope s__law_trie) (by decide +kernel)) (fun _ _ _ _ _ => (jg_name (i := 2) sc__law_trie.nd rfl (by first | exact Or.inl rfl | exact Or.inr rfl))) (fun _ _ _ _ _ => (jts_one (jt_cmp (op_eqA hr.units) pok_eq (nomark _) (j_slice (jv 2) jo_none (jo_some (j_callB call_len pok_len (by rfl) T.z_len (by decide +kernel) (ja_cons (jv 1) ja_nil)))) (jv 1)))) (fun _ _ _ _ _ => (j_ix ix_seq pok_ix (fun _ _ => rfl) (jv 2) (j_callB call_len pok_len (by rfl) T.z_len (by decide +kernel) (ja_cons (jv 1) ja_nil))))) ja_nil))))
theorem ok__law_moved (T : Tx K mg a__law_draw a__law_drawn_rows a__law_pick a_Looker___init__ a__law_same a_Looker_at_end a_Looker_depth a_Looker_place a_Looker_looks a_first_at a_Looker_behind a_Looker_key a_Looker_opened a__law_word a_Looker_up a_Looker_go_to a_Looker_further a_Looker_reach a__law_acted a__law_trie a__law_moved a_law C_Looker C_NoDeeper C_NoUp C_NoKey C_RowError d__law_draw d__law_drawn_rows d__law_pick d_Looker___init__ d__law_same d_Looker_at_end d_Looker_depth d_Looker_place d_Looker_looks d_first_at d_Looker_behind d_Looker_key d_Looker_opened d__law_word d_Looker_up d_Looker_go_to d_Looker_further d_Looker_reach d__law_acted d__law_trie d__law_moved d_law) (fu : Nat) : FnOk P w K mg base (L2.CX P w) 2 a__law_moved d__law_moved P__law_moved (spD K mg 3 (F__law_moved fu)) := by
  refine fnT (N := N__law_moved) (b := m__law_moved fu) T.F__law_moved sc__law_moved fun cdv A outer s H E hr => ?_
  have tk : Takes (cxOf (L2.CX P w) P w K mg base N__law_moved "_law_moved" (defScope s__law_moved) a__law_moved cdv A outer s H E) (fun c d _ H => E c d H) := takes_of rfl rfl rfl rfl
  exact (js_cons (js_par (i := 5) (j := 6) rfl sc__law_moved.nd rfl rfl (by decide) rfl rfl (ja_cons (j_dget (Nat.lt_of_succ_lt (room65 hr)) (fun _ _ => rfl) (jv 1) j_str) (ja_cons (j_dget (Nat.lt_of_succ_lt (room65 hr)) (fun _ _ => rfl) (jv 1) j_str) ja_nil)) (by rfl))
    (js_cons (js_if (jt_cmp (op_eqA hr.units) pok_eq (nomark _) (j_ix ix_seq pok_ix (fun _ _ => rfl) (jv 2) j_int) j_str) (js_cons (js_set (i := 4) sc__law_moved.nd rfl (by first | exact Or.inl rfl | exact Or.inr rfl) (j_if (jw_pt (jw_and (jt_tru (jv 0)) (jw_and (jt_not (jt_tru (jv 6))) (jw_and1 (jt_cmp op_ltA pok_lt (nomark _) (j_callB call_len pok_len (by rfl) T.z_len (by decide +kernel) (ja_cons (jv 5) ja_nil)) (j_callB call_len pok_len (by rfl) T.z_len (by decide +kernel) (ja_cons (j_ix ix_seq pok_ix (fun _ _ => rfl) (jv 0) j_int) ja_nil))))))) (j_call (ok__law_trie T fu) (hr.mono (by decide)) (by rfl) T.g__law_trie T.F__law_trie.kp T.b__law_trie tk (ja_cons (jv 0) (ja_cons (jv 5) ja_nil))) (j_lst ja_nil)))
    (js_cons (js_if (jt_not (jt_tru (jv 4))) (js_one (js_ret j_str)) js_nil)
    (js_cons (js_dput (Nat.lt_of_succ_lt (room65 hr)) (j_bin op_addA pok_add (jv 5) (j_tup (ja_cons (j_ix ix_seq pok_ix (fun _ _ => rfl) (jv 4) j_int) ja_nil))) (jv 1) j_str)
    (js_one (js_ret j_non))))) js_nil)
    (js_cons (js_if (jt_cmp (op_eqA hr.units) pok_eq (nomark _) (j_ix ix_seq pok_ix (fun _ _ => rfl) (jv 2) j_int) j_str) (js_cons (js_if (jw_pt (jw_and (jt_not (jt_tru (jv 5))) (jw_and1 (jt_not (jt_tru (jv 6)))))) (js_one (js_ret j_str)) js_nil)
    (js_cons (js_drop (j_upd (jv 1) (j_disp (jp_cons (j_if (jt_tru (jv 6)) (jv 5) (j_slice (jv 5) jo_none (jo_some (j_un un_neg pok_neg j_int)))) (jp_cons j_bl jp_nil))) ⟨rfl, rfl, rfl, rfl⟩))
    (js_one (js_ret j_non)))) js_nil)
    (js_cons (js_if (jw_pt (jw_or (jt_not (jt_tru (jv 5))) (jw_or1 (jt_tru (jv 6))))) (js_one (js_ret j_str)) js_nil)
    (js_cons (js_if (jt_cmp (op_eqA hr.units) pok_eq (nomark _) (j_ix ix_seq pok_ix (fun _ _ => rfl) (jv 2) j_int) j_str) (js_one (js_ret (j_ix ix_seq pok_ix (fun _ _ => rfl) (jv 5) (j_un un_neg pok_neg j_int)))) js_nil)
    (js_cons (js_set (i := 3) sc__law_moved.nd rfl (by first | exact Or.inl rfl | exact Or.inr rfl) (j_if (jt_cmp (op_eqA hr.units) pok_eq (nomark _) (j_ix ix_seq pok_ix (fun _ _ => rfl) (jv 2) j_int) j_str) (j_bin op_addA pok_add (j_ix ix_seq pok_ix (fun _ _ => rfl) (jv 5) (j_un un_neg pok_neg j_int)) j_int) (j_callB (call_max2 rfl) pok_max2 (by rfl) T.z_max (by decide +kernel) (ja_cons (j_ix ix_seq pok_ix (fun _ _ => rfl) (jv 5) (j_un un_neg pok_neg j_int)) (ja_cons (j_ix ix_seq pok_ix (fun _ _ => rfl) (jv 2) j_int) ja_nil)))))
    (js_cons (js_setLc (i := 4) (own := [("value", 7)]) (sl := [7]) (by decide) rfl sc__law_moved.nd rfl rfl (sw_true rfl rfl rfl (by decide +kernel)) (ji_seq (j_call (ok__law_trie T fu) (hr.mono (by decide)) (by rfl) T.g__law_trie T.F__law_trie.kp T.b__law_trie tk (ja_cons (jv 0) (ja_cons (j_slice (jv 5) jo_none (jo_some (j_un un_neg pok_neg j_int))) ja_nil)))) (blkOk_by (own := [("value", 7)]) (N := N__law_moved) (sc := defScope s__law_moved) (by decide +kernel)) (fun _ _ _ _ _ => (jg_name (i := 7) sc__law_moved.nd rfl (by first | exact Or.inl rfl | exact Or.inr rfl))) (fun _ _ _ _ _ => (jts_one (jt_cmp op_ge pok_ge (nomark _) (jv 7) (jv 3)))) (fun _ _ _ _ _ => (jv 7)))
    (js_cons (js_dput (Nat.lt_of_succ_lt (room65 hr)) (j_bin op_addA pok_add (j_dget (Nat.lt_of_succ_lt (room65 hr)) (fun _ _ => rfl) (jv 1) j_str) j_int) (jv 1) j_str)
    (js_cons (js_drop (j_upd (jv 1) (j_disp (jp_cons (j_if (jt_tru (jv 4)) (j_bin op_addA pok_add (j_slice (jv 5) jo_none (jo_some (j_un un_neg pok_neg j_int))) (j_tup (ja_cons (j_ix ix_seq pok_ix (fun _ _ => rfl) (jv 4) j_int) ja_nil))) (j_slice (jv 5) jo_none (jo_some (j_un un_neg pok_neg j_int)))) (jp_cons (j_cmp (op_eqA hr.units) pok_eq (nomark _) (jv 4) (j_lst ja_nil)) jp_nil))) ⟨rfl, rfl, rfl, rfl⟩))
    (js_one (js_ret j_non)))))))))))
theorem ok_law (T : Tx K mg a__law_draw a__law_drawn_rows a__law_pick a_Looker___init__ a__law_same a_Looker_at_end a_Looker_depth a_Looker_place a_Looker_looks a_first_at a_Looker_behind a_Looker_key a_Looker_opened a__law_word a_Looker_up a_Looker_go_to a_Looker_further a_Looker_reach a__law_acted a__law_trie a__law_moved a_law C_Looker C_NoDeeper C_NoUp C_NoKey C_RowError d__law_draw d__law_drawn_rows d__law_pick d_Looker___init__ d__law_same d_Looker_at_end d_Looker_depth d_Looker_place d_Looker_looks d_first_at d_Looker_behind d_Looker_key d_Looker_opened d__law_word d_Looker_up d_Looker_go_to d_Looker_further d_Looker_reach d__law_acted d__law_trie d__law_moved d_law) (fu : Nat) : FnOk P w K mg base (L2.CX P w) 6 a_law d_law P_law (spD K mg 1 (F_law fu)) := by
  refine fnT (N := N_law) (b := m_law fu) T.F_law sc_law fun cdv A outer s H E hr => ?_
  have tk : Takes (cxOf (L2.CX P w) P w K mg base N_law "law" (defScope s_law) a_law cdv A outer s H E) (fun c d _ H => E c d H) := takes_of rfl rfl rfl rfl
  exact (js_cons (js_set (i := 1) sc_law.nd rfl (by first | exact Or.inl rfl | exact Or.inr rfl) (j_newL ja_nil))
    (js_cons (js_for (passes_of rfl) rfl (ji_rng1 (by rfl) T.z_range (ja_cons j_int ja_nil)) (jg_name (i := 2) sc_law.nd rfl (by first | exact Or.inl rfl | exact Or.inr rfl)) (js_cons (js_set (i := 3) sc_law.nd rfl (by first | exact Or.inl rfl | exact Or.inr rfl) (j_bin op_addA pok_add j_int (j_call (ok__law_draw T fu) (hr.mono (by decide)) (by rfl) T.g__law_draw T.F__law_draw.kp T.b__law_draw tk (ja_cons (jv 0) (ja_cons (jv 1) (ja_cons j_int ja_nil))))))
    (js_cons (js_set (i := 4) sc_law.nd rfl (by first | exact Or.inl rfl | exact Or.inr rfl) (j_call (ok__law_drawn_rows T fu) (hr.mono (by decide)) (by rfl) T.g__law_drawn_rows T.F__law_drawn_rows.kp T.b__law_drawn_rows tk (ja_cons (jv 0) (ja_cons (jv 1) (ja_cons (jv 3) (ja_cons (j_call (ok__law_pick T fu) (hr.mono (by decide)) (by rfl) T.g__law_pick T.F__law_pick.kp T.b__law_pick tk (ja_cons (jv 0) (ja_cons (jv 1) (ja_cons (j_lst (ja_cons j_int (ja_cons j_int (ja_cons j_int ja_nil)))) ja_nil)))) (ja_cons j_int ja_nil)))))))
    (js_cons (js_par (i := 6) (j := 7) rfl sc_law.nd rfl rfl (by decide) rfl rfl (ja_cons (j_make T.k_Looker T.m_Looker (ok_Looker___init__ T fu) (hr.mono (by decide)) (by rfl) T.b_Looker___init__ (ja_cons (jv 4) ja_nil)) (ja_cons (j_disp (jp_cons (j_tup ja_nil) (jp_cons j_bl (jp_cons j_int jp_nil)))) ja_nil)) (by rfl))
    (js_one (js_for (passes_of rfl) rfl (ji_rng1 (by rfl) T.z_range (ja_cons j_int ja_nil)) (jg_name (i := 5) sc_law.nd rfl (by first | exact Or.inl rfl | exact Or.inr rfl)) (js_cons (js_set (i := 8) sc_law.nd rfl (by first | exact Or.inl rfl | exact Or.inr rfl) (j_lst (ja_cons j_str (ja_cons j_str (ja_cons j_str (ja_cons j_str (ja_cons j_str (ja_cons j_str (ja_cons j_str (ja_cons j_str (ja_cons j_str ja_nil)))))))))))
    (js_cons (js_set (i := 9) sc_law.nd rfl (by first | exact Or.inl rfl | exact Or.inr rfl) (j_call (ok__law_pick T fu) (hr.mono (by decide)) (by rfl) T.g__law_pick T.F__law_pick.kp T.b__law_pick tk (ja_cons (jv 0) (ja_cons (jv 1) (ja_cons (jv 8) ja_nil)))))
    (js_cons (js_set (i := 10) sc_law.nd rfl (by first | exact Or.inl rfl | exact Or.inr rfl) (j_tup (ja_cons (jv 9) (ja_cons (j_bin op_sub pok_sub (j_call (ok__law_draw T fu) (hr.mono (by decide)) (by rfl) T.g__law_draw T.F__law_draw.kp T.b__law_draw tk (ja_cons (jv 0) (ja_cons (jv 1) (ja_cons j_int ja_nil)))) j_int) ja_nil))))
    (js_cons (js_if (jt_not (jt_tru (j_call (ok__law_same T fu 4) (hr.mono (by decide)) (by rfl) T.g__law_same T.F__law_same.kp T.b__law_same tk (ja_cons (j_call (ok__law_acted T fu) (hr.mono (by decide)) (by rfl) T.g__law_acted T.F__law_acted.kp T.b__law_acted tk (ja_cons (jv 6) (ja_cons (jv 10) ja_nil))) (ja_cons (j_call (ok__law_moved T fu) (hr.mono (by decide)) (by rfl) T.g__law_moved T.F__law_moved.kp T.b__law_moved tk (ja_cons (jv 4) (ja_cons (jv 7) (ja_cons (jv 10) ja_nil)))) ja_nil))))) (js_one (js_ret j_bl)) js_nil)
    (js_cons (js_set (i := 11) sc_law.nd rfl (by first | exact Or.inl rfl | exact Or.inr rfl) (j_bin op_addA pok_add (j_callB call_len pok_len (by rfl) T.z_len (by decide +kernel) (ja_cons (j_dget (Nat.lt_of_succ_lt (room65 hr)) (fun _ _ => rfl) (jv 7) j_str) ja_nil)) (j_callT call_int1 pok_int (by rfl) T.z_int (by decide +kernel) (ja_cons (j_dget (Nat.lt_of_succ_lt (room65 hr)) (fun _ _ => rfl) (jv 7) j_str) ja_nil))))
    (js_cons (js_set (i := 12) sc_law.nd rfl (by first | exact Or.inl rfl | exact Or.inr rfl) (j_tup (ja_cons (j_meth0 T.k_Looker T.h_Looker_at_end (ok_Looker_at_end T fu) (hr.mono (by decide)) T.b_Looker_at_end tk (jv 6)) (ja_cons (j_meth0 T.k_Looker T.h_Looker_depth (ok_Looker_depth T fu) (hr.mono (by decide)) T.b_Looker_depth tk (jv 6)) (ja_cons (j_meth0 T.k_Looker T.h_Looker_place (ok_Looker_place T fu) (hr.mono (by decide)) T.b_Looker_place tk (jv 6)) (ja_cons (j_meth0 T.k_Looker T.h_Looker_looks (ok_Looker_looks T fu) (hr.mono (by decide)) T.b_Looker_looks tk (jv 6)) ja_nil))))))
    (js_one (js_if (jt_not (jt_tru (j_call (ok__law_same T fu 4) (hr.mono (by decide)) (by rfl) T.g__law_same T.F__law_same.kp T.b__law_same tk (ja_cons (jv 12) (ja_cons (j_tup (ja_cons (j_dget (Nat.lt_of_succ_lt (room65 hr)) (fun _ _ => rfl) (jv 7) j_str) (ja_cons (jv 11) (ja_cons (j_dget (Nat.lt_of_succ_lt (room65 hr)) (fun _ _ => rfl) (jv 7) j_str) (ja_cons (j_dget (Nat.lt_of_succ_lt (room65 hr)) (fun _ _ => rfl) (jv 7) j_str) ja_nil))))) ja_nil))))) (js_one (js_ret j_bl)) js_nil))))))))))))))
    (js_one (js_ret j_bl))))
end
end Law
namespace Law
open PySem L2 Dv
theorem fsame_eq (fu : Nat) : ∀ n, F__law_same fu n = FSame n
  | 0 => rfl
  | n + 1 => by
    show runT 4 (m__law_same fu (F__law_same fu n)) = runT 4 (mSame (FSame n))
    rw [fsame_eq fu n]
    rfl
theorem acted_eq (fu : Nat) : m__law_acted fu = (sSeq (sSet 2 (mC .non))
    (sSeq (sTryW 3 2 W_word (sIf (mT (mBin eqD (mBin ixD (mVar 1) (mC (.int 0))) (mC (.str "opened")))) (sSet 2 (mMeth "Looker" "opened" 1 (FOpened (sRaise "NoKey") (sRaise "NoDeeper") fu) (mVar 0) mNil)) (sIf (mT (mBin eqD (mBin ixD (mVar 1) (mC (.int 0))) (mC (.str "up")))) (sSet 2 (mMeth "Looker" "up" 1 (FUp (sRaise "NoUp")) (mVar 0) mNil)) (sIf (mT (mBin eqD (mBin ixD (mVar 1) (mC (.int 0))) (mC (.str "key")))) (sSet 2 (mMeth "Looker" "key" 1 (FKey (sRaise "NoKey")) (mVar 0) mNil)) (sSet 2 (mIf (mT (mBin eqD (mBin ixD (mVar 1) (mC (.int 0))) (mC (.str "further")))) (mMeth "Looker" "further" 1 (FFurther (sRaise "NoKey") fu) (mVar 0) mNil) (mMeth "Looker" "reach" 2 (FReach (sRaise "NoKey") fu) (mVar 0) (mCons (mBin ixD (mVar 1) (mC (.int 1))) mNil))))))))
    (sRet (mVar 2)))) := rfl
def deedD (word : Str) (z : Int) : D := .tup [.str word, .int z]
def wordsL : List Str := ["opened", "opened", "opened", "up", "key", "further", "further", "reach", "reach"]
noncomputable def mth (fu : Nat) (word : Str) (z : Int) (l : Nat) (S : Store) : R D :=
  if word = "opened" then FOpened (sRaise "NoKey") (sRaise "NoDeeper") fu [.loc l] S else if word = "up" then FUp (sRaise "NoUp") [.loc l] S else if word = "key" then FKey (sRaise "NoKey") [.loc l] S
  else if word = "further" then FFurther (sRaise "NoKey") fu [.loc l] S else FReach (sRaise "NoKey") fu [.loc l, .int z] S
theorem n_uo : ¬ (Str.ofString "up" = Str.ofString "opened") := by decide
theorem n_ko : ¬ (Str.ofString "key" = Str.ofString "opened") := by decide
theorem n_fo : ¬ (Str.ofString "further" = Str.ofString "opened") := by decide
theorem n_ro : ¬ (Str.ofString "reach" = Str.ofString "opened") := by decide
theorem n_ku : ¬ (Str.ofString "key" = Str.ofString "up") := by decide
theorem n_fu : ¬ (Str.ofString "further" = Str.ofString "up") := by decide
theorem n_ru : ¬ (Str.ofString "reach" = Str.ofString "up") := by decide
theorem n_fk : ¬ (Str.ofString "further" = Str.ofString "key") := by decide
theorem n_rk : ¬ (Str.ofString "reach" = Str.ofString "key") := by decide
theorem n_rf : ¬ (Str.ofString "reach" = Str.ofString "further") := by decide
theorem eqS (a b : Str) (S : Store) : eqD (.str a) (.str b) S = some (.bl (decide (a = b))) := rfl
section
variable {S : Store} {l v s fu : Nat} {rows : List (List Int)} {lv lv' : List (Nat × Nat × Nat)} {m m' z : Int} {w : Nat} {word : Str}
theorem acted_body {x : R D} (h : Lk S l v rows lv m) (hw : word ∈ wordsL) (hm : mth fu word z l S = x) :
    ∃ rho, m__law_acted fu (frame 4 [.loc l, deedD word z]) S = (match x with
      | .ok d S1 => .ok (.ret d) rho S1
      | .exc n S1 => (match W_word n with
        | some t => .ok (.ret (.str t)) rho S1
        | none => .bad)
      | .bad => .bad) := by
  rw [show frame 4 [.loc l, deedD word z] = [some (.loc l), some (deedD word z), none, none] from rfl, acted_eq]
  have a0 : ∀ S, ixD (deedD word z) (.int 0) S = some (.str word) := fun S => rfl
  have a1 : ∀ S, ixD (deedD word z) (.int 1) S = some (.int z) := fun S => rfl
  unfold mth at hm
  simp only [wordsL, List.mem_cons, List.not_mem_nil, or_false] at hw
  rcases hw with rfl | rfl | rfl | rfl | rfl | rfl | rfl | rfl | rfl
  · rw [if_pos rfl] at hm
    cases x with
    | bad => exact ⟨[], by simp [a0, a1, h.o, eqS, mth_opened, hm]⟩
    | ok d S1 => exact ⟨_, by simp [a0, a1, h.o, eqS, mth_opened, hm]; rfl⟩
    | exc n S1 =>
      cases q : W_word n with
      | none => exact ⟨[], by simp [a0, a1, h.o, eqS, mth_opened, hm, q]⟩
      | some t => exact ⟨_, by simp [a0, a1, h.o, eqS, mth_opened, hm, q]; rfl⟩
  · rw [if_pos rfl] at hm
    cases x with
    | bad => exact ⟨[], by simp [a0, a1, h.o, eqS, mth_opened, hm]⟩
    | ok d S1 => exact ⟨_, by simp [a0, a1, h.o, eqS, mth_opened, hm]; rfl⟩
    | exc n S1 =>
      cases q : W_word n with
      | none => exact ⟨[], by simp [a0, a1, h.o, eqS, mth_opened, hm, q]⟩
      | some t => exact ⟨_, by simp [a0, a1, h.o, eqS, mth_opened, hm, q]; rfl⟩
  · rw [if_pos rfl] at hm
    cases x with
    | bad => exact ⟨[], by simp [a0, a1, h.o, eqS, mth_opened, hm]⟩
    | ok d S1 => exact ⟨_, by simp [a0, a1, h.o, eqS, mth_opened, hm]; rfl⟩
    | exc n S1 =>
      cases q : W_word n with
      | none => exact ⟨[], by simp [a0, a1, h.o, eqS, mth_opened, hm, q]⟩
      | some t => exact ⟨_, by simp [a0, a1, h.o, eqS, mth_opened, hm, q]; rfl⟩
  · rw [if_neg n_uo, if_pos rfl] at hm
    cases x with
    | bad => exact ⟨[], by simp [a0, a1, h.o, eqS, mth_up, n_uo, hm]⟩
    | ok d S1 => exact ⟨_, by simp [a0, a1, h.o, eqS, mth_up, n_uo, hm]; rfl⟩
    | exc n S1 =>
      cases q : W_word n with
      | none => exact ⟨[], by simp [a0, a1, h.o, eqS, mth_up, n_uo, hm, q]⟩
      | some t => exact ⟨_, by simp [a0, a1, h.o, eqS, mth_up, n_uo, hm, q]; rfl⟩
  · rw [if_neg n_ko, if_neg n_ku, if_pos rfl] at hm
    cases x with
    | bad => exact ⟨[], by simp [a0, a1, h.o, eqS, mth_key, n_ko, n_ku, hm]⟩
    | ok d S1 => exact ⟨_, by simp [a0, a1, h.o, eqS, mth_key, n_ko, n_ku, hm]; rfl⟩
    | exc n S1 =>
      cases q : W_word n with
      | none => exact ⟨[], by simp [a0, a1, h.o, eqS, mth_key, n_ko, n_ku, hm, q]⟩
      | some t => exact ⟨_, by simp [a0, a1, h.o, eqS, mth_key, n_ko, n_ku, hm, q]; rfl⟩
  · rw [if_neg n_fo, if_neg n_fu, if_neg n_fk, if_pos rfl] at hm
    cases x with
    | bad => exact ⟨[], by simp [a0, a1, h.o, eqS, mth_further, n_fo, n_fu, n_fk, hm]⟩
    | ok d S1 => exact ⟨_, by simp [a0, a1, h.o, eqS, mth_further, n_fo, n_fu, n_fk, hm]; rfl⟩
    | exc n S1 =>
      cases q : W_word n with
      | none => exact ⟨[], by simp [a0, a1, h.o, eqS, mth_further, n_fo, n_fu, n_fk, hm, q]⟩
      | some t => exact ⟨_, by simp [a0, a1, h.o, eqS, mth_further, n_fo, n_fu, n_fk, hm, q]; rfl⟩
  · rw [if_neg n_fo, if_neg n_fu, if_neg n_fk, if_pos rfl] at hm
    cases x with
    | bad => exact ⟨[], by simp [a0, a1, h.o, eqS, mth_further, n_fo, n_fu, n_fk, hm]⟩
    | ok d S1 => exact ⟨_, by simp [a0, a1, h.o, eqS, mth_further, n_fo, n_fu, n_fk, hm]; rfl⟩
    | exc n S1 =>
      cases q : W_word n with
      | none => exact ⟨[], by simp [a0, a1, h.o, eqS, mth_further, n_fo, n_fu, n_fk, hm, q]⟩
      | some t => exact ⟨_, by simp [a0, a1, h.o, eqS, mth_further, n_fo, n_fu, n_fk, hm, q]; rfl⟩
  · rw [if_neg n_ro, if_neg n_ru, if_neg n_rk, if_neg n_rf] at hm
    cases x with
    | bad => exact ⟨[], by simp [a0, a1, h.o, eqS, mth_reach, n_ro, n_ru, n_rk, n_rf, hm]⟩
    | ok d S1 => exact ⟨_, by simp [a0, a1, h.o, eqS, mth_reach, n_ro, n_ru, n_rk, n_rf, hm]; rfl⟩
    | exc n S1 =>
      cases q : W_word n with
      | none => exact ⟨[], by simp [a0, a1, h.o, eqS, mth_reach, n_ro, n_ru, n_rk, n_rf, hm, q]⟩
      | some t => exact ⟨_, by simp [a0, a1, h.o, eqS, mth_reach, n_ro, n_ru, n_rk, n_rf, hm, q]; rfl⟩
  · rw [if_neg n_ro, if_neg n_ru, if_neg n_rk, if_neg n_rf] at hm
    cases x with
    | bad => exact ⟨[], by simp [a0, a1, h.o, eqS, mth_reach, n_ro, n_ru, n_rk, n_rf, hm]⟩
    | ok d S1 => exact ⟨_, by simp [a0, a1, h.o, eqS, mth_reach, n_ro, n_ru, n_rk, n_rf, hm]; rfl⟩
    | exc n S1 =>
      cases q : W_word n with
      | none => exact ⟨[], by simp [a0, a1, h.o, eqS, mth_reach, n_ro, n_ru, n_rk, n_rf, hm, q]⟩
      | some t => exact ⟨_, by simp [a0, a1, h.o, eqS, mth_reach, n_ro, n_ru, n_rk, n_rf, hm, q]; rfl⟩
theorem acted_val {d : D} (h : Lk S l v rows lv m) (hw : word ∈ wordsL) (hm : mth fu word z l S = .ok d (mvS S l v rows lv' m')) (hl : lv'.length ≤ 90000) (hd : d = .non ∨ ∃ y, d = .int y) : F__law_acted fu [.loc l, deedD word z] S = .ok d (mvS S l v rows lv' m') := by
  obtain ⟨rho, eb⟩ := acted_body h hw hm
  show finT S (m__law_acted fu (frame 4 _) S) = _
  rw [eb]
  refine nx_fin h Nx.mv (h.mv lv' m' hl) ?_
  rcases hd with rfl | ⟨y, rfl⟩ <;> rfl
theorem acted_exc {n t : Str} (h : Lk S l v rows lv m) (hw : word ∈ wordsL) (hm : mth fu word z l S = .exc n S) (ht : W_word n = some t) : F__law_acted fu [.loc l, deedD word z] S = .ok (.str t) S := by
  obtain ⟨rho, eb⟩ := acted_body h hw hm
  show finT S (m__law_acted fu (frame 4 _) S) = _
  rw [eb]
  dsimp only
  rw [ht]
  exact fin_ret0 rfl
end
def sdD (path : List Int) (e : Bool) (k : Int) : List (Key × D) := [(.inr "path", rowD path), (.inr "ended", .bl e), (.inr "looks", .int k)]
section
variable {S : Store} {l v s fu : Nat} {rows : List (List Int)} {path : List Int} {e : Bool} {k z : Int} {w : Nat}
theorem sd_path (h : S[s]? = some (.dct (sdD path e k))) : dgetD (.loc s) (.str "path") S = some (rowD path) := by
  unfold dgetD
  rw [dctAt_loc, h]
  rfl
theorem sd_ended (h : S[s]? = some (.dct (sdD path e k))) : dgetD (.loc s) (.str "ended") S = some (.bl e) := by
  unfold dgetD
  rw [dctAt_loc, h]
  rfl
theorem sd_looks (h : S[s]? = some (.dct (sdD path e k))) : dgetD (.loc s) (.str "looks") S = some (.int k) := by
  unfold dgetD
  rw [dctAt_loc, h]
  rfl
theorem sd_putP {r : Dv.Env} (h : S[s]? = some (.dct (sdD path e k))) (p2 : List Int) : dputD (.loc s) (.str "path") (rowD p2) r S = .ok .next r (List.set S s (.dct (sdD p2 e k))) := by
  unfold dputD
  dsimp only
  rw [h]
  rfl
theorem sd_putL {r : Dv.Env} (h : S[s]? = some (.dct (sdD path e k))) (j : Int) : dputD (.loc s) (.str "looks") (.int j) r S = .ok .next r (List.set S s (.dct (sdD path e j))) := by
  unfold dputD
  dsimp only
  rw [h]
  rfl
theorem sd_merge (p2 : List Int) (b : Bool) : mergeKD (sdD path e k) (mergeKD [] [(.inr "path", rowD p2), (.inr "ended", .bl b)]) = sdD p2 b k := rfl
theorem sd_set (h : S[s]? = some (.dct (sdD path e k))) (o : O) : (List.set S s o)[s]? = some o := gs h o
theorem cl_sd (n : Nat) (p2 : List Int) (b : Bool) (j : Int) : cloO n (.dct (sdD p2 b j)) = true := by
  show (clo n (rowD p2) && (true && (true && true))) = true
  rw [show clo n (rowD p2) = cloL n (p2.map D.int) from rfl, cloL_ints]
  rfl
theorem sdtru (xs : List Int) (S : Store) : truD (rowD xs) S = some (!xs.isEmpty) := by
  show some (!(xs.map D.int).isEmpty) = _
  cases xs <;> rfl
theorem len_row (xs : List Int) (S : Store) : lenD [rowD xs] S = some (.int xs.length) := by
  show some (D.int ((xs.map D.int).length : Nat)) = _
  rw [List.length_map]
theorem moved_open_no (h : S[s]? = some (.dct (sdD path e k))) (T : Tab rows w) (hn : rows = [] ∨ e = true ∨ w ≤ path.length) : F__law_moved fu [.tup (rows.map rowD), .loc s, deedD "opened" z] S = .ok (.str "NoDeeper") S := by
  have eb : ∃ rho, m__law_moved fu (frame 8 [.tup (rows.map rowD), .loc s, deedD "opened" z]) S = .ok (.ret (.str "NoDeeper")) rho S := by
    rw [show frame 8 [.tup (rows.map rowD), .loc s, deedD "opened" z] = [some (.tup (rows.map rowD)), some (.loc s), some (deedD "opened" z), none, none, none, none, none] from rfl]
    have a0 : ∀ S, ixD (deedD "opened" z) (.int 0) S = some (.str "opened") := fun S => rfl
    unfold m__law_moved
    cases rows with
    | nil =>
      have t0 : truD (.tup []) S = some false := rfl
      simp [a0, eqS, sd_path h, sd_ended h, t0]
    | cons row rs =>
      have t1 : truD (.tup ((row :: rs).map rowD)) S = some true := rfl
      have a1 : atI ((row :: rs).map rowD) 0 = some (rowD row) := atI_zero _ _
      have hw : row.length = w := T.wd row List.mem_cons_self
      cases e with
      | true => simp [a0, eqS, sd_path h, sd_ended h, t1, -List.map_cons]
      | false =>
        have hp : ¬ ((path.length : Int) < (row.length : Int)) := by
          rcases hn with q | q | q
          · cases q
          · cases q
          · omega
        simp [a0, eqS, sd_path h, sd_ended h, t1, a1, len_row, hp, -List.map_cons]
  obtain ⟨rho, eb⟩ := eb
  show finT S (m__law_moved fu (frame 8 _) S) = _
  rw [eb]
  exact fin_ret0 rfl
theorem moved_open {x : Int} {t : List Int} (h : S[s]? = some (.dct (sdD path false k))) (T : Tab rows w) (hne : rows ≠ []) (hp : path.length < w) (hw : w ≤ 1000) (h64 : rows.length < 64) (ht : trieI rows path = x :: t) :
    F__law_moved fu [.tup (rows.map rowD), .loc s, deedD "opened" z] S = .ok .non (List.set S s (.dct (sdD (path ++ [x]) false k))) := by
  have eb : ∃ rho, m__law_moved fu (frame 8 [.tup (rows.map rowD), .loc s, deedD "opened" z]) S = .ok (.ret .non) rho (List.set S s (.dct (sdD (path ++ [x]) false k))) := by
    rw [show frame 8 [.tup (rows.map rowD), .loc s, deedD "opened" z] = [some (.tup (rows.map rowD)), some (.loc s), some (deedD "opened" z), none, none, none, none, none] from rfl]
    have a0 : ∀ S, ixD (deedD "opened" z) (.int 0) S = some (.str "opened") := fun S => rfl
    unfold m__law_moved
    cases rows with
    | nil => exact absurd rfl hne
    | cons row rs =>
      have t1 : truD (.tup ((row :: rs).map rowD)) S = some true := rfl
      have a1 : atI ((row :: rs).map rowD) 0 = some (rowD row) := atI_zero _ _
      have hw2 : row.length = w := T.wd row List.mem_cons_self
      have hp2 : ((path.length : Int) < (row.length : Int)) := by omega
      have et : F__law_trie fu [.tup ((row :: rs).map rowD), rowD path] S = .ok (.lst ((x :: t).map D.int)) S := by
        have := trie_ok (S := S) (rows := row :: rs) (pl := path) T.wd hp h64
        rw [ht] at this
        exact this
      have ea : ∀ S, addD (rowD path) (.tup [.int x]) S = some (rowD (path ++ [x])) := fun S => by
        show (if _ then _ else _) = _
        rw [if_pos (by rw [List.length_map, List.length_singleton]; omega), rowD, List.map_append]
        rfl
      have l1 : atI ((x :: t).map D.int) 0 = some (.int x) := atI_zero _ _
      simp [a0, eqS, sd_path h, sd_ended h, t1, a1, len_row, hp2, et, ea, l1, sd_putP h, -List.map_cons]
  obtain ⟨rho, eb⟩ := eb
  show finT S (m__law_moved fu (frame 8 _) S) = _
  rw [eb]
  exact fin_ret_set s _ (cl_sd _ _ _ _) rfl
theorem cut_dl {α : Type} (xs : List α) : cutL xs none (some (-1)) = xs.dropLast := by
  rcases List.eq_nil_or_concat xs with rfl | ⟨a, b, rfl⟩
  · rfl
  · rw [List.concat_eq_append, List.dropLast_concat]
    unfold cutL
    rw [HT.sIx_none, List.drop_zero, Nat.sub_zero]
    have : HT.sIx (a ++ [b]).length (a ++ [b]).length (some (-1)) = a.length := by
      simp [HT.sIx]
      try omega
    rw [this]
    simp
theorem sl_dl (xs : List Int) (S : Store) : slD (rowD xs) none (some (-1)) S = some (rowD xs.dropLast) := by
  show some (D.tup (cutL (xs.map D.int) none (some (-1)))) = _
  rw [cut_dl, ← List.map_dropLast]
  rfl
theorem moved_up_no (h : S[s]? = some (.dct (sdD [] false k))) : F__law_moved fu [.tup (rows.map rowD), .loc s, deedD "up" z] S = .ok (.str "NoUp") S := by
  have eb : ∃ rho, m__law_moved fu (frame 8 [.tup (rows.map rowD), .loc s, deedD "up" z]) S = .ok (.ret (.str "NoUp")) rho S := by
    rw [show frame 8 [.tup (rows.map rowD), .loc s, deedD "up" z] = [some (.tup (rows.map rowD)), some (.loc s), some (deedD "up" z), none, none, none, none, none] from rfl]
    have a0 : ∀ S, ixD (deedD "up" z) (.int 0) S = some (.str "up") := fun S => rfl
    unfold m__law_moved
    simp [a0, eqS, sd_path h, sd_ended h, n_uo, sdtru]
  obtain ⟨rho, eb⟩ := eb
  show finT S (m__law_moved fu (frame 8 _) S) = _
  rw [eb]
  exact fin_ret0 rfl
theorem moved_up (h : S[s]? = some (.dct (sdD path e k))) (hn : path ≠ [] ∨ e = true) : F__law_moved fu [.tup (rows.map rowD), .loc s, deedD "up" z] S = .ok .non (List.set S s (.dct (sdD (if e = true then path else path.dropLast) false k))) := by
  have eb : ∃ rho, m__law_moved fu (frame 8 [.tup (rows.map rowD), .loc s, deedD "up" z]) S = .ok (.ret .non) rho (List.set S s (.dct (sdD (if e = true then path else path.dropLast) false k))) := by
    rw [show frame 8 [.tup (rows.map rowD), .loc s, deedD "up" z] = [some (.tup (rows.map rowD)), some (.loc s), some (deedD "up" z), none, none, none, none, none] from rfl]
    have a0 : ∀ S, ixD (deedD "up" z) (.int 0) S = some (.str "up") := fun S => rfl
    unfold m__law_moved
    have h1 := sd_path h
    have h2 := sd_ended h
    have hl : (sdD path e k).length = 3 := rfl
    have hm := sd_merge (path := path) (e := e) (k := k)
    generalize sdD path e k = dd at h h1 h2 hl hm ⊢
    cases e with
    | true =>
      have hm := hm path false
      simp [a0, eqS, h1, h2, n_uo, sdtru, nox, h, hl]
      first | rw [hm]; done | (rw [hm]; rfl) | (rw [hm]; exact ⟨_, rfl⟩)
    | false =>
      have hp : path.isEmpty = false := by
        rcases hn with q | q
        · cases path with
          | nil => exact absurd rfl q
          | cons _ _ => rfl
        · cases q
      have hm := hm path.dropLast false
      simp [a0, eqS, h1, h2, n_uo, sdtru, nox, h, hl, hp, sl_dl]
      first | rw [hm]; done | (rw [hm]; rfl) | (rw [hm]; exact ⟨_, rfl⟩)
  obtain ⟨rho, eb⟩ := eb
  show finT S (m__law_moved fu (frame 8 _) S) = _
  rw [eb]
  exact fin_ret_set s _ (cl_sd _ _ _ _) rfl
theorem moved_key_no (h : S[s]? = some (.dct (sdD path e k))) (hn : path = [] ∨ e = true) : F__law_moved fu [.tup (rows.map rowD), .loc s, deedD "key" z] S = .ok (.str "NoKey") S := by
  have eb : ∃ rho, m__law_moved fu (frame 8 [.tup (rows.map rowD), .loc s, deedD "key" z]) S = .ok (.ret (.str "NoKey")) rho S := by
    rw [show frame 8 [.tup (rows.map rowD), .loc s, deedD "key" z] = [some (.tup (rows.map rowD)), some (.loc s), some (deedD "key" z), none, none, none, none, none] from rfl]
    have a0 : ∀ S, ixD (deedD "key" z) (.int 0) S = some (.str "key") := fun S => rfl
    unfold m__law_moved
    cases path with
    | nil => simp [a0, eqS, sd_path h, sd_ended h, n_ko, n_ku, sdtru]
    | cons x t =>
      have he : e = true := by
        rcases hn with q | q
        · cases q
        · exact q
      subst he
      simp [a0, eqS, sd_path h, sd_ended h, n_ko, n_ku, sdtru]
  obtain ⟨rho, eb⟩ := eb
  show finT S (m__law_moved fu (frame 8 _) S) = _
  rw [eb]
  exact fin_ret0 rfl
theorem moved_further_no (h : S[s]? = some (.dct (sdD path e k))) (hn : path = [] ∨ e = true) : F__law_moved fu [.tup (rows.map rowD), .loc s, deedD "further" z] S = .ok (.str "NoKey") S := by
  have eb : ∃ rho, m__law_moved fu (frame 8 [.tup (rows.map rowD), .loc s, deedD "further" z]) S = .ok (.ret (.str "NoKey")) rho S := by
    rw [show frame 8 [.tup (rows.map rowD), .loc s, deedD "further" z] = [some (.tup (rows.map rowD)), some (.loc s), some (deedD "further" z), none, none, none, none, none] from rfl]
    have a0 : ∀ S, ixD (deedD "further" z) (.int 0) S = some (.str "further") := fun S => rfl
    unfold m__law_moved
    cases path with
    | nil => simp [a0, eqS, sd_path h, sd_ended h, n_fo, n_fu, n_fk, sdtru]
    | cons x t =>
      have he : e = true := by
        rcases hn with q | q
        · cases q
        · exact q
      subst he
      simp [a0, eqS, sd_path h, sd_ended h, n_fo, n_fu, n_fk, sdtru]
  obtain ⟨rho, eb⟩ := eb
  show finT S (m__law_moved fu (frame 8 _) S) = _
  rw [eb]
  exact fin_ret0 rfl
theorem moved_reach_no (h : S[s]? = some (.dct (sdD path e k))) (hn : path = [] ∨ e = true) : F__law_moved fu [.tup (rows.map rowD), .loc s, deedD "reach" z] S = .ok (.str "NoKey") S := by
  have eb : ∃ rho, m__law_moved fu (frame 8 [.tup (rows.map rowD), .loc s, deedD "reach" z]) S = .ok (.ret (.str "NoKey")) rho S := by
    rw [show frame 8 [.tup (rows.map rowD), .loc s, deedD "reach" z] = [some (.tup (rows.map rowD)), some (.loc s), some (deedD "reach" z), none, none, none, none, none] from rfl]
    have a0 : ∀ S, ixD (deedD "reach" z) (.int 0) S = some (.str "reach") := fun S => rfl
    unfold m__law_moved
    cases path with
    | nil => simp [a0, eqS, sd_path h, sd_ended h, n_ro, n_ru, n_rk, n_rf, sdtru]
    | cons x t =>
      have he : e = true := by
        rcases hn with q | q
        · cases q
        · exact q
      subst he
      simp [a0, eqS, sd_path h, sd_ended h, n_ro, n_ru, n_rk, n_rf, sdtru]
  obtain ⟨rho, eb⟩ := eb
  show finT S (m__law_moved fu (frame 8 _) S) = _
  rw [eb]
  exact fin_ret0 rfl
theorem at_last (p : List Int) (y : Int) (S : Store) : ixD (rowD (p ++ [y])) (.int (-1)) S = some (.int y) := by
  show atI ((p ++ [y]).map D.int) (-1) = _
  rw [List.map_append]
  exact atI_neg1 _ _
theorem moved_key {p : List Int} {y : Int} (h : S[s]? = some (.dct (sdD (p ++ [y]) false k))) : F__law_moved fu [.tup (rows.map rowD), .loc s, deedD "key" z] S = .ok (.int y) S := by
  have eb : ∃ rho, m__law_moved fu (frame 8 [.tup (rows.map rowD), .loc s, deedD "key" z]) S = .ok (.ret (.int y)) rho S := by
    rw [show frame 8 [.tup (rows.map rowD), .loc s, deedD "key" z] = [some (.tup (rows.map rowD)), some (.loc s), some (deedD "key" z), none, none, none, none, none] from rfl]
    have a0 : ∀ S, ixD (deedD "key" z) (.int 0) S = some (.str "key") := fun S => rfl
    unfold m__law_moved
    simp [a0, eqS, sd_path h, sd_ended h, n_ko, n_ku, sdtru, at_last]
  obtain ⟨rho, eb⟩ := eb
  show finT S (m__law_moved fu (frame 8 _) S) = _
  rw [eb]
  exact fin_ret0 rfl
theorem lc_ge {r0 : Dv.Env} {L : Int} (h7 : 7 < r0.length) (h3 : r0[3]? = some (some (.int L))) (xs : List Int) : lcL (tgN 7) (mT (mBin geD (mVar 7) (mVar 3))) (mVar 7) r0 (xs.map D.int) S = .ok ((xs.filter fun x => decide (L ≤ x)).map D.int) S := by
  have := lc_pure (gm := tgN 7) (tt := mT (mBin geD (mVar 7) (mVar 3))) (te := mVar 7) (r0 := r0) (S := S) (fun d => match d with | .int x => decide (L ≤ x) | _ => false) (fun d => d) (xs.map D.int) (fun d hd => by
    obtain ⟨x, _, rfl⟩ := List.mem_map.mp hd
    refine ⟨r0.set 7 (some (.int x)), rfl, ?_, fun _ => ?_⟩
    · have e7 : (r0.set 7 (some (.int x)))[7]? = some (some (.int x)) := List.getElem?_set_self h7
      have e3 : (r0.set 7 (some (.int x)))[3]? = some (some (.int L)) := by rw [List.getElem?_set_ne (by decide)]; exact h3
      show ((((mVar 7) _ S).bind fun a S1 => ((mVar 3) _ S1).bind fun b S2 => ofO (geD a b S2) S2).bind fun d S1 => ofO (asB d) S1) = _
      simp only [mVar_ap, e7, e3]
      rfl
    · have e7 : (r0.set 7 (some (.int x)))[7]? = some (some (.int x)) := List.getElem?_set_self h7
      rw [mVar_ap, e7])
  rw [this]
  congr 1
  rw [List.filter_map, List.map_map]
  rfl
def goP (p : List Int) : List Int → List Int
  | [] => p
  | x :: _ => p ++ [x]
def goE : List Int → Bool
  | [] => true
  | _ :: _ => false
def leastOf (word : Str) (y z : Int) : Int := if word = "further" then y + 1 else if z > y then z else y
theorem moved_further {p : List Int} {y : Int} {xs : List Int} (h : S[s]? = some (.dct (sdD (p ++ [y]) false k))) (T : Tab rows w) (hp : p.length < w) (hw : w ≤ 1000) (h64 : rows.length < 64) (hx : (trieI rows p).filter (fun x => decide (leastOf "further" y z ≤ x)) = xs) :
    F__law_moved fu [.tup (rows.map rowD), .loc s, deedD "further" z] S = .ok .non (List.set S s (.dct (sdD (goP p xs) (goE xs) (k + 1)))) := by
  have eb : ∃ rho, m__law_moved fu (frame 8 [.tup (rows.map rowD), .loc s, deedD "further" z]) S = .ok (.ret .non) rho (List.set S s (.dct (sdD (goP p xs) (goE xs) (k + 1)))) := by
    rw [show frame 8 [.tup (rows.map rowD), .loc s, deedD "further" z] = [some (.tup (rows.map rowD)), some (.loc s), some (deedD "further" z), none, none, none, none, none] from rfl]
    have a0 : ∀ S, ixD (deedD "further" z) (.int 0) S = some (.str "further") := fun S => rfl
    have a1 : ∀ S, ixD (deedD "further" z) (.int 1) S = some (.int z) := fun S => rfl
    have et : F__law_trie fu [.tup (rows.map rowD), rowD p] S = .ok (.lst ((trieI rows p).map D.int)) S := trie_ok (S := S) (rows := rows) (pl := p) T.wd hp h64
    have dl : ∀ S, slD (rowD (p ++ [y])) none (some (-1)) S = some (rowD p) := fun S => by rw [sl_dl, List.dropLast_concat]
    have ne : (p ++ [y]).isEmpty = false := by cases p <;> rfl
    have h1 := sd_path h
    have h2 := sd_ended h
    have h3 := sd_looks h
    have h4 : ∀ r, dputD (.loc s) (.str "looks") (.int (k + 1)) r S = .ok .next r (List.set S s (.dct (sdD (p ++ [y]) false (k + 1)))) := fun r => sd_putL h _
    have h5 : (List.set S s (.dct (sdD (p ++ [y]) false (k + 1))))[s]? = some (.dct (sdD (p ++ [y]) false (k + 1))) := sd_set h _
    have hl : (sdD (p ++ [y]) false (k + 1)).length = 3 := rfl
    have hm := sd_merge (path := p ++ [y]) (e := false) (k := k + 1)
    have mx : ∀ S, max2D [.int y, .int z] S = some (.int (if z > y then z else y)) := fun S => rfl
    have eL : leastOf "further" y z = y + 1 := by
      unfold leastOf
      rw [if_pos rfl]
    rw [eL] at hx
    have lc2 : lcL (tgN 7) (mT (mBin geD (mVar 7) (mVar 3))) (mVar 7) [some (.tup (rows.map rowD)), some (.loc s), some (deedD "further" z), some (.int (y + 1)), none, some (rowD (p ++ [y])), some (.bl false), none] ((trieI rows p).map D.int) S = .ok (xs.map D.int) S := by
      rw [lc_ge (L := y + 1) (by simp) rfl, hx]
    have hxs : xs.length ≤ 64 := by
      rw [← hx]
      refine Nat.le_trans (List.length_filter_le _ _) (Nat.le_trans (ssI_len _) ?_)
      rw [List.length_map]
      exact Nat.le_trans (List.length_filter_le _ _) (by omega)
    unfold m__law_moved
    generalize sdD (p ++ [y]) false (k + 1) = d2 at h4 h5 hl hm ⊢
    cases xs with
    | nil =>
      have hm := hm p true
      have eqn : ∀ S, eqD (.lst []) (.lst []) S = some (.bl true) := fun S => rfl
      have t0 : ∀ S, truD (.lst []) S = some false := fun S => rfl
      simp [a0, a1, eqS, h1, h2, h3, h4, h5, n_fo, n_fu, n_fk, sdtru, at_last, dl, ne, et, lc2, nox, hl, mx, eqn, t0]
      first | rw [hm]; done | (rw [hm]; rfl) | (rw [hm]; exact ⟨_, rfl⟩)
    | cons x t =>
      have hm := hm (p ++ [x]) false
      have eqn : ∀ S, eqD (.lst ((x :: t).map D.int)) (.lst []) S = some (.bl false) := fun S => by
        have hp1 : pl 1 (.lst ((x :: t).map D.int)) = true := by
          show ((x :: t).map D.int).all (pl 0) = true
          rw [List.all_map, List.all_eq_true]
          exact fun _ _ => rfl
        rw [eqD_pl (k := 1) (by exact hp1) rfl (by decide)]
        have : ¬ (now (D.lst ((x :: t).map D.int)) S = now (D.lst []) S) := fun q => by
          have q : D.lst ((x :: t).map D.int) = D.lst [] := q
          have := D.lst.inj q
          simp at this
        rw [decide_eq_false this]
      have t0 : ∀ S, truD (.lst ((x :: t).map D.int)) S = some true := fun S => rfl
      have ea : ∀ S, addD (rowD p) (.tup [.int x]) S = some (rowD (p ++ [x])) := fun S => by
        show (if _ then _ else _) = _
        rw [if_pos (by rw [List.length_map, List.length_singleton]; omega), rowD, List.map_append]
        rfl
      have l1 : atI ((x :: t).map D.int) 0 = some (.int x) := atI_zero _ _
      generalize (x :: t).map D.int = W at lc2 eqn t0 l1
      simp [a0, a1, eqS, h1, h2, h3, h4, h5, n_fo, n_fu, n_fk, sdtru, at_last, dl, ne, et, lc2, nox, hl, mx, eqn, t0, ea, l1]
      first | rw [hm]; done | (rw [hm]; rfl) | (rw [hm]; exact ⟨_, rfl⟩)
  obtain ⟨rho, eb⟩ := eb
  show finT S (m__law_moved fu (frame 8 _) S) = _
  rw [eb]
  exact fin_ret_set s _ (cl_sd _ _ _ _) rfl
theorem moved_reach {p : List Int} {y : Int} {xs : List Int} (h : S[s]? = some (.dct (sdD (p ++ [y]) false k))) (T : Tab rows w) (hp : p.length < w) (hw : w ≤ 1000) (h64 : rows.length < 64) (hx : (trieI rows p).filter (fun x => decide (leastOf "reach" y z ≤ x)) = xs) :
    F__law_moved fu [.tup (rows.map rowD), .loc s, deedD "reach" z] S = .ok .non (List.set S s (.dct (sdD (goP p xs) (goE xs) (k + 1)))) := by
  have eb : ∃ rho, m__law_moved fu (frame 8 [.tup (rows.map rowD), .loc s, deedD "reach" z]) S = .ok (.ret .non) rho (List.set S s (.dct (sdD (goP p xs) (goE xs) (k + 1)))) := by
    rw [show frame 8 [.tup (rows.map rowD), .loc s, deedD "reach" z] = [some (.tup (rows.map rowD)), some (.loc s), some (deedD "reach" z), none, none, none, none, none] from rfl]
    have a0 : ∀ S, ixD (deedD "reach" z) (.int 0) S = some (.str "reach") := fun S => rfl
    have a1 : ∀ S, ixD (deedD "reach" z) (.int 1) S = some (.int z) := fun S => rfl
    have et : F__law_trie fu [.tup (rows.map rowD), rowD p] S = .ok (.lst ((trieI rows p).map D.int)) S := trie_ok (S := S) (rows := rows) (pl := p) T.wd hp h64
    have dl : ∀ S, slD (rowD (p ++ [y])) none (some (-1)) S = some (rowD p) := fun S => by rw [sl_dl, List.dropLast_concat]
    have ne : (p ++ [y]).isEmpty = false := by cases p <;> rfl
    have h1 := sd_path h
    have h2 := sd_ended h
    have h3 := sd_looks h
    have h4 : ∀ r, dputD (.loc s) (.str "looks") (.int (k + 1)) r S = .ok .next r (List.set S s (.dct (sdD (p ++ [y]) false (k + 1)))) := fun r => sd_putL h _
    have h5 : (List.set S s (.dct (sdD (p ++ [y]) false (k + 1))))[s]? = some (.dct (sdD (p ++ [y]) false (k + 1))) := sd_set h _
    have hl : (sdD (p ++ [y]) false (k + 1)).length = 3 := rfl
    have hm := sd_merge (path := p ++ [y]) (e := false) (k := k + 1)
    have mx : ∀ S, max2D [.int y, .int z] S = some (.int (if z > y then z else y)) := fun S => rfl
    have eL : leastOf "reach" y z = if z > y then z else y := by
      unfold leastOf
      rw [if_neg n_rf]
    rw [eL] at hx
    have lc2 : lcL (tgN 7) (mT (mBin geD (mVar 7) (mVar 3))) (mVar 7) [some (.tup (rows.map rowD)), some (.loc s), some (deedD "reach" z), some (.int (if z > y then z else y)), none, some (rowD (p ++ [y])), some (.bl false), none] ((trieI rows p).map D.int) S = .ok (xs.map D.int) S := by
      rw [lc_ge (L := if z > y then z else y) (by simp) rfl, hx]
    have hxs : xs.length ≤ 64 := by
      rw [← hx]
      refine Nat.le_trans (List.length_filter_le _ _) (Nat.le_trans (ssI_len _) ?_)
      rw [List.length_map]
      exact Nat.le_trans (List.length_filter_le _ _) (by omega)
    unfold m__law_moved
    generalize sdD (p ++ [y]) false (k + 1) = d2 at h4 h5 hl hm ⊢
    cases xs with
    | nil =>
      have hm := hm p true
      have eqn : ∀ S, eqD (.lst []) (.lst []) S = some (.bl true) := fun S => rfl
      have t0 : ∀ S, truD (.lst []) S = some false := fun S => rfl
      simp [a0, a1, eqS, h1, h2, h3, h4, h5, n_ro, n_ru, n_rk, n_rf, sdtru, at_last, dl, ne, et, lc2, nox, hl, mx, eqn, t0]
      first | rw [hm]; done | (rw [hm]; rfl) | (rw [hm]; exact ⟨_, rfl⟩)
    | cons x t =>
      have hm := hm (p ++ [x]) false
      have eqn : ∀ S, eqD (.lst ((x :: t).map D.int)) (.lst []) S = some (.bl false) := fun S => by
        have hp1 : pl 1 (.lst ((x :: t).map D.int)) = true := by
          show ((x :: t).map D.int).all (pl 0) = true
          rw [List.all_map, List.all_eq_true]
          exact fun _ _ => rfl
        rw [eqD_pl (k := 1) (by exact hp1) rfl (by decide)]
        have : ¬ (now (D.lst ((x :: t).map D.int)) S = now (D.lst []) S) := fun q => by
          have q : D.lst ((x :: t).map D.int) = D.lst [] := q
          have := D.lst.inj q
          simp at this
        rw [decide_eq_false this]
      have t0 : ∀ S, truD (.lst ((x :: t).map D.int)) S = some true := fun S => rfl
      have ea : ∀ S, addD (rowD p) (.tup [.int x]) S = some (rowD (p ++ [x])) := fun S => by
        show (if _ then _ else _) = _
        rw [if_pos (by rw [List.length_map, List.length_singleton]; omega), rowD, List.map_append]
        rfl
      have l1 : atI ((x :: t).map D.int) 0 = some (.int x) := atI_zero _ _
      generalize (x :: t).map D.int = W at lc2 eqn t0 l1
      simp [a0, a1, eqS, h1, h2, h3, h4, h5, n_ro, n_ru, n_rk, n_rf, sdtru, at_last, dl, ne, et, lc2, nox, hl, mx, eqn, t0, ea, l1]
      first | rw [hm]; done | (rw [hm]; rfl) | (rw [hm]; exact ⟨_, rfl⟩)
  obtain ⟨rho, eb⟩ := eb
  show finT S (m__law_moved fu (frame 8 _) S) = _
  rw [eb]
  exact fin_ret_set s _ (cl_sd _ _ _ _) rfl
end
theorem set_self {α : Type} {S : List α} {i : Nat} {o : α} (h : S[i]? = some o) : List.set S i o = S := by
  refine List.ext_getElem? fun j => ?_
  by_cases e : j = i
  · subst e
    rw [List.getElem?_set_self (List.getElem?_eq_some_iff.mp h).1, h]
  · rw [List.getElem?_set_ne (Ne.symm e)]
def Res (r : D) : Prop := r = .non ∨ (∃ t, r = .str t) ∨ ∃ y, r = .int y
section
variable {S : Store} {l v s fu : Nat} {rows : List (List Int)} {lv : List (Nat × Nat × Nat)} {m z : Int} {w : Nat} {word : Str}
theorem mv_self (h : Lk S l v rows lv m) : mvS S l v rows lv m = S := by
  rw [mvS_same h, set_self h.v]
def Deed (rows : List (List Int)) (w fu l v s : Nat) (S : Store) (word : Str) (z : Int) : Prop :=
  ∃ r lv' m', F__law_acted fu [.loc l, deedD word z] S = .ok r (mvS S l v rows lv' m') ∧ F__law_moved fu [.tup (rows.map rowD), .loc s, deedD word z] (mvS S l v rows lv' m') = .ok r (List.set (mvS S l v rows lv' m') s (.dct (sdD (pathOf rows lv') (endB lv') m'))) ∧ Ways rows w lv' ∧ Res r
theorem deed_no {n : Str} (h : Lk S l v rows lv m) (W : Ways rows w lv) (hs : S[s]? = some (.dct (sdD (pathOf rows lv) (endB lv) m))) (hw : word ∈ wordsL) (hn : W_word n = some n) (ha : mth fu word z l S = .exc n S) (hm : F__law_moved fu [.tup (rows.map rowD), .loc s, deedD word z] S = .ok (.str n) S) : Deed rows w fu l v s S word z := by
  refine ⟨.str n, lv, m, ?_, ?_, W, .inr (.inl ⟨n, rfl⟩)⟩
  · rw [mv_self h]
    exact acted_exc h hw ha hn
  · rw [mv_self h, set_self hs]
    exact hm
theorem path_ne (T : Tab rows w) (W : Ways rows w lv) (hne : lv ≠ []) (he : endB lv = false) : ∃ lv' lo far at_, lv = lv' ++ [(lo, far, at_)] ∧ at_ < far ∧ pathOf rows lv = tk rows lv'.length lo ++ [cl rows lv'.length at_] ∧ lv'.length < w ∧ St rows lv'.length (lo, far, at_) := by
  rcases List.eq_nil_or_concat lv with e | ⟨lv', y, e⟩
  · exact absurd e hne
  · rw [List.concat_eq_append] at e
    subst e
    obtain ⟨lo, far, at_⟩ := y
    have st := W.g.last
    have hl := W.len
    rw [List.length_append, List.length_singleton] at hl
    rw [endB_snoc, decide_eq_false_iff_not] at he
    refine ⟨lv', lo, far, at_, rfl, ?_, ?_, by omega, st⟩
    · have := st.hi
      simp only at this he
      omega
    · rcases path_go T (by omega) st with ⟨q, _⟩ | ⟨_, q⟩
      · exact absurd q he
      · exact q
theorem path_nil_iff (T : Tab rows w) (W : Ways rows w lv) (he : endB lv = false) : pathOf rows lv = [] ↔ lv = [] := by
  constructor
  · intro q
    by_cases hne : lv = []
    · exact hne
    · obtain ⟨lv', lo, far, at_, _, _, q2, _⟩ := path_ne T W hne he
      rw [q2] at q
      simp at q
  · rintro rfl
    rfl
theorem path_len (T : Tab rows w) (W : Ways rows w lv) (he : endB lv = false) : (pathOf rows lv).length = lv.length := by
  by_cases hne : lv = []
  · subst hne
    rfl
  · obtain ⟨lv', lo, far, at_, rfl, hlt, q2, hl, st⟩ := path_ne T W hne he
    have hb := st.blk.le
    have hl2 := st.lo
    simp only at hb hl2
    rw [q2, List.length_append, List.length_append, tk_length T (by omega) (by omega)]
    rfl
theorem deed_opened (h : Lk S l v rows lv m) (T : Tab rows w) (W : Ways rows w lv) (hs : S[s]? = some (.dct (sdD (pathOf rows lv) (endB lv) m))) (hsl : s ≠ l) (hsv : s ≠ v) (hw : w ≤ 1000) (h64 : rows.length < 64) (hfu : rows.length < fu) : Deed rows w fu l v s S "opened" z := by
  have hmem : (("opened" : Str)) ∈ wordsL := by simp [wordsL]
  by_cases hn : rows = [] ∨ endB lv = true ∨ lv.length = w
  · refine deed_no h W hs hmem rfl (by unfold mth; rw [if_pos rfl]; exact opened_no h T hn) (moved_open_no hs T ?_)
    rcases hn with q | q | q
    · exact .inl q
    · exact .inr (.inl q)
    · cases he : endB lv with
      | true => exact .inr (.inl rfl)
      | false => exact .inr (.inr (by rw [path_len T W he]; omega))
  · rw [not_or, not_or, Bool.not_eq_true] at hn
    have hd : lv.length < w := by have := W.len; omega
    obtain ⟨lo, far, b, W', ep, eo⟩ := opened_way (rk := sRaise "NoKey") (rs := sRaise "NoDeeper") T h W hn.1 hd hn.2.1 hfu
    obtain ⟨t, ht⟩ := trie_first T hd b
    have hmv : mvS S l v rows (lv ++ [(lo, far, lo)]) m = List.set S v (.lst ((lv ++ [(lo, far, lo)]).map lvD)) := mvS_same h _
    have hl := W'.len
    have hs2 : (mvS S l v rows (lv ++ [(lo, far, lo)]) m)[s]? = some (.dct (sdD (pathOf rows lv) false m)) := by
      rw [mvS_other hsl hsv, hs, hn.2.1]
    refine ⟨.non, lv ++ [(lo, far, lo)], m, acted_val h hmem ?_ (by omega) (.inl rfl), ?_, W', .inl rfl⟩
    · unfold mth
      rw [if_pos rfl, eo, hmv]
    · have := moved_open (fu := fu) (z := z) (x := cl rows lv.length lo) (t := t) hs2 T hn.1 (by rw [path_len T W hn.2.1]; exact hd) hw h64 (by rw [ep]; exact ht)
      rw [this]
      have e1 : pathOf rows (lv ++ [(lo, far, lo)]) = pathOf rows lv ++ [cl rows lv.length lo] := by
        rcases path_go T hd (W'.g.last) with ⟨q, _⟩ | ⟨_, q⟩
        · have := b.lt
          omega
        · rw [q, ep]
      have e2 : endB (lv ++ [(lo, far, lo)]) = false := by
        rw [endB_snoc, decide_eq_false_iff_not]
        have := b.lt
        simp only
        omega
      rw [e1, e2]
theorem deed_up (h : Lk S l v rows lv m) (T : Tab rows w) (W : Ways rows w lv) (hs : S[s]? = some (.dct (sdD (pathOf rows lv) (endB lv) m))) (hsl : s ≠ l) (hsv : s ≠ v) (hw : w ≤ 1000) : Deed rows w fu l v s S "up" z := by
  have hmem : (("up" : Str)) ∈ wordsL := by simp [wordsL]
  rcases List.eq_nil_or_concat lv with e | ⟨lv', y, e⟩
  · subst e
    exact deed_no h W hs hmem rfl (by unfold mth; rw [if_neg n_uo, if_pos rfl]; exact up_no h) (moved_up_no hs)
  · rw [List.concat_eq_append] at e
    subst e
    obtain ⟨eu, e1, e2⟩ := up_way (rs := sRaise "NoUp") T h W
    have hl := W.front.len
    have hmv : mvS S l v rows lv' m = List.set S v (.lst (lv'.map lvD)) := mvS_same h _
    have hs2 : (mvS S l v rows lv' m)[s]? = some (.dct (sdD (pathOf rows (lv' ++ [y])) (endB (lv' ++ [y])) m)) := by
      rw [mvS_other hsl hsv, hs]
    refine ⟨.non, lv', m, acted_val h hmem ?_ (by omega) (.inl rfl), ?_, W.front, .inl rfl⟩
    · unfold mth
      rw [if_neg n_uo, if_pos rfl, eu, hmv]
    · rw [moved_up hs2 ?_, e1, e2]
      cases he : endB (lv' ++ [y]) with
      | true => exact .inr rfl
      | false => exact .inl (fun q => absurd ((path_nil_iff T W he).mp q) (by simp))
theorem ended_or (T : Tab rows w) (W : Ways rows w lv) : (lv = [] ∨ endB lv = true) ∨ ∃ lv' lo far at_, lv = lv' ++ [(lo, far, at_)] ∧ endB lv = false ∧ at_ < far ∧ pathOf rows lv = tk rows lv'.length lo ++ [cl rows lv'.length at_] ∧ lv'.length < w ∧ St rows lv'.length (lo, far, at_) := by
  by_cases hne : lv = []
  · exact .inl (.inl hne)
  · cases he : endB lv with
    | true => exact .inl (.inr rfl)
    | false =>
      obtain ⟨a, b, c, d, q1, q2⟩ := path_ne T W hne he
      exact .inr ⟨a, b, c, d, q1, rfl, q2⟩
theorem no_path (h : lv = [] ∨ endB lv = true) : pathOf rows lv = [] ∨ endB lv = true := h.imp (fun e => by rw [e]; rfl) id
theorem deed_key (h : Lk S l v rows lv m) (T : Tab rows w) (W : Ways rows w lv) (hs : S[s]? = some (.dct (sdD (pathOf rows lv) (endB lv) m))) : Deed rows w fu l v s S "key" z := by
  have hmem : (("key" : Str)) ∈ wordsL := by simp [wordsL]
  rcases ended_or T W with hn | ⟨lv', lo, far, at_, rfl, he, hlt, ep, hl, st⟩
  · exact deed_no h W hs hmem rfl (by unfold mth; rw [if_neg n_ko, if_neg n_ku, if_pos rfl]; exact key_no h hn) (moved_key_no hs (no_path hn))
  · have hlw := W.len
    refine ⟨.int (cl rows lv'.length at_), lv' ++ [(lo, far, at_)], m, acted_val h hmem ?_ h.small.2 (.inr ⟨_, rfl⟩), ?_, W, .inr (.inr ⟨_, rfl⟩)⟩
    · unfold mth
      rw [if_neg n_ko, if_neg n_ku, if_pos rfl, mv_self h]
      exact key_at T h st hlt hl
    · rw [mv_self h, set_self hs]
      rw [he, ep] at hs
      exact moved_key hs
theorem go_end {lv' : List (Nat × Nat × Nat)} {lo far at_ p : Nat} {L : Int} (T : Tab rows w) (hl : lv'.length < w) (st : St rows lv'.length (lo, far, at_)) (st2 : St rows lv'.length (lo, far, p)) (hlt : ∀ i, lo ≤ i → i < p → cl rows lv'.length i < L) (hge : p < far → L ≤ cl rows lv'.length p) :
    ∃ xs, (trieI rows (tk rows lv'.length lo)).filter (fun x => decide (L ≤ x)) = xs ∧ pathOf rows (lv' ++ [(lo, far, p)]) = goP (tk rows lv'.length lo) xs ∧ endB (lv' ++ [(lo, far, p)]) = (goE xs) := by
  refine ⟨_, rfl, ?_⟩
  have h1 := st2.lo
  have h2 := st2.hi
  simp only at h1 h2
  rcases trie_from T hl st.blk h1 h2 hlt hge with ⟨q, e⟩ | ⟨q, t, e⟩
  · rw [e, endB_snoc]
    rcases path_go T hl st2 with ⟨_, e2⟩ | ⟨q2, _⟩
    · exact ⟨e2, decide_eq_true q⟩
    · simp only at q
      omega
  · rw [e, endB_snoc]
    rcases path_go T hl st2 with ⟨q2, _⟩ | ⟨_, e2⟩
    · simp only at q
      omega
    · exact ⟨e2, decide_eq_false (by simp only; omega)⟩
theorem deed_further (h : Lk S l v rows lv m) (T : Tab rows w) (W : Ways rows w lv) (hs : S[s]? = some (.dct (sdD (pathOf rows lv) (endB lv) m))) (hsl : s ≠ l) (hsv : s ≠ v) (hw : w ≤ 1000) (h64 : rows.length < 64) (hfu : rows.length < fu) : Deed rows w fu l v s S "further" z := by
  have hmem : (("further" : Str)) ∈ wordsL := by simp [wordsL]
  rcases ended_or T W with hn | ⟨lv', lo, far, at_, rfl, he, hlt, ep, hl, st⟩
  · exact deed_no h W hs hmem rfl (by unfold mth; rw [if_neg n_fo, if_neg n_fu, if_neg n_fk, if_pos rfl]; exact further_no h hn) (moved_further_no hs (no_path hn))
  · obtain ⟨p, p1, p2, p3, p4, p5⟩ := fur_ok (rk := sRaise "NoKey") (fu := fu) T h st hlt hl hfu
    have hlo := st.lo
    have hble := st.blk.le
    simp only at hlo hble
    have g1 := st.gs hlt
    have g2 := p3.gs
    simp only at g1 g2
    obtain ⟨xs, hx, e1, e2⟩ := go_end (L := leastOf "further" (cl rows lv'.length at_) z) T hl st p3 (fun i i1 i2 => by
      unfold leastOf
      rw [if_pos rfl]
      rcases Nat.lt_or_ge i at_ with q | q
      · have := g1 i i1 q
        omega
      · have := ((tk_succ_iff T hl (i := i) (j := at_) (by omega) (by omega)).mp (p4.tk q i2)).2
        omega) (fun q => by
      unfold leastOf
      rw [if_pos rfl]
      have := g2 q at_ hlo p1
      omega)
    have hs2 : (mvS S l v rows (lv' ++ [(lo, far, p)]) (m + 1))[s]? = some (.dct (sdD (tk rows lv'.length lo ++ [cl rows lv'.length at_]) false m)) := by
      rw [mvS_other hsl hsv, hs, he, ep]
    have W' := W.go p3
    refine ⟨.non, lv' ++ [(lo, far, p)], m + 1, acted_val h hmem ?_ (by have := W'.len; omega) (.inl rfl), ?_, W', .inl rfl⟩
    · unfold mth
      rw [if_neg n_fo, if_neg n_fu, if_neg n_fk, if_pos rfl, p5]
    · rw [moved_further hs2 T (by rw [tk_length T (by omega) (by omega)]; exact hl) hw h64 hx, e1, e2]
theorem deed_reach (h : Lk S l v rows lv m) (T : Tab rows w) (W : Ways rows w lv) (hs : S[s]? = some (.dct (sdD (pathOf rows lv) (endB lv) m))) (hsl : s ≠ l) (hsv : s ≠ v) (hw : w ≤ 1000) (h64 : rows.length < 64) (hfu : rows.length < fu) : Deed rows w fu l v s S "reach" z := by
  have hmem : (("reach" : Str)) ∈ wordsL := by simp [wordsL]
  rcases ended_or T W with hn | ⟨lv', lo, far, at_, rfl, he, hlt, ep, hl, st⟩
  · exact deed_no h W hs hmem rfl (by unfold mth; rw [if_neg n_ro, if_neg n_ru, if_neg n_rk, if_neg n_rf]; exact reach_no h hn) (moved_reach_no hs (no_path hn))
  · obtain ⟨p, p1, p2, p3, p4, p5, p6⟩ := reach_ok (rk := sRaise "NoKey") (fu := fu) (y := z) T h st hlt hl hfu
    have hlo := st.lo
    have hble := st.blk.le
    simp only at hlo hble
    have g1 := st.gs hlt
    simp only at g1
    obtain ⟨xs, hx, e1, e2⟩ := go_end (L := leastOf "reach" (cl rows lv'.length at_) z) T hl st p5 (fun i i1 i2 => by
      unfold leastOf
      rw [if_neg n_rf]
      rcases Nat.lt_or_ge i at_ with q | q
      · have := g1 i i1 q
        split <;> omega
      · have h3 := p3 i q i2
        have h4 := st.blk.mono T hl hlo q (by simp only; omega)
        split <;> omega) (fun q => by
      unfold leastOf
      rw [if_neg n_rf]
      have h3 := p4 q
      have h4 := st.blk.mono T hl hlo p1 q
      split <;> omega)
    have hs2 : (mvS S l v rows (lv' ++ [(lo, far, p)]) (m + 1))[s]? = some (.dct (sdD (tk rows lv'.length lo ++ [cl rows lv'.length at_]) false m)) := by
      rw [mvS_other hsl hsv, hs, he, ep]
    have W' := W.go p5
    refine ⟨.non, lv' ++ [(lo, far, p)], m + 1, acted_val h hmem ?_ (by have := W'.len; omega) (.inl rfl), ?_, W', .inl rfl⟩
    · unfold mth
      rw [if_neg n_ro, if_neg n_ru, if_neg n_rk, if_neg n_rf, p6]
    · rw [moved_reach hs2 T (by rw [tk_length T (by omega) (by omega)]; exact hl) hw h64 hx, e1, e2]
end
theorem Lk.away {rows : List (List Int)} {S S' : Store} {l v : Nat} {lv : List (Nat × Nat × Nat)} {m : Int} (h : Lk S l v rows lv m) (h1 : S'[l]? = S[l]?) (h2 : S'[v]? = S[v]?) : Lk S' l v rows lv m := ⟨h1.trans h.o, h2.trans h.v, h.small⟩
noncomputable def lawJ (fu : Nat) : SM := (sSeq (sSet 8 (mLst (mCons (mC (.str "opened")) (mCons (mC (.str "opened")) (mCons (mC (.str "opened")) (mCons (mC (.str "up")) (mCons (mC (.str "key")) (mCons (mC (.str "further")) (mCons (mC (.str "further")) (mCons (mC (.str "reach")) (mCons (mC (.str "reach")) mNil)))))))))))
    (sSeq (sSet 9 (mApp 3 FPick (mCons (mVar 0) (mCons (mVar 1) (mCons (mVar 8) mNil)))))
    (sSeq (sSet 10 (mTup (mCons (mVar 9) (mCons (mBin subD (mApp 3 FDraw (mCons (mVar 0) (mCons (mVar 1) (mCons (mC (.int 6)) mNil)))) (mC (.int 1))) mNil))))
    (sSeq (sIf (mNotT (mTru (mApp 2 (FSame 4) (mCons (mApp 2 (F__law_acted fu) (mCons (mVar 6) (mCons (mVar 10) mNil))) (mCons (mApp 3 (F__law_moved fu) (mCons (mVar 4) (mCons (mVar 7) (mCons (mVar 10) mNil)))) mNil))))) (sRet (mC (.bl false))) sNil)
    (sSeq (sSet 11 (mBin addD (mCall lenD (mCons (mBin dgetD (mVar 7) (mC (.str "path"))) mNil)) (mCall intD (mCons (mBin dgetD (mVar 7) (mC (.str "ended"))) mNil))))
    (sSeq (sSet 12 (mTup (mCons (mMeth "Looker" "at_end" 1 FEnd (mVar 6) mNil) (mCons (mMeth "Looker" "depth" 1 FDepth (mVar 6) mNil) (mCons (mMeth "Looker" "place" 1 FPlace (mVar 6) mNil) (mCons (mMeth "Looker" "looks" 1 FLooks (mVar 6) mNil) mNil))))))
    (sIf (mNotT (mTru (mApp 2 (FSame 4) (mCons (mVar 12) (mCons (mTup (mCons (mBin dgetD (mVar 7) (mC (.str "ended"))) (mCons (mVar 11) (mCons (mBin dgetD (mVar 7) (mC (.str "path"))) (mCons (mBin dgetD (mVar 7) (mC (.str "looks"))) mNil))))) mNil))))) (sRet (mC (.bl false))) sNil)))))))
noncomputable def lawB (fu : Nat) : SM := (sSeq (sSet 3 (mBin addD (mC (.int 1)) (mApp 3 FDraw (mCons (mVar 0) (mCons (mVar 1) (mCons (mC (.int 3)) mNil))))))
    (sSeq (sSet 4 (mApp 5 FRows (mCons (mVar 0) (mCons (mVar 1) (mCons (mVar 3) (mCons (mApp 3 FPick (mCons (mVar 0) (mCons (mVar 1) (mCons (mLst (mCons (mC (.int 0)) (mCons (mC (.int 3)) (mCons (mC (.int 12)) mNil)))) mNil)))) (mCons (mC (.int 4)) mNil)))))))
    (sSeq (sPar 6 7 (mCons (mMake "Looker" 2 FInitL (mCons (mVar 4) mNil)) (mCons (mDisp true ["path", "ended", "looks"] [(mTup mNil), (mC (.bl false)), (mC (.int 0))]) mNil)))
    (sFor (mRng1 (mCons (mC (.int 24)) mNil)) (tgN 5) (lawJ fu)))))
theorem law_eq (fu : Nat) : m_law fu = (sSeq (sSet 1 (mNewL mNil)) (sSeq (sFor (mRng1 (mCons (mC (.int 4)) mNil)) (tgN 2) (lawB fu)) (sRet (mC (.bl true))))) := by
  unfold m_law
  rw [fsame_eq]
  rfl
section
variable {rows : List (List Int)} {w fu : Nat} {ns : List Int} {S : Store}
theorem place_any {l v : Nat} {lv : List (Nat × Nat × Nat)} {m : Int} (T : Tab rows w) (h : Lk S l v rows lv m) (W : Ways rows w lv) : FPlace [.loc l] S = .ok (rowD (pathOf rows lv)) S := by
  rcases List.eq_nil_or_concat lv with e | ⟨lv', y, e⟩
  · subst e
    exact place0_ok h
  · rw [List.concat_eq_append] at e
    subst e
    obtain ⟨lo, far, at_⟩ := y
    have st := W.g.last
    have hhi := st.hi
    simp only at hhi
    rcases Nat.lt_or_eq_of_le hhi with q | q
    · rw [pathOf_at (by omega)]
      exact place_at T h st q
    · subst q
      rw [pathOf_end]
      exact place_end T h st
theorem deep_any {lv : List (Nat × Nat × Nat)} (T : Tab rows w) (W : Ways rows w lv) : ((pathOf rows lv).length : Int) + (if endB lv = true then 1 else 0) = lv.length := by
  cases he : endB lv with
  | false =>
    rw [path_len T W he]
    simp
  | true =>
    rcases List.eq_nil_or_concat lv with e | ⟨lv', y, e⟩
    · subst e
      cases he
    · rw [List.concat_eq_append] at e
      subst e
      obtain ⟨lo, far, at_⟩ := y
      rw [endB_snoc, decide_eq_true_eq] at he
      simp only at he
      subst he
      have st := W.g.last
      have hl := W.len
      have hb := st.blk.le
      have hlt := st.blk.lt
      rw [List.length_append, List.length_singleton] at hl
      simp only at hb hlt
      rw [pathOf_end, tk_length T (by omega) (by omega), List.length_append, List.length_singleton, if_pos rfl]
      omega
structure Both (rows : List (List Int)) (w l v s n : Nat) (S : Store) : Prop where
  ex : ∃ lv m, Lk S l v rows lv m ∧ Ways rows w lv ∧ S[s]? = some (.dct (sdD (pathOf rows lv) (endB lv) m))
  tw : Twn 0 n S
  ne : l ≠ 0 ∧ v ≠ 0 ∧ s ≠ 0 ∧ s ≠ l ∧ s ≠ v
theorem word_at {i : Nat} {d : D} (h : (wordsL.map D.str)[i]? = some d) : ∃ x, d = .str x ∧ x ∈ wordsL := by
  rw [List.getElem?_map] at h
  obtain ⟨x, hx, rfl⟩ := Option.map_eq_some_iff.mp h
  exact ⟨x, rfl, List.mem_of_getElem? hx⟩
theorem deed_any {l v s : Nat} {lv : List (Nat × Nat × Nat)} {m z : Int} {word : Str} (hword : word ∈ wordsL) (h : Lk S l v rows lv m) (T : Tab rows w) (W : Ways rows w lv) (hs : S[s]? = some (.dct (sdD (pathOf rows lv) (endB lv) m))) (hsl : s ≠ l) (hsv : s ≠ v) (hw : w ≤ 1000) (h64 : rows.length < 64) (hfu : rows.length < fu) : Deed rows w fu l v s S word z := by
  simp only [wordsL, List.mem_cons, List.not_mem_nil, or_false] at hword
  rcases hword with rfl | rfl | rfl | rfl | rfl | rfl | rfl | rfl | rfl
  · exact deed_opened h T W hs hsl hsv hw h64 hfu
  · exact deed_opened h T W hs hsl hsv hw h64 hfu
  · exact deed_opened h T W hs hsl hsv hw h64 hfu
  · exact deed_up h T W hs hsl hsv hw
  · exact deed_key h T W hs
  · exact deed_further h T W hs hsl hsv hw h64 hfu
  · exact deed_further h T W hs hsl hsv hw h64 hfu
  · exact deed_reach h T W hs hsl hsv hw h64 hfu
  · exact deed_reach h T W hs hsl hsv hw h64 hfu
theorem res_same {r : D} (hr : Res r) (S : Store) : FSame 4 [r, r] S = .ok (.bl true) S := by
  have hp : pt 1 r = true := by
    rcases hr with rfl | ⟨t, rfl⟩ | ⟨y, rfl⟩ <;> rfl
  have := same_ok (S := S) 4 1 (by decide) r r hp hp
  rw [decide_eq_true rfl] at this
  exact this
theorem lawJ_ok {l v s n : Nat} {y2 y5 y8 y9 y10 y11 y12 : Option D} (h63 : ns.length ≤ 63) (T : Tab rows w) (hw : w ≤ 100) (h64 : rows.length < 64) (hfu : rows.length < fu) (h : Both rows w l v s n S) (hn : n < 9000) :
    ∃ S' y8' y9' y10' y11' y12', lawJ fu [some (.scr ns), some (.loc 0), y2, some (.int w), some (.tup (rows.map rowD)), y5, some (.loc l), some (.loc s), y8, y9, y10, y11, y12] S = .ok .next [some (.scr ns), some (.loc 0), y2, some (.int w), some (.tup (rows.map rowD)), y5, some (.loc l), some (.loc s), y8', y9', y10', y11', y12'] S' ∧ Both rows w l v s (n + 4) S' := by
  obtain ⟨⟨lv, m, hk, W, hs⟩, tw, h1, h2, h3, h4, h5⟩ := h
  obtain ⟨i, d, S1, hd, tw1, d1, e1⟩ := pick_tw (seq := .lst (wordsL.map D.str)) (xs := wordsL.map D.str) h63 tw (by omega) (.inl rfl) (by simp [wordsL]) (fun k => rfl)
  obtain ⟨word, rfl, hword⟩ := word_at hd
  obtain ⟨x, S2, hx, tw2, d2, e2⟩ := draw_tw (many := 6) h63 tw1 (by omega) (by decide)
  have k2 : Lk S2 l v rows lv m := Lk.away hk ((d2.other h1).trans (d1.other h1)) ((d2.other h2).trans (d1.other h2))
  have s2 : S2[s]? = some (.dct (sdD (pathOf rows lv) (endB lv) m)) := ((d2.other h3).trans (d1.other h3)).trans hs
  obtain ⟨r, lv', m', ea, em, W', hr⟩ := deed_any (fu := fu) (z := (x : Int) - 1) hword k2 T W s2 h4 h5 (by omega) h64 hfu
  have l90 : lv'.length ≤ 90000 := by have := W'.len; omega
  have k3 := k2.mv lv' m' l90
  let S3 := List.set (mvS S2 l v rows lv' m') s (.dct (sdD (pathOf rows lv') (endB lv') m'))
  have k4 : Lk S3 l v rows lv' m' := Lk.away k3 (List.getElem?_set_ne h4) (List.getElem?_set_ne h5)
  have hs3 : S3[s]? = some (.dct (sdD (pathOf rows lv') (endB lv') m')) := by
    have : (mvS S2 l v rows lv' m')[s]? = some (.dct (sdD (pathOf rows lv) (endB lv) m)) := by rw [mvS_other h4 h5]; exact s2
    exact gs this _
  have tw3 : Twn 0 (n + 4) S3 := by
    obtain ⟨ts, a, b⟩ := tw2
    refine ⟨ts, a, ?_⟩
    show (List.set (mvS S2 l v rows lv' m') s _)[0]? = _
    rw [List.getElem?_set_ne h3, mvS_other (Ne.symm h1) (Ne.symm h2)]
    exact b
  refine ⟨S3, some (.lst (wordsL.map D.str)), some (.str word), some (deedD word ((x : Int) - 1)), some (.int lv'.length), some (.tup [.bl (endB lv'), .int lv'.length, rowD (pathOf rows lv'), .int m']), ?_, ⟨lv', m', k4, W', hs3⟩, tw3, h1, h2, h3, h4, h5⟩
  have es := res_same hr S3
  have f1 := end_ok k4
  have f2 := depth_ok k4
  have f3 := place_any T k4 W'
  have f4 := looks_ok k4
  have g1 := sd_path hs3
  have g2 := sd_ended hs3
  have g3 := sd_looks hs3
  have dp := deep_any T W'
  have sm : FSame 4 [.tup [.bl (endB lv'), .int lv'.length, rowD (pathOf rows lv'), .int m'], .tup [.bl (endB lv'), .int lv'.length, rowD (pathOf rows lv'), .int m']] S3 = .ok (.bl true) S3 := by
    have hp : pt 3 (.tup [.bl (endB lv'), .int lv'.length, rowD (pathOf rows lv'), .int m']) = true := by
      show (true && (true && (pt 2 (rowD (pathOf rows lv')) && (true && true)))) = true
      rw [pt_rowD]
      rfl
    have := same_ok (S := S3) 4 3 (by decide) _ _ hp hp
    rw [decide_eq_true rfl] at this
    exact this
  have ew : (D.lst (wordsL.map D.str)) = .lst [.str "opened", .str "opened", .str "opened", .str "up", .str "key", .str "further", .str "further", .str "reach", .str "reach"] := rfl
  have ea' : F__law_acted fu [.loc l, .tup [.str word, .int ((x : Int) - 1)]] S2 = _ := ea
  have em' : F__law_moved fu [.tup (rows.map rowD), .loc s, .tup [.str word, .int ((x : Int) - 1)]] (mvS S2 l v rows lv' m') = .ok r S3 := em
  rw [ew] at e1 ⊢
  unfold lawJ deedD
  have o4 := k4.o
  generalize S3 = SX at *
  generalize mvS S2 l v rows lv' m' = SY at *
  simp [e1, e2, ea', em', es, g1, g2, g3, f1, f2, f3, f4, o4, mth_at_end, mth_depth, mth_place, mth_looks, len_row, dp, sm, intD]
theorem lawB_ok {n : Nat} {y2 y3 y4 y5 y6 y7 y8 y9 y10 y11 y12 : Option D} (h63 : ns.length ≤ 63) (tw : Twn 0 n S) (hnn : n < 8000) (hfu : 40 < fu) :
    ∃ S' y3' y4' y5' y6' y7' y8' y9' y10' y11' y12', lawB fu [some (.scr ns), some (.loc 0), y2, y3, y4, y5, y6, y7, y8, y9, y10, y11, y12] S = .ok .next [some (.scr ns), some (.loc 0), y2, y3', y4', y5', y6', y7', y8', y9', y10', y11', y12'] S' ∧ Twn 0 (n + 200) S' := by
  obtain ⟨x, S1, hx, tw1, d1, e1⟩ := draw_tw (many := 3) h63 tw (by omega) (by decide)
  obtain ⟨w, hw⟩ : ∃ w : Nat, 1 + (x : Int) = w := ⟨1 + x, by omega⟩
  obtain ⟨i, d, S2, hd, tw2, d2, e2⟩ := pick_tw (seq := .lst [.int 0, .int 3, .int 12]) (xs := [.int 0, .int 3, .int 12]) h63 tw1 (by omega) (.inl rfl) (by simp) (fun _ => rfl)
  obtain ⟨most, rfl, hf⟩ : ∃ most : Nat, d = .int most ∧ most ≤ 12 := by
    match i, hd with
    | 0, hd => exact ⟨0, by cases hd; rfl, by decide⟩
    | 1, hd => exact ⟨3, by cases hd; rfl, by decide⟩
    | 2, hd => exact ⟨12, by cases hd; rfl, by decide⟩
    | i + 3, hd => simp at hd
  have hle : 2 * w * most ≤ 72 := by
    have : 2 * w * most ≤ 6 * 12 := Nat.mul_le_mul (by omega) hf
    omega
  obtain ⟨rows, S3, hl, hr, hsr, tw3, d3, e3⟩ := rows_ok (width := w) (most := most) (far := 4) h63 (by omega) (by omega) (by decide) tw2 (by omega) (by omega)
  have T : Tab rows w := ⟨fun r h => (hr r h).1, hsr⟩
  obtain ⟨em, k1⟩ := makeL_ok S3 rows (by omega)
  have h0 : 0 < S3.length := by
    obtain ⟨ts, _, b⟩ := tw3
    exact (List.getElem?_eq_some_iff.mp b).1
  let S4 := S3 ++ [.ins "Looker" (lkF rows (S3.length + 1) 0), .lst []] ++ [.dct (sdD [] false 0)]
  have b4 : Both rows w S3.length (S3.length + 1) (S3.length + 2) (n + 80) S4 := by
    refine ⟨⟨[], 0, k1.app _, Ways.nil, ?_⟩, ?_, by omega, by omega, by omega, by omega, by omega⟩
    · show (S3 ++ [.ins "Looker" (lkF rows (S3.length + 1) 0), .lst []] ++ [.dct (sdD [] false 0)])[S3.length + 2]? = _
      rw [List.getElem?_append_right (by simp)]
      simp
      rfl
    · obtain ⟨ts, a, b⟩ := tw3
      refine ⟨ts, by omega, ?_⟩
      show (S3 ++ [.ins "Looker" (lkF rows (S3.length + 1) 0), .lst []] ++ [.dct (sdD [] false 0)])[0]? = _
      rw [List.append_assoc, List.getElem?_append_left h0]
      exact b
  obtain ⟨r5, S5, e5, y5', y8', y9', y10', y11', y12', rfl, hB⟩ := loop_inv (gm := tgN 5) (b := lawJ fu)
    (fun i r S' => ∃ (y5 y8 y9 y10 y11 y12 : Option D), r = [some (.scr ns), some (.loc 0), y2, some (.int w), some (.tup (rows.map rowD)), y5, some (.loc S3.length), some (.loc (S3.length + 2)), y8, y9, y10, y11, y12] ∧ Both rows w S3.length (S3.length + 1) (S3.length + 2) (n + 80 + 4 * i) S') (rng 0 24) 0 [some (.scr ns), some (.loc 0), y2, some (.int w), some (.tup (rows.map rowD)), y5, some (.loc S3.length), some (.loc (S3.length + 2)), y8, y9, y10, y11, y12] S4 (fun i d r S1 hd hi => by
      obtain ⟨hi2, rfl⟩ := rng0_get hd
      obtain ⟨y5, y8, y9, y10, y11, y12, rfl, hB⟩ := hi
      obtain ⟨S', y8', y9', y10', y11', y12', e, hB'⟩ := lawJ_ok (fu := fu) (y2 := y2) (y5 := some (.int i)) (y8 := y8) (y9 := y9) (y10 := y10) (y11 := y11) (y12 := y12) h63 T (by omega) (by omega) (by omega) hB (by omega)
      refine ⟨_, _, S', rfl, .inl e, _, _, _, _, _, _, rfl, ?_⟩
      have e4 : n + 80 + 4 * (0 + i) + 4 = n + 80 + 4 * (0 + i + 1) := by omega
      rw [← e4]
      exact hB') ⟨y5, y8, y9, y10, y11, y12, rfl, b4⟩
  refine ⟨S5, some (.int w), some (.tup (rows.map rowD)), y5', some (.loc S3.length), some (.loc (S3.length + 2)), y8', y9', y10', y11', y12', ?_, hB.tw.mono (by simp [rng])⟩
  have e3' : FRows [.scr ns, .loc 0, .int w, .int most, .int 4] S2 = .ok (.tup (rows.map rowD)) S3 := e3
  have em' : FInitL [.loc S3.length, .tup (rows.map rowD)] (S3 ++ [.ins "Looker" []]) = .ok .non (S3 ++ [.ins "Looker" (lkF rows (S3.length + 1) 0), .lst []]) := em
  have ez : mergeKD [] [((Sum.inr "path" : Key), D.tup []), (.inr "ended", .bl false), (.inr "looks", .int 0)] = sdD [] false 0 := rfl
  have hl4 : (S3 ++ [O.ins "Looker" (lkF rows (S3.length + 1) 0), .lst []]).length = S3.length + 2 := by simp
  have e5' : sLoop (tgN 5) (lawJ fu) (rng 0 24) [some (.scr ns), some (.loc 0), y2, some (.int w), some (.tup (rows.map rowD)), y5, some (.loc S3.length), some (.loc (S3.length + 2)), y8, y9, y10, y11, y12] (S3 ++ [.ins "Looker" (lkF rows (S3.length + 1) 0), .lst []] ++ [.dct (sdD [] false 0)]) = _ := e5
  unfold lawB
  generalize S3 ++ [.ins "Looker" (lkF rows (S3.length + 1) 0), .lst []] = SZ at *
  simp [e1, hw, e2, e3', em', nox, dFin, ez, hl4, e5']
end
theorem law_true (ns : List Int) (h : ns.length ≤ 63) : ∃ fu S, F_law fu [.scr ns] [] = .ok (.bl true) S := by
  refine ⟨50, ?_⟩
  obtain ⟨r', S', e, y2, y3, y4, y5, y6, y7, y8, y9, y10, y11, y12, rfl, tw⟩ := loop_inv (gm := tgN 2) (b := lawB 50)
    (fun i r S' => ∃ y2 y3 y4 y5 y6 y7 y8 y9 y10 y11 y12, r = [some (.scr ns), some (.loc 0), y2, y3, y4, y5, y6, y7, y8, y9, y10, y11, y12] ∧ Twn 0 (200 * i) S') (rng 0 4) 0 [some (.scr ns), some (.loc 0), none, none, none, none, none, none, none, none, none, none, none] [.lst []] (fun i d r S1 hd hi => by
      obtain ⟨hi2, rfl⟩ := rng0_get hd
      obtain ⟨y2, y3, y4, y5, y6, y7, y8, y9, y10, y11, y12, rfl, tw⟩ := hi
      obtain ⟨S', y3', y4', y5', y6', y7', y8', y9', y10', y11', y12', e, tw'⟩ := lawB_ok (y2 := some (.int i)) (y3 := y3) (y4 := y4) (y5 := y5) (y6 := y6) (y7 := y7) (y8 := y8) (y9 := y9) (y10 := y10) (y11 := y11) (y12 := y12) h tw (by omega) (show 40 < 50 by decide)
      exact ⟨_, _, S', rfl, .inl e, _, _, _, _, _, _, _, _, _, _, _, rfl, tw'.mono (by omega)⟩) ⟨_, _, _, _, _, _, _, _, _, _, _, rfl, [], by simp, rfl⟩
  refine ⟨[], ?_⟩
  show finT [] (m_law 50 (frame 13 _) []) = _
  rw [show frame 13 [.scr ns] = [some (.scr ns), none, none, none, none, none, none, none, none, none, none, none, none] from rfl, law_eq]
  have eb : ∃ rho, (sSeq (sSet 1 (mNewL mNil)) (sSeq (sFor (mRng1 (mCons (mC (.int 4)) mNil)) (tgN 2) (lawB 50)) (sRet (mC (.bl true))))) [some (.scr ns), none, none, none, none, none, none, none, none, none, none, none, none] [] = .ok (.ret (.bl true)) rho ([] ++ S') := by
    simp [e]
  obtain ⟨rho, eb⟩ := eb
  rw [eb]
  exact fin_ret_app S' rfl
end Law
namespace Law
open PySem L2 Dv
set_option maxHeartbeats 0 in
theorem all_mk {l : PySem.W.OpenLaw} {w : World} {K : PySem.W.Frag} {h : Heap} {mg : Str → Option Value} {fa a__law_draw a__law_drawn_rows a__law_pick a_Looker___init__ a__law_same a_Looker_at_end a_Looker_depth a_Looker_place a_Looker_looks a_first_at a_Looker_behind a_Looker_key a_Looker_opened a__law_word a_Looker_up a_Looker_go_to a_Looker_further a_Looker_reach a__law_acted a__law_trie a__law_moved a_law C_Looker C_NoDeeper C_NoUp C_NoKey C_RowError : Addr} (X : K.In h) (G : h.Ns mainGlobals mg) (hfa : mg "law" = some (.ref fa))
    {oc__law_draw kV__law_draw dc__law_draw pm__law_draw cd__law_draw ct__law_draw : Value} {od__law_draw an__law_draw : Option Addr} {sl__law_draw : Array (Option Value)}
    {oc__law_drawn_rows kV__law_drawn_rows dc__law_drawn_rows pm__law_drawn_rows cd__law_drawn_rows ct__law_drawn_rows : Value} {od__law_drawn_rows an__law_drawn_rows : Option Addr} {sl__law_drawn_rows : Array (Option Value)}
    {oc__law_pick kV__law_pick dc__law_pick pm__law_pick cd__law_pick ct__law_pick : Value} {od__law_pick an__law_pick : Option Addr} {sl__law_pick : Array (Option Value)}
    {oc_Looker___init__ kV_Looker___init__ dc_Looker___init__ pm_Looker___init__ cd_Looker___init__ ct_Looker___init__ : Value} {od_Looker___init__ an_Looker___init__ : Option Addr} {sl_Looker___init__ : Array (Option Value)}
    {oc__law_same kV__law_same dc__law_same pm__law_same cd__law_same ct__law_same : Value} {od__law_same an__law_same : Option Addr} {sl__law_same : Array (Option Value)}
    {oc_Looker_at_end kV_Looker_at_end dc_Looker_at_end pm_Looker_at_end cd_Looker_at_end ct_Looker_at_end : Value} {od_Looker_at_end an_Looker_at_end : Option Addr} {sl_Looker_at_end : Array (Option Value)}
    {oc_Looker_depth kV_Looker_depth dc_Looker_depth pm_Looker_depth cd_Looker_depth ct_Looker_depth : Value} {od_Looker_depth an_Looker_depth : Option Addr} {sl_Looker_depth : Array (Option Value)}
    {oc_Looker_place kV_Looker_place dc_Looker_place pm_Looker_place cd_Looker_place ct_Looker_place : Value} {od_Looker_place an_Looker_place : Option Addr} {sl_Looker_place : Array (Option Value)}
    {oc_Looker_looks kV_Looker_looks dc_Looker_looks pm_Looker_looks cd_Looker_looks ct_Looker_looks : Value} {od_Looker_looks an_Looker_looks : Option Addr} {sl_Looker_looks : Array (Option Value)}
    {oc_first_at kV_first_at dc_first_at pm_first_at cd_first_at ct_first_at : Value} {od_first_at an_first_at : Option Addr} {sl_first_at : Array (Option Value)}
    {oc_Looker_behind kV_Looker_behind dc_Looker_behind pm_Looker_behind cd_Looker_behind ct_Looker_behind : Value} {od_Looker_behind an_Looker_behind : Option Addr} {sl_Looker_behind : Array (Option Value)}
    {oc_Looker_key kV_Looker_key dc_Looker_key pm_Looker_key cd_Looker_key ct_Looker_key : Value} {od_Looker_key an_Looker_key : Option Addr} {sl_Looker_key : Array (Option Value)}
    {oc_Looker_opened kV_Looker_opened dc_Looker_opened pm_Looker_opened cd_Looker_opened ct_Looker_opened : Value} {od_Looker_opened an_Looker_opened : Option Addr} {sl_Looker_opened : Array (Option Value)}
    {oc__law_word kV__law_word dc__law_word pm__law_word cd__law_word ct__law_word : Value} {od__law_word an__law_word : Option Addr} {sl__law_word : Array (Option Value)}
    {oc_Looker_up kV_Looker_up dc_Looker_up pm_Looker_up cd_Looker_up ct_Looker_up : Value} {od_Looker_up an_Looker_up : Option Addr} {sl_Looker_up : Array (Option Value)}
    {oc_Looker_go_to kV_Looker_go_to dc_Looker_go_to pm_Looker_go_to cd_Looker_go_to ct_Looker_go_to : Value} {od_Looker_go_to an_Looker_go_to : Option Addr} {sl_Looker_go_to : Array (Option Value)}
    {oc_Looker_further kV_Looker_further dc_Looker_further pm_Looker_further cd_Looker_further ct_Looker_further : Value} {od_Looker_further an_Looker_further : Option Addr} {sl_Looker_further : Array (Option Value)}
    {oc_Looker_reach kV_Looker_reach dc_Looker_reach pm_Looker_reach cd_Looker_reach ct_Looker_reach : Value} {od_Looker_reach an_Looker_reach : Option Addr} {sl_Looker_reach : Array (Option Value)}
    {oc__law_acted kV__law_acted dc__law_acted pm__law_acted cd__law_acted ct__law_acted : Value} {od__law_acted an__law_acted : Option Addr} {sl__law_acted : Array (Option Value)}
    {oc__law_trie kV__law_trie dc__law_trie pm__law_trie cd__law_trie ct__law_trie : Value} {od__law_trie an__law_trie : Option Addr} {sl__law_trie : Array (Option Value)}
    {oc__law_moved kV__law_moved dc__law_moved pm__law_moved cd__law_moved ct__law_moved : Value} {od__law_moved an__law_moved : Option Addr} {sl__law_moved : Array (Option Value)}
    {oc_law kV_law dc_law pm_law cd_law ct_law : Value} {od_law an_law : Option Addr} {sl_law : Array (Option Value)}
    (aC_Looker : PySem.W.nsIn K mainGlobals "Looker" = some (some (.ref C_Looker)))
    (pg_Looker : PySem.W.plainGet K C_Looker Str.empty = true)
    (hd_Looker : PySem.W.hasDictIn K C_Looker = true)
    (po_Looker : PySem.W.plainOver K C_Looker = true)
    (sa_Looker : PySem.W.findIn K (.ref C_Looker) "__setattr__" = some (some (.builtin "object.__setattr__")))
    (mk_Looker : PySem.W.makesIn K C_Looker = true)
    (kc_Looker : PySem.W.keepIn K (.ref C_Looker) = true)
    (aC_NoDeeper : PySem.W.nsIn K mainGlobals "NoDeeper" = some (some (.ref C_NoDeeper)))
    (xq_NoDeeper : PySem.W.excIn K C_NoDeeper [.type "ValueError", .type "Exception", .type "BaseException", .type "object"] "ValueError.__new__" = true)
    (xk_NoDeeper : PySem.W.keepIn K (.ref C_NoDeeper) = true)
    (xb_NoDeeper : PySem.W.subIn K (.ref C_NoDeeper) (.type "BaseException") = some true)
    (xt_NoDeeper : PySem.W.typeIn K (.ref C_NoDeeper) = some (.type "type"))
    (xi_NoDeeper : PySem.W.isClsIn K C_NoDeeper = true)
    (xs_NoDeeper : PySem.W.subIn K (.ref C_NoDeeper) (.ref C_NoDeeper) = some true)
    (aC_NoUp : PySem.W.nsIn K mainGlobals "NoUp" = some (some (.ref C_NoUp)))
    (xq_NoUp : PySem.W.excIn K C_NoUp [.type "ValueError", .type "Exception", .type "BaseException", .type "object"] "ValueError.__new__" = true)
    (xk_NoUp : PySem.W.keepIn K (.ref C_NoUp) = true)
    (xb_NoUp : PySem.W.subIn K (.ref C_NoUp) (.type "BaseException") = some true)
    (xt_NoUp : PySem.W.typeIn K (.ref C_NoUp) = some (.type "type"))
    (xi_NoUp : PySem.W.isClsIn K C_NoUp = true)
    (xs_NoUp : PySem.W.subIn K (.ref C_NoUp) (.ref C_NoUp) = some true)
    (aC_NoKey : PySem.W.nsIn K mainGlobals "NoKey" = some (some (.ref C_NoKey)))
    (xq_NoKey : PySem.W.excIn K C_NoKey [.type "ValueError", .type "Exception", .type "BaseException", .type "object"] "ValueError.__new__" = true)
    (xk_NoKey : PySem.W.keepIn K (.ref C_NoKey) = true)
    (xb_NoKey : PySem.W.subIn K (.ref C_NoKey) (.type "BaseException") = some true)
    (xt_NoKey : PySem.W.typeIn K (.ref C_NoKey) = some (.type "type"))
    (xi_NoKey : PySem.W.isClsIn K C_NoKey = true)
    (xs_NoKey : PySem.W.subIn K (.ref C_NoKey) (.ref C_NoKey) = some true)
    (aC_RowError : PySem.W.nsIn K mainGlobals "RowError" = some (some (.ref C_RowError)))
    (xb_RowError : PySem.W.subIn K (.ref C_RowError) (.type "BaseException") = some true)
    (xt_RowError : PySem.W.typeIn K (.ref C_RowError) = some (.type "type"))
    (xi_RowError : PySem.W.isClsIn K C_RowError = true)
    (eg_NoDeeper : PySem.W.findIn K (.ref C_NoDeeper) "__getattribute__" = some (some (.builtin "BaseException.__getattribute__")))
    (ek_NoDeeper : PySem.W.findIn K (.ref C_NoDeeper) "__getattr__" = some none)
    (ed_NoDeeper : PySem.W.hasDictIn K C_NoDeeper = true)
    (ea_NoDeeper : PySem.W.findIn K (.ref C_NoDeeper) "__class__" = some (some (.builtin "object.__class__")))
    (em_NoDeeper : PySem.W.mroIn K C_NoDeeper (.type "object") = some true)
    (sw_NoDeeper_RowError : PySem.W.subIn K (.ref C_NoDeeper) (.ref C_RowError) = some true)
    (sk_NoDeeper_NoUp : PySem.W.subIn K (.ref C_NoDeeper) (.ref C_NoUp) = some false)
    (ne_NoDeeper_NoUp : (Value.ref C_NoDeeper == Value.ref C_NoUp) = false)
    (sk_NoDeeper_NoKey : PySem.W.subIn K (.ref C_NoDeeper) (.ref C_NoKey) = some false)
    (ne_NoDeeper_NoKey : (Value.ref C_NoDeeper == Value.ref C_NoKey) = false)
    (eg_NoUp : PySem.W.findIn K (.ref C_NoUp) "__getattribute__" = some (some (.builtin "BaseException.__getattribute__")))
    (ek_NoUp : PySem.W.findIn K (.ref C_NoUp) "__getattr__" = some none)
    (ed_NoUp : PySem.W.hasDictIn K C_NoUp = true)
    (ea_NoUp : PySem.W.findIn K (.ref C_NoUp) "__class__" = some (some (.builtin "object.__class__")))
    (em_NoUp : PySem.W.mroIn K C_NoUp (.type "object") = some true)
    (sw_NoUp_RowError : PySem.W.subIn K (.ref C_NoUp) (.ref C_RowError) = some true)
    (sk_NoUp_NoDeeper : PySem.W.subIn K (.ref C_NoUp) (.ref C_NoDeeper) = some false)
    (ne_NoUp_NoDeeper : (Value.ref C_NoUp == Value.ref C_NoDeeper) = false)
    (sk_NoUp_NoKey : PySem.W.subIn K (.ref C_NoUp) (.ref C_NoKey) = some false)
    (ne_NoUp_NoKey : (Value.ref C_NoUp == Value.ref C_NoKey) = false)
    (eg_NoKey : PySem.W.findIn K (.ref C_NoKey) "__getattribute__" = some (some (.builtin "BaseException.__getattribute__")))
    (ek_NoKey : PySem.W.findIn K (.ref C_NoKey) "__getattr__" = some none)
    (ed_NoKey : PySem.W.hasDictIn K C_NoKey = true)
    (ea_NoKey : PySem.W.findIn K (.ref C_NoKey) "__class__" = some (some (.builtin "object.__class__")))
    (em_NoKey : PySem.W.mroIn K C_NoKey (.type "object") = some true)
    (sw_NoKey_RowError : PySem.W.subIn K (.ref C_NoKey) (.ref C_RowError) = some true)
    (sk_NoKey_NoDeeper : PySem.W.subIn K (.ref C_NoKey) (.ref C_NoDeeper) = some false)
    (ne_NoKey_NoDeeper : (Value.ref C_NoKey == Value.ref C_NoDeeper) = false)
    (sk_NoKey_NoUp : PySem.W.subIn K (.ref C_NoKey) (.ref C_NoUp) = some false)
    (ne_NoKey_NoUp : (Value.ref C_NoKey == Value.ref C_NoUp) = false)
    (en_ : PySem.W.specialIn K (.builtin "object.__class__") "__get__" = some (some (.builtin "getset_descriptor.__get__")))
    (et_ : PySem.W.takesIn K (.builtin "object.__class__") = some true)
    (a1__law_draw : PySem.W.nsIn K mainGlobals "_law_draw" = some (some (.ref a__law_draw)))
    (l1__law_draw : K.lookup a__law_draw = some ⟨oc__law_draw, od__law_draw, .func (PySem.W.fnOf "_law_draw" "_law_draw" (defArgs s__law_draw) (defBody s__law_draw) (defScope s__law_draw) .none kV__law_draw dc__law_draw pm__law_draw an__law_draw cd__law_draw ct__law_draw), sl__law_draw⟩)
    (c1__law_draw : PySem.W.codeIn K cd__law_draw "_law_draw" = true)
    (k1__law_draw : PySem.W.keepIn K (.ref a__law_draw) = true)
    (a1__law_drawn_rows : PySem.W.nsIn K mainGlobals "_law_drawn_rows" = some (some (.ref a__law_drawn_rows)))
    (l1__law_drawn_rows : K.lookup a__law_drawn_rows = some ⟨oc__law_drawn_rows, od__law_drawn_rows, .func (PySem.W.fnOf "_law_drawn_rows" "_law_drawn_rows" (defArgs s__law_drawn_rows) (defBody s__law_drawn_rows) (defScope s__law_drawn_rows) .none kV__law_drawn_rows dc__law_drawn_rows pm__law_drawn_rows an__law_drawn_rows cd__law_drawn_rows ct__law_drawn_rows), sl__law_drawn_rows⟩)
    (c1__law_drawn_rows : PySem.W.codeIn K cd__law_drawn_rows "_law_drawn_rows" = true)
    (k1__law_drawn_rows : PySem.W.keepIn K (.ref a__law_drawn_rows) = true)
    (a1__law_pick : PySem.W.nsIn K mainGlobals "_law_pick" = some (some (.ref a__law_pick)))
    (l1__law_pick : K.lookup a__law_pick = some ⟨oc__law_pick, od__law_pick, .func (PySem.W.fnOf "_law_pick" "_law_pick" (defArgs s__law_pick) (defBody s__law_pick) (defScope s__law_pick) .none kV__law_pick dc__law_pick pm__law_pick an__law_pick cd__law_pick ct__law_pick), sl__law_pick⟩)
    (c1__law_pick : PySem.W.codeIn K cd__law_pick "_law_pick" = true)
    (k1__law_pick : PySem.W.keepIn K (.ref a__law_pick) = true)
    (a1_Looker___init__ : PySem.W.findIn K (.ref C_Looker) "__init__" = some (some (.ref a_Looker___init__)))
    (i1_Looker___init__ : PySem.W.isFn K (.ref a_Looker___init__) = true)
    (l1_Looker___init__ : K.lookup a_Looker___init__ = some ⟨oc_Looker___init__, od_Looker___init__, .func (PySem.W.fnOf "__init__" "Looker.__init__" (defArgs s_Looker___init__) (defBody s_Looker___init__) (defScope s_Looker___init__) .none kV_Looker___init__ dc_Looker___init__ pm_Looker___init__ an_Looker___init__ cd_Looker___init__ ct_Looker___init__), sl_Looker___init__⟩)
    (c1_Looker___init__ : PySem.W.codeIn K cd_Looker___init__ "Looker.__init__" = true)
    (k1_Looker___init__ : PySem.W.keepIn K (.ref a_Looker___init__) = true)
    (a1__law_same : PySem.W.nsIn K mainGlobals "_law_same" = some (some (.ref a__law_same)))
    (l1__law_same : K.lookup a__law_same = some ⟨oc__law_same, od__law_same, .func (PySem.W.fnOf "_law_same" "_law_same" (defArgs s__law_same) (defBody s__law_same) (defScope s__law_same) .none kV__law_same dc__law_same pm__law_same an__law_same cd__law_same ct__law_same), sl__law_same⟩)
    (c1__law_same : PySem.W.codeIn K cd__law_same "_law_same" = true)
    (k1__law_same : PySem.W.keepIn K (.ref a__law_same) = true)
    (a1_Looker_at_end : PySem.W.findIn K (.ref C_Looker) "at_end" = some (some (.ref a_Looker_at_end)))
    (i1_Looker_at_end : PySem.W.isFn K (.ref a_Looker_at_end) = true)
    (l1_Looker_at_end : K.lookup a_Looker_at_end = some ⟨oc_Looker_at_end, od_Looker_at_end, .func (PySem.W.fnOf "at_end" "Looker.at_end" (defArgs s_Looker_at_end) (defBody s_Looker_at_end) (defScope s_Looker_at_end) .none kV_Looker_at_end dc_Looker_at_end pm_Looker_at_end an_Looker_at_end cd_Looker_at_end ct_Looker_at_end), sl_Looker_at_end⟩)
    (c1_Looker_at_end : PySem.W.codeIn K cd_Looker_at_end "Looker.at_end" = true)
    (k1_Looker_at_end : PySem.W.keepIn K (.ref a_Looker_at_end) = true)
    (a1_Looker_depth : PySem.W.findIn K (.ref C_Looker) "depth" = some (some (.ref a_Looker_depth)))
    (i1_Looker_depth : PySem.W.isFn K (.ref a_Looker_depth) = true)
    (l1_Looker_depth : K.lookup a_Looker_depth = some ⟨oc_Looker_depth, od_Looker_depth, .func (PySem.W.fnOf "depth" "Looker.depth" (defArgs s_Looker_depth) (defBody s_Looker_depth) (defScope s_Looker_depth) .none kV_Looker_depth dc_Looker_depth pm_Looker_depth an_Looker_depth cd_Looker_depth ct_Looker_depth), sl_Looker_depth⟩)
    (c1_Looker_depth : PySem.W.codeIn K cd_Looker_depth "Looker.depth" = true)
    (k1_Looker_depth : PySem.W.keepIn K (.ref a_Looker_depth) = true)
    (a1_Looker_place : PySem.W.findIn K (.ref C_Looker) "place" = some (some (.ref a_Looker_place)))
    (i1_Looker_place : PySem.W.isFn K (.ref a_Looker_place) = true)
    (l1_Looker_place : K.lookup a_Looker_place = some ⟨oc_Looker_place, od_Looker_place, .func (PySem.W.fnOf "place" "Looker.place" (defArgs s_Looker_place) (defBody s_Looker_place) (defScope s_Looker_place) .none kV_Looker_place dc_Looker_place pm_Looker_place an_Looker_place cd_Looker_place ct_Looker_place), sl_Looker_place⟩)
    (c1_Looker_place : PySem.W.codeIn K cd_Looker_place "Looker.place" = true)
    (k1_Looker_place : PySem.W.keepIn K (.ref a_Looker_place) = true)
    (a1_Looker_looks : PySem.W.findIn K (.ref C_Looker) "looks" = some (some (.ref a_Looker_looks)))
    (i1_Looker_looks : PySem.W.isFn K (.ref a_Looker_looks) = true)
    (l1_Looker_looks : K.lookup a_Looker_looks = some ⟨oc_Looker_looks, od_Looker_looks, .func (PySem.W.fnOf "looks" "Looker.looks" (defArgs s_Looker_looks) (defBody s_Looker_looks) (defScope s_Looker_looks) .none kV_Looker_looks dc_Looker_looks pm_Looker_looks an_Looker_looks cd_Looker_looks ct_Looker_looks), sl_Looker_looks⟩)
    (c1_Looker_looks : PySem.W.codeIn K cd_Looker_looks "Looker.looks" = true)
    (k1_Looker_looks : PySem.W.keepIn K (.ref a_Looker_looks) = true)
    (a1_first_at : PySem.W.nsIn K mainGlobals "first_at" = some (some (.ref a_first_at)))
    (l1_first_at : K.lookup a_first_at = some ⟨oc_first_at, od_first_at, .func (PySem.W.fnOf "first_at" "first_at" (defArgs s_first_at) (defBody s_first_at) (defScope s_first_at) .none kV_first_at dc_first_at pm_first_at an_first_at cd_first_at ct_first_at), sl_first_at⟩)
    (c1_first_at : PySem.W.codeIn K cd_first_at "first_at" = true)
    (k1_first_at : PySem.W.keepIn K (.ref a_first_at) = true)
    (a1_Looker_behind : PySem.W.findIn K (.ref C_Looker) "behind" = some (some (.ref a_Looker_behind)))
    (i1_Looker_behind : PySem.W.isFn K (.ref a_Looker_behind) = true)
    (l1_Looker_behind : K.lookup a_Looker_behind = some ⟨oc_Looker_behind, od_Looker_behind, .func (PySem.W.fnOf "behind" "Looker.behind" (defArgs s_Looker_behind) (defBody s_Looker_behind) (defScope s_Looker_behind) .none kV_Looker_behind dc_Looker_behind pm_Looker_behind an_Looker_behind cd_Looker_behind ct_Looker_behind), sl_Looker_behind⟩)
    (c1_Looker_behind : PySem.W.codeIn K cd_Looker_behind "Looker.behind" = true)
    (k1_Looker_behind : PySem.W.keepIn K (.ref a_Looker_behind) = true)
    (a1_Looker_key : PySem.W.findIn K (.ref C_Looker) "key" = some (some (.ref a_Looker_key)))
    (i1_Looker_key : PySem.W.isFn K (.ref a_Looker_key) = true)
    (l1_Looker_key : K.lookup a_Looker_key = some ⟨oc_Looker_key, od_Looker_key, .func (PySem.W.fnOf "key" "Looker.key" (defArgs s_Looker_key) (defBody s_Looker_key) (defScope s_Looker_key) .none kV_Looker_key dc_Looker_key pm_Looker_key an_Looker_key cd_Looker_key ct_Looker_key), sl_Looker_key⟩)
    (c1_Looker_key : PySem.W.codeIn K cd_Looker_key "Looker.key" = true)
    (k1_Looker_key : PySem.W.keepIn K (.ref a_Looker_key) = true)
    (a1_Looker_opened : PySem.W.findIn K (.ref C_Looker) "opened" = some (some (.ref a_Looker_opened)))
    (i1_Looker_opened : PySem.W.isFn K (.ref a_Looker_opened) = true)
    (l1_Looker_opened : K.lookup a_Looker_opened = some ⟨oc_Looker_opened, od_Looker_opened, .func (PySem.W.fnOf "opened" "Looker.opened" (defArgs s_Looker_opened) (defBody s_Looker_opened) (defScope s_Looker_opened) .none kV_Looker_opened dc_Looker_opened pm_Looker_opened an_Looker_opened cd_Looker_opened ct_Looker_opened), sl_Looker_opened⟩)
    (c1_Looker_opened : PySem.W.codeIn K cd_Looker_opened "Looker.opened" = true)
    (k1_Looker_opened : PySem.W.keepIn K (.ref a_Looker_opened) = true)
    (a1__law_word : PySem.W.nsIn K mainGlobals "_law_word" = some (some (.ref a__law_word)))
    (l1__law_word : K.lookup a__law_word = some ⟨oc__law_word, od__law_word, .func (PySem.W.fnOf "_law_word" "_law_word" (defArgs s__law_word) (defBody s__law_word) (defScope s__law_word) .none kV__law_word dc__law_word pm__law_word an__law_word cd__law_word ct__law_word), sl__law_word⟩)
    (c1__law_word : PySem.W.codeIn K cd__law_word "_law_word" = true)
    (k1__law_word : PySem.W.keepIn K (.ref a__law_word) = true)
    (a1_Looker_up : PySem.W.findIn K (.ref C_Looker) "up" = some (some (.ref a_Looker_up)))
    (i1_Looker_up : PySem.W.isFn K (.ref a_Looker_up) = true)
    (l1_Looker_up : K.lookup a_Looker_up = some ⟨oc_Looker_up, od_Looker_up, .func (PySem.W.fnOf "up" "Looker.up" (defArgs s_Looker_up) (defBody s_Looker_up) (defScope s_Looker_up) .none kV_Looker_up dc_Looker_up pm_Looker_up an_Looker_up cd_Looker_up ct_Looker_up), sl_Looker_up⟩)
    (c1_Looker_up : PySem.W.codeIn K cd_Looker_up "Looker.up" = true)
    (k1_Looker_up : PySem.W.keepIn K (.ref a_Looker_up) = true)
    (a1_Looker_go_to : PySem.W.findIn K (.ref C_Looker) "go_to" = some (some (.ref a_Looker_go_to)))
    (i1_Looker_go_to : PySem.W.isFn K (.ref a_Looker_go_to) = true)
    (l1_Looker_go_to : K.lookup a_Looker_go_to = some ⟨oc_Looker_go_to, od_Looker_go_to, .func (PySem.W.fnOf "go_to" "Looker.go_to" (defArgs s_Looker_go_to) (defBody s_Looker_go_to) (defScope s_Looker_go_to) .none kV_Looker_go_to dc_Looker_go_to pm_Looker_go_to an_Looker_go_to cd_Looker_go_to ct_Looker_go_to), sl_Looker_go_to⟩)
    (c1_Looker_go_to : PySem.W.codeIn K cd_Looker_go_to "Looker.go_to" = true)
    (k1_Looker_go_to : PySem.W.keepIn K (.ref a_Looker_go_to) = true)
    (a1_Looker_further : PySem.W.findIn K (.ref C_Looker) "further" = some (some (.ref a_Looker_further)))
    (i1_Looker_further : PySem.W.isFn K (.ref a_Looker_further) = true)
    (l1_Looker_further : K.lookup a_Looker_further = some ⟨oc_Looker_further, od_Looker_further, .func (PySem.W.fnOf "further" "Looker.further" (defArgs s_Looker_further) (defBody s_Looker_further) (defScope s_Looker_further) .none kV_Looker_further dc_Looker_further pm_Looker_further an_Looker_further cd_Looker_further ct_Looker_further), sl_Looker_further⟩)
    (c1_Looker_further : PySem.W.codeIn K cd_Looker_further "Looker.further" = true)
    (k1_Looker_further : PySem.W.keepIn K (.ref a_Looker_further) = true)
    (a1_Looker_reach : PySem.W.findIn K (.ref C_Looker) "reach" = some (some (.ref a_Looker_reach)))
    (i1_Looker_reach : PySem.W.isFn K (.ref a_Looker_reach) = true)
    (l1_Looker_reach : K.lookup a_Looker_reach = some ⟨oc_Looker_reach, od_Looker_reach, .func (PySem.W.fnOf "reach" "Looker.reach" (defArgs s_Looker_reach) (defBody s_Looker_reach) (defScope s_Looker_reach) .none kV_Looker_reach dc_Looker_reach pm_Looker_reach an_Looker_reach cd_Looker_reach ct_Looker_reach), sl_Looker_reach⟩)
    (c1_Looker_reach : PySem.W.codeIn K cd_Looker_reach "Looker.reach" = true)
    (k1_Looker_reach : PySem.W.keepIn K (.ref a_Looker_reach) = true)
    (a1__law_acted : PySem.W.nsIn K mainGlobals "_law_acted" = some (some (.ref a__law_acted)))
    (l1__law_acted : K.lookup a__law_acted = some ⟨oc__law_acted, od__law_acted, .func (PySem.W.fnOf "_law_acted" "_law_acted" (defArgs s__law_acted) (defBody s__law_acted) (defScope s__law_acted) .none kV__law_acted dc__law_acted pm__law_acted an__law_acted cd__law_acted ct__law_acted), sl__law_acted⟩)
    (c1__law_acted : PySem.W.codeIn K cd__law_acted "_law_acted" = true)
    (k1__law_acted : PySem.W.keepIn K (.ref a__law_acted) = true)
    (a1__law_trie : PySem.W.nsIn K mainGlobals "_law_trie" = some (some (.ref a__law_trie)))
    (l1__law_trie : K.lookup a__law_trie = some ⟨oc__law_trie, od__law_trie, .func (PySem.W.fnOf "_law_trie" "_law_trie" (defArgs s__law_trie) (defBody s__law_trie) (defScope s__law_trie) .none kV__law_trie dc__law_trie pm__law_trie an__law_trie cd__law_trie ct__law_trie), sl__law_trie⟩)
    (c1__law_trie : PySem.W.codeIn K cd__law_trie "_law_trie" = true)
    (k1__law_trie : PySem.W.keepIn K (.ref a__law_trie) = true)
    (a1__law_moved : PySem.W.nsIn K mainGlobals "_law_moved" = some (some (.ref a__law_moved)))
    (l1__law_moved : K.lookup a__law_moved = some ⟨oc__law_moved, od__law_moved, .func (PySem.W.fnOf "_law_moved" "_law_moved" (defArgs s__law_moved) (defBody s__law_moved) (defScope s__law_moved) .none kV__law_moved dc__law_moved pm__law_moved an__law_moved cd__law_moved ct__law_moved), sl__law_moved⟩)
    (c1__law_moved : PySem.W.codeIn K cd__law_moved "_law_moved" = true)
    (k1__law_moved : PySem.W.keepIn K (.ref a__law_moved) = true)
    (a1_law : PySem.W.nsIn K mainGlobals "law" = some (some (.ref a_law)))
    (l1_law : K.lookup a_law = some ⟨oc_law, od_law, .func (PySem.W.fnOf "law" "law" (defArgs s_law) (defBody s_law) (defScope s_law) .none kV_law dc_law pm_law an_law cd_law ct_law), sl_law⟩)
    (c1_law : PySem.W.codeIn K cd_law "law" = true)
    (k1_law : PySem.W.keepIn K (.ref a_law) = true)
    (n1_Looker_levels : PySem.W.findIn K (.ref C_Looker) "levels" = some none)
    (n1_Looker_many : PySem.W.findIn K (.ref C_Looker) "many" = some none)
    (n1_Looker_rows : PySem.W.findIn K (.ref C_Looker) "rows" = some none)
    (z1_abs : PySem.W.nsIn K mainGlobals "abs" = some none)
    (z1_all : PySem.W.nsIn K mainGlobals "all" = some none)
    (z1_bool : PySem.W.nsIn K mainGlobals "bool" = some none)
    (z1_int : PySem.W.nsIn K mainGlobals "int" = some none)
    (z1_isinstance : PySem.W.nsIn K mainGlobals "isinstance" = some none)
    (z1_len : PySem.W.nsIn K mainGlobals "len" = some none)
    (z1_max : PySem.W.nsIn K mainGlobals "max" = some none)
    (z1_range : PySem.W.nsIn K mainGlobals "range" = some none)
    (z1_set : PySem.W.nsIn K mainGlobals "set" = some none)
    (z1_sorted : PySem.W.nsIn K mainGlobals "sorted" = some none)
    (z1_str : PySem.W.nsIn K mainGlobals "str" = some none)
    (z1_tuple : PySem.W.nsIn K mainGlobals "tuple" = some none)
    (z1_zip : PySem.W.nsIn K mainGlobals "zip" = some none)
    : ∃ fd : FuncData, (∀ (s : Shared) (v : Value), BindsTo s fd ⟨[v], []⟩ [("script", v)]) ∧ ∀ base : Heap, K.In base → base.Ns mainGlobals mg → FnOk l.prog w K mg base (L2.CX l.prog w) 6 fa fd ["script"] (spLaw K) := by
  have e := hfa.symm.trans (PySem.W.mg_of X G a1_law)
  cases e
  have F__law_draw := fun_mk (st := s__law_draw) l1__law_draw c1__law_draw k1__law_draw
  have b__law_draw : Binds K _ P__law_draw [] := F__law_draw.binds (ps := P__law_draw) fun _ _ _ _ _ _ us hl => match us, hl with | [_, _, _], _ => rfl
  have F__law_drawn_rows := fun_mk (st := s__law_drawn_rows) l1__law_drawn_rows c1__law_drawn_rows k1__law_drawn_rows
  have b__law_drawn_rows : Binds K _ P__law_drawn_rows [] := F__law_drawn_rows.binds (ps := P__law_drawn_rows) fun _ _ _ _ _ _ us hl => match us, hl with | [_, _, _, _, _], _ => rfl
  have F__law_pick := fun_mk (st := s__law_pick) l1__law_pick c1__law_pick k1__law_pick
  have b__law_pick : Binds K _ P__law_pick [] := F__law_pick.binds (ps := P__law_pick) fun _ _ _ _ _ _ us hl => match us, hl with | [_, _, _], _ => rfl
  have F_Looker___init__ := fun_mk (st := s_Looker___init__) l1_Looker___init__ c1_Looker___init__ k1_Looker___init__
  have b_Looker___init__ : Binds K _ P_Looker___init__ [] := F_Looker___init__.binds (ps := P_Looker___init__) fun _ _ _ _ _ _ us hl => match us, hl with | [_, _], _ => rfl
  have F__law_same := fun_mk (st := s__law_same) l1__law_same c1__law_same k1__law_same
  have b__law_same : Binds K _ P__law_same [] := F__law_same.binds (ps := P__law_same) fun _ _ _ _ _ _ us hl => match us, hl with | [_, _], _ => rfl
  have F_Looker_at_end := fun_mk (st := s_Looker_at_end) l1_Looker_at_end c1_Looker_at_end k1_Looker_at_end
  have b_Looker_at_end : Binds K _ P_Looker_at_end [] := F_Looker_at_end.binds (ps := P_Looker_at_end) fun _ _ _ _ _ _ us hl => match us, hl with | [_], _ => rfl
  have F_Looker_depth := fun_mk (st := s_Looker_depth) l1_Looker_depth c1_Looker_depth k1_Looker_depth
  have b_Looker_depth : Binds K _ P_Looker_depth [] := F_Looker_depth.binds (ps := P_Looker_depth) fun _ _ _ _ _ _ us hl => match us, hl with | [_], _ => rfl
  have F_Looker_place := fun_mk (st := s_Looker_place) l1_Looker_place c1_Looker_place k1_Looker_place
  have b_Looker_place : Binds K _ P_Looker_place [] := F_Looker_place.binds (ps := P_Looker_place) fun _ _ _ _ _ _ us hl => match us, hl with | [_], _ => rfl
  have F_Looker_looks := fun_mk (st := s_Looker_looks) l1_Looker_looks c1_Looker_looks k1_Looker_looks
  have b_Looker_looks : Binds K _ P_Looker_looks [] := F_Looker_looks.binds (ps := P_Looker_looks) fun _ _ _ _ _ _ us hl => match us, hl with | [_], _ => rfl
  have F_first_at := fun_mk (st := s_first_at) l1_first_at c1_first_at k1_first_at
  have b_first_at : Binds K _ P_first_at [] := F_first_at.binds (ps := P_first_at) fun _ _ _ _ _ _ us hl => match us, hl with | [_, _, _], _ => rfl
  have F_Looker_behind := fun_mk (st := s_Looker_behind) l1_Looker_behind c1_Looker_behind k1_Looker_behind
  have b_Looker_behind : Binds K _ P_Looker_behind [] := F_Looker_behind.binds (ps := P_Looker_behind) fun _ _ _ _ _ _ us hl => match us, hl with | [_, _], _ => rfl
  have F_Looker_key := fun_mk (st := s_Looker_key) l1_Looker_key c1_Looker_key k1_Looker_key
  have b_Looker_key : Binds K _ P_Looker_key [] := F_Looker_key.binds (ps := P_Looker_key) fun _ _ _ _ _ _ us hl => match us, hl with | [_], _ => rfl
  have F_Looker_opened := fun_mk (st := s_Looker_opened) l1_Looker_opened c1_Looker_opened k1_Looker_opened
  have b_Looker_opened : Binds K _ P_Looker_opened [] := F_Looker_opened.binds (ps := P_Looker_opened) fun _ _ _ _ _ _ us hl => match us, hl with | [_], _ => rfl
  have F__law_word := fun_mk (st := s__law_word) l1__law_word c1__law_word k1__law_word
  have b__law_word : Binds K _ P__law_word [] := F__law_word.binds (ps := P__law_word) fun _ _ _ _ _ _ us hl => match us, hl with | [_], _ => rfl
  have F_Looker_up := fun_mk (st := s_Looker_up) l1_Looker_up c1_Looker_up k1_Looker_up
  have b_Looker_up : Binds K _ P_Looker_up [] := F_Looker_up.binds (ps := P_Looker_up) fun _ _ _ _ _ _ us hl => match us, hl with | [_], _ => rfl
  have F_Looker_go_to := fun_mk (st := s_Looker_go_to) l1_Looker_go_to c1_Looker_go_to k1_Looker_go_to
  have b_Looker_go_to : Binds K _ P_Looker_go_to [] := F_Looker_go_to.binds (ps := P_Looker_go_to) fun _ _ _ _ _ _ us hl => match us, hl with | [_, _], _ => rfl
  have F_Looker_further := fun_mk (st := s_Looker_further) l1_Looker_further c1_Looker_further k1_Looker_further
  have b_Looker_further : Binds K _ P_Looker_further [] := F_Looker_further.binds (ps := P_Looker_further) fun _ _ _ _ _ _ us hl => match us, hl with | [_], _ => rfl
  have F_Looker_reach := fun_mk (st := s_Looker_reach) l1_Looker_reach c1_Looker_reach k1_Looker_reach
  have b_Looker_reach : Binds K _ P_Looker_reach [] := F_Looker_reach.binds (ps := P_Looker_reach) fun _ _ _ _ _ _ us hl => match us, hl with | [_, _], _ => rfl
  have F__law_acted := fun_mk (st := s__law_acted) l1__law_acted c1__law_acted k1__law_acted
  have b__law_acted : Binds K _ P__law_acted [] := F__law_acted.binds (ps := P__law_acted) fun _ _ _ _ _ _ us hl => match us, hl with | [_, _], _ => rfl
  have F__law_trie := fun_mk (st := s__law_trie) l1__law_trie c1__law_trie k1__law_trie
  have b__law_trie : Binds K _ P__law_trie [] := F__law_trie.binds (ps := P__law_trie) fun _ _ _ _ _ _ us hl => match us, hl with | [_, _], _ => rfl
  have F__law_moved := fun_mk (st := s__law_moved) l1__law_moved c1__law_moved k1__law_moved
  have b__law_moved : Binds K _ P__law_moved [] := F__law_moved.binds (ps := P__law_moved) fun _ _ _ _ _ _ us hl => match us, hl with | [_, _, _], _ => rfl
  have F_law := fun_mk (st := s_law) l1_law c1_law k1_law
  have b_law : Binds K _ P_law [] := F_law.binds (ps := P_law) fun _ _ _ _ _ _ us hl => match us, hl with | [_], _ => rfl
  have T : Tx K mg a__law_draw a__law_drawn_rows a__law_pick a_Looker___init__ a__law_same a_Looker_at_end a_Looker_depth a_Looker_place a_Looker_looks a_first_at a_Looker_behind a_Looker_key a_Looker_opened a__law_word a_Looker_up a_Looker_go_to a_Looker_further a_Looker_reach a__law_acted a__law_trie a__law_moved fa C_Looker C_NoDeeper C_NoUp C_NoKey C_RowError _ _ _ _ _ _ _ _ _ _ _ _ _ _ _ _ _ _ _ _ _ _ := ⟨PySem.W.mg_none_of X G z1_abs,
    PySem.W.mg_none_of X G z1_all,
    PySem.W.mg_none_of X G z1_bool,
    PySem.W.mg_none_of X G z1_int,
    PySem.W.mg_none_of X G z1_isinstance,
    PySem.W.mg_none_of X G z1_len,
    PySem.W.mg_none_of X G z1_max,
    PySem.W.mg_none_of X G z1_range,
    PySem.W.mg_none_of X G z1_set,
    PySem.W.mg_none_of X G z1_sorted,
    PySem.W.mg_none_of X G z1_str,
    PySem.W.mg_none_of X G z1_tuple,
    PySem.W.mg_none_of X G z1_zip,
    ⟨PySem.W.mg_of X G aC_Looker, ⟨pg_Looker, hd_Looker, po_Looker, sa_Looker⟩⟩,
    ⟨mk_Looker, a1_Looker___init__, i1_Looker___init__, kc_Looker⟩,
    ⟨PySem.W.mg_of X G aC_NoDeeper, xq_NoDeeper, xk_NoDeeper, xb_NoDeeper, xt_NoDeeper, exm_own xb_NoDeeper xi_NoDeeper xt_NoDeeper xs_NoDeeper⟩,
    ⟨PySem.W.mg_of X G aC_NoUp, xq_NoUp, xk_NoUp, xb_NoUp, xt_NoUp, exm_own xb_NoUp xi_NoUp xt_NoUp xs_NoUp⟩,
    ⟨PySem.W.mg_of X G aC_NoKey, xq_NoKey, xk_NoKey, xb_NoKey, xt_NoKey, exm_own xb_NoKey xi_NoKey xt_NoKey xs_NoKey⟩,
    PySem.W.mg_of X G aC_RowError,
    ⟨eg_NoDeeper, ek_NoDeeper, xb_NoDeeper, ed_NoDeeper, ea_NoDeeper, en_, et_, em_NoDeeper⟩,
    exm_own2 xb_RowError xi_RowError xt_RowError sw_NoDeeper_RowError,
    kit_same,
    kit_own (ne_NoDeeper_NoUp) xi_NoUp xt_NoUp sk_NoDeeper_NoUp,
    kit_own (ne_NoDeeper_NoKey) xi_NoKey xt_NoKey sk_NoDeeper_NoKey,
    ⟨eg_NoUp, ek_NoUp, xb_NoUp, ed_NoUp, ea_NoUp, en_, et_, em_NoUp⟩,
    exm_own2 xb_RowError xi_RowError xt_RowError sw_NoUp_RowError,
    kit_own (ne_NoUp_NoDeeper) xi_NoDeeper xt_NoDeeper sk_NoUp_NoDeeper,
    kit_same,
    kit_own (ne_NoUp_NoKey) xi_NoKey xt_NoKey sk_NoUp_NoKey,
    ⟨eg_NoKey, ek_NoKey, xb_NoKey, ed_NoKey, ea_NoKey, en_, et_, em_NoKey⟩,
    exm_own2 xb_RowError xi_RowError xt_RowError sw_NoKey_RowError,
    kit_own (ne_NoKey_NoDeeper) xi_NoDeeper xt_NoDeeper sk_NoKey_NoDeeper,
    kit_own (ne_NoKey_NoUp) xi_NoUp xt_NoUp sk_NoKey_NoUp,
    kit_same,
    n1_Looker_levels,
    n1_Looker_many,
    n1_Looker_rows,
    F__law_draw,
    b__law_draw,
    PySem.W.mg_of X G a1__law_draw,
    F__law_drawn_rows,
    b__law_drawn_rows,
    PySem.W.mg_of X G a1__law_drawn_rows,
    F__law_pick,
    b__law_pick,
    PySem.W.mg_of X G a1__law_pick,
    F_Looker___init__,
    b_Looker___init__,
    F__law_same,
    b__law_same,
    PySem.W.mg_of X G a1__law_same,
    F_Looker_at_end,
    b_Looker_at_end,
    ⟨a1_Looker_at_end, i1_Looker_at_end, k1_Looker_at_end⟩,
    F_Looker_depth,
    b_Looker_depth,
    ⟨a1_Looker_depth, i1_Looker_depth, k1_Looker_depth⟩,
    F_Looker_place,
    b_Looker_place,
    ⟨a1_Looker_place, i1_Looker_place, k1_Looker_place⟩,
    F_Looker_looks,
    b_Looker_looks,
    ⟨a1_Looker_looks, i1_Looker_looks, k1_Looker_looks⟩,
    F_first_at,
    b_first_at,
    PySem.W.mg_of X G a1_first_at,
    F_Looker_behind,
    b_Looker_behind,
    ⟨a1_Looker_behind, i1_Looker_behind, k1_Looker_behind⟩,
    F_Looker_key,
    b_Looker_key,
    ⟨a1_Looker_key, i1_Looker_key, k1_Looker_key⟩,
    F_Looker_opened,
    b_Looker_opened,
    ⟨a1_Looker_opened, i1_Looker_opened, k1_Looker_opened⟩,
    F__law_word,
    b__law_word,
    PySem.W.mg_of X G a1__law_word,
    F_Looker_up,
    b_Looker_up,
    ⟨a1_Looker_up, i1_Looker_up, k1_Looker_up⟩,
    F_Looker_go_to,
    b_Looker_go_to,
    ⟨a1_Looker_go_to, i1_Looker_go_to, k1_Looker_go_to⟩,
    F_Looker_further,
    b_Looker_further,
    ⟨a1_Looker_further, i1_Looker_further, k1_Looker_further⟩,
    F_Looker_reach,
    b_Looker_reach,
    ⟨a1_Looker_reach, i1_Looker_reach, k1_Looker_reach⟩,
    F__law_acted,
    b__law_acted,
    PySem.W.mg_of X G a1__law_acted,
    F__law_trie,
    b__law_trie,
    PySem.W.mg_of X G a1__law_trie,
    F__law_moved,
    b__law_moved,
    PySem.W.mg_of X G a1__law_moved,
    F_law,
    b_law,
    PySem.W.mg_of X G a1_law⟩
  refine ⟨PySem.W.fnOf "law" "law" (defArgs s_law) (defBody s_law) (defScope s_law) .none kV_law dc_law pm_law an_law cd_law ct_law, fun s v => .of_eq rfl, fun base _ _ => ?_⟩
  exact law_fn (fun fu => ok_law T fu) law_true
end Law
open PySem PySem.W PyProof.Rows in
set_option maxRecDepth 100000 in
set_option maxHeartbeats 0 in
theorem PySem.Challenge.cw_meetloft_k06_lookers_by_hand_holds : PySem.Challenge.rw_meetloft_k06_lookers_by_hand.Holds := by
  w_on; o_law; k_head; (case hw => w_witness2)
  k_fill
  refine L2.walk_of (l := PySem.Challenge.rw_meetloft_k06_lookers_by_hand) (n := 63) (k := 6) (x := "script") (CX := fun w => L2.CX PySem.Challenge.pw_meetloft_k06_lookers_by_hand w) (sp := fun w => Dv.spLaw _) rfl (by decide) rfl ⟨rfl, by decide, by decide⟩ (fun w h Y => PySem.W.kIn_of Y) ?F (fun w H a ns hl hO hS => Dv.sp_start hl hS) (fun w H s e s' z => Dv.no_exc z)
  case F =>
    intro w mg fa h KX G hmg
    refine' Law.all_mk KX G hmg ?aC_Looker ?pg_Looker ?hd_Looker ?po_Looker ?sa_Looker ?mk_Looker ?kc_Looker ?aC_NoDeeper ?xq_NoDeeper ?xk_NoDeeper ?xb_NoDeeper ?xt_NoDeeper ?xi_NoDeeper ?xs_NoDeeper ?aC_NoUp ?xq_NoUp ?xk_NoUp ?xb_NoUp ?xt_NoUp ?xi_NoUp ?xs_NoUp ?aC_NoKey ?xq_NoKey ?xk_NoKey ?xb_NoKey ?xt_NoKey ?xi_NoKey ?xs_NoKey ?aC_RowError ?xb_RowError ?xt_RowError ?xi_RowError ?eg_NoDeeper ?ek_NoDeeper ?ed_NoDeeper ?ea_NoDeeper ?em_NoDeeper ?sw_NoDeeper_RowError ?sk_NoDeeper_NoUp ?ne_NoDeeper_NoUp ?sk_NoDeeper_NoKey ?ne_NoDeeper_NoKey ?eg_NoUp ?ek_NoUp ?ed_NoUp ?ea_NoUp ?em_NoUp ?sw_NoUp_RowError ?sk_NoUp_NoDeeper ?ne_NoUp_NoDeeper ?sk_NoUp_NoKey ?ne_NoUp_NoKey ?eg_NoKey ?ek_NoKey ?ed_NoKey ?ea_NoKey ?em_NoKey ?sw_NoKey_RowError ?sk_NoKey_NoDeeper ?ne_NoKey_NoDeeper ?sk_NoKey_NoUp ?ne_NoKey_NoUp ?en_ ?et_ ?a1__law_draw ?l1__law_draw ?c1__law_draw ?k1__law_draw ?a1__law_drawn_rows ?l1__law_drawn_rows ?c1__law_drawn_rows ?k1__law_drawn_rows ?a1__law_pick ?l1__law_pick ?c1__law_pick ?k1__law_pick ?a1_Looker___init__ ?i1_Looker___init__ ?l1_Looker___init__ ?c1_Looker___init__ ?k1_Looker___init__ ?a1__law_same ?l1__law_same ?c1__law_same ?k1__law_same ?a1_Looker_at_end ?i1_Looker_at_end ?l1_Looker_at_end ?c1_Looker_at_end ?k1_Looker_at_end ?a1_Looker_depth ?i1_Looker_depth ?l1_Looker_depth ?c1_Looker_depth ?k1_Looker_depth ?a1_Looker_place ?i1_Looker_place ?l1_Looker_place ?c1_Looker_place ?k1_Looker_place ?a1_Looker_looks ?i1_Looker_looks ?l1_Looker_looks ?c1_Looker_looks ?k1_Looker_looks ?a1_first_at ?l1_first_at ?c1_first_at ?k1_first_at ?a1_Looker_behind ?i1_Looker_behind ?l1_Looker_behind ?c1_Looker_behind ?k1_Looker_behind ?a1_Looker_key ?i1_Looker_key ?l1_Looker_key ?c1_Looker_key ?k1_Looker_key ?a1_Looker_opened ?i1_Looker_opened ?l1_Looker_opened ?c1_Looker_opened ?k1_Looker_opened ?a1__law_word ?l1__law_word ?c1__law_word ?k1__law_word ?a1_Looker_up ?i1_Looker_up ?l1_Looker_up ?c1_Looker_up ?k1_Looker_up ?a1_Looker_go_to ?i1_Looker_go_to ?l1_Looker_go_to ?c1_Looker_go_to ?k1_Looker_go_to ?a1_Looker_further ?i1_Looker_further ?l1_Looker_further ?c1_Looker_further ?k1_Looker_further ?a1_Looker_reach ?i1_Looker_reach ?l1_Looker_reach ?c1_Looker_reach ?k1_Looker_reach ?a1__law_acted ?l1__law_acted ?c1__law_acted ?k1__law_acted ?a1__law_trie ?l1__law_trie ?c1__law_trie ?k1__law_trie ?a1__law_moved ?l1__law_moved ?c1__law_moved ?k1__law_moved ?a1_law ?l1_law ?c1_law ?k1_law ?n1_Looker_levels ?n1_Looker_many ?n1_Looker_rows ?z1_abs ?z1_all ?z1_bool ?z1_int ?z1_isinstance ?z1_len ?z1_max ?z1_range ?z1_set ?z1_sorted ?z1_str ?z1_tuple ?z1_zip
    (case aC_Looker => k_is)
    (case pg_Looker => k_is)
    (case hd_Looker => k_is)
    (case po_Looker => k_is)
    (case sa_Looker => k_is)
    (case mk_Looker => k_is)
    (case kc_Looker => k_is)
    (case aC_NoDeeper => k_is)
    (case xq_NoDeeper => k_exc)
    (case xk_NoDeeper => k_is)
    (case xb_NoDeeper => k_is)
    (case xt_NoDeeper => k_is)
    (case xi_NoDeeper => k_is)
    (case xs_NoDeeper => first | rfl | k_is)
    (case aC_NoUp => k_is)
    (case xq_NoUp => k_exc)
    (case xk_NoUp => k_is)
    (case xb_NoUp => k_is)
    (case xt_NoUp => k_is)
    (case xi_NoUp => k_is)
    (case xs_NoUp => first | rfl | k_is)
    (case aC_NoKey => k_is)
    (case xq_NoKey => k_exc)
    (case xk_NoKey => k_is)
    (case xb_NoKey => k_is)
    (case xt_NoKey => k_is)
    (case xi_NoKey => k_is)
    (case xs_NoKey => first | rfl | k_is)
    (case aC_RowError => k_is)
    (case xb_RowError => k_is)
    (case xt_RowError => k_is)
    (case xi_RowError => k_is)
    (case eg_NoDeeper => k_is)
    (case ek_NoDeeper => k_is)
    (case ed_NoDeeper => k_is)
    (case ea_NoDeeper => k_is)
    (case em_NoDeeper => k_is)
    (case sw_NoDeeper_RowError => k_is)
    (case sk_NoDeeper_NoUp => k_is)
    (case ne_NoDeeper_NoUp => decide +kernel)
    (case sk_NoDeeper_NoKey => k_is)
    (case ne_NoDeeper_NoKey => decide +kernel)
    (case eg_NoUp => k_is)
    (case ek_NoUp => k_is)
    (case ed_NoUp => k_is)
    (case ea_NoUp => k_is)
    (case em_NoUp => k_is)
    (case sw_NoUp_RowError => k_is)
    (case sk_NoUp_NoDeeper => k_is)
    (case ne_NoUp_NoDeeper => decide +kernel)
    (case sk_NoUp_NoKey => k_is)
    (case ne_NoUp_NoKey => decide +kernel)
    (case eg_NoKey => k_is)
    (case ek_NoKey => k_is)
    (case ed_NoKey => k_is)
    (case ea_NoKey => k_is)
    (case em_NoKey => k_is)
    (case sw_NoKey_RowError => k_is)
    (case sk_NoKey_NoDeeper => k_is)
    (case ne_NoKey_NoDeeper => decide +kernel)
    (case sk_NoKey_NoUp => k_is)
    (case ne_NoKey_NoUp => decide +kernel)
    (case en_ => k_is)
    (case et_ => k_is)
    (case a1__law_draw => k_is)
    (case l1__law_draw => k_is)
    (case c1__law_draw => k_is)
    (case k1__law_draw => k_is)
    (case a1__law_drawn_rows => k_is)
    (case l1__law_drawn_rows => k_is)
    (case c1__law_drawn_rows => k_is)
    (case k1__law_drawn_rows => k_is)
    (case a1__law_pick => k_is)
    (case l1__law_pick => k_is)
    (case c1__law_pick => k_is)
    (case k1__law_pick => k_is)
    (case a1_Looker___init__ => k_is)
    (case i1_Looker___init__ => k_is)
    (case l1_Looker___init__ => k_is)
    (case c1_Looker___init__ => k_is)
    (case k1_Looker___init__ => k_is)
    (case a1__law_same => k_is)
    (case l1__law_same => k_is)
    (case c1__law_same => k_is)
    (case k1__law_same => k_is)
    (case a1_Looker_at_end => k_is)
    (case i1_Looker_at_end => k_is)
    (case l1_Looker_at_end => k_is)
    (case c1_Looker_at_end => k_is)
    (case k1_Looker_at_end => k_is)
    (case a1_Looker_depth => k_is)
    (case i1_Looker_depth => k_is)
    (case l1_Looker_depth => k_is)
    (case c1_Looker_depth => k_is)
    (case k1_Looker_depth => k_is)
    (case a1_Looker_place => k_is)
    (case i1_Looker_place => k_is)
    (case l1_Looker_place => k_is)
    (case c1_Looker_place => k_is)
    (case k1_Looker_place => k_is)
    (case a1_Looker_looks => k_is)
    (case i1_Looker_looks => k_is)
    (case l1_Looker_looks => k_is)
    (case c1_Looker_looks => k_is)
    (case k1_Looker_looks => k_is)
    (case a1_first_at => k_is)
    (case l1_first_at => k_is)
    (case c1_first_at => k_is)
    (case k1_first_at => k_is)
    (case a1_Looker_behind => k_is)
    (case i1_Looker_behind => k_is)
    (case l1_Looker_behind => k_is)
    (case c1_Looker_behind => k_is)
    (case k1_Looker_behind => k_is)
    (case a1_Looker_key => k_is)
    (case i1_Looker_key => k_is)
    (case l1_Looker_key => k_is)
    (case c1_Looker_key => k_is)
    (case k1_Looker_key => k_is)
    (case a1_Looker_opened => k_is)
    (case i1_Looker_opened => k_is)
    (case l1_Looker_opened => k_is)
    (case c1_Looker_opened => k_is)
    (case k1_Looker_opened => k_is)
    (case a1__law_word => k_is)
    (case l1__law_word => k_is)
    (case c1__law_word => k_is)
    (case k1__law_word => k_is)
    (case a1_Looker_up => k_is)
    (case i1_Looker_up => k_is)
    (case l1_Looker_up => k_is)
    (case c1_Looker_up => k_is)
    (case k1_Looker_up => k_is)
    (case a1_Looker_go_to => k_is)
    (case i1_Looker_go_to => k_is)
    (case l1_Looker_go_to => k_is)
    (case c1_Looker_go_to => k_is)
    (case k1_Looker_go_to => k_is)
    (case a1_Looker_further => k_is)
    (case i1_Looker_further => k_is)
    (case l1_Looker_further => k_is)
    (case c1_Looker_further => k_is)
    (case k1_Looker_further => k_is)
    (case a1_Looker_reach => k_is)
    (case i1_Looker_reach => k_is)
    (case l1_Looker_reach => k_is)
    (case c1_Looker_reach => k_is)
    (case k1_Looker_reach => k_is)
    (case a1__law_acted => k_is)
    (case l1__law_acted => k_is)
    (case c1__law_acted => k_is)
    (case k1__law_acted => k_is)
    (case a1__law_trie => k_is)
    (case l1__law_trie => k_is)
    (case c1__law_trie => k_is)
    (case k1__law_trie => k_is)
    (case a1__law_moved => k_is)
    (case l1__law_moved => k_is)
    (case c1__law_moved => k_is)
    (case k1__law_moved => k_is)
    (case a1_law => k_is)
    (case l1_law => k_is)
    (case c1_law => k_is)
    (case k1_law => k_is)
    (case n1_Looker_levels => k_is)
    (case n1_Looker_many => k_is)
    (case n1_Looker_rows => k_is)
    (case z1_abs => k_is)
    (case z1_all => k_is)
    (case z1_bool => k_is)
    (case z1_int => k_is)
    (case z1_isinstance => k_is)
    (case z1_len => k_is)
    (case z1_max => k_is)
    (case z1_range => k_is)
    (case z1_set => k_is)
    (case z1_sorted => k_is)
    (case z1_str => k_is)
    (case z1_tuple => k_is)
    (case z1_zip => k_is)
