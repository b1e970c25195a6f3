import PyProof.Rows.All
import Wide.All
import OpenK.AllK
import Wide.FinOn
import HandS.ForMost
import HandS.ForExc
import HandS.CallSlots
import HandS.Walk
import HandS.Lambda
import KE.KeyNested
import HandS.TupAny
import HandS.Deep
import HandS.IsInst
import HandS.Zip
import HandS.SortInts
import HandS.TupSets
import HandS.SetFor
import HandS.Strs
import HandS.Dict
import HandS.DictComp
import HandS.Iter
import HandS.Sort
import PyProof.ListRange
import PyProof.ConsumeWalk
import PyProof.Rows.TupMore
import KE.KLam
import KE.SortKeyHeap
import PyProof.Cells
import PyProof.Rows.TupSub
import PyProof.Rows.SeqItemCall
import KE.KSortKey
import HandS.Style
import KE.GoesSet
import HandS.Comp
import KE.KDictZip
import HandS.TupMul
import HandS.Flow
import KE.GoesEnum
import HandS.ReCall
import PyProof.SeqIndex
import HandS.MakeKwOnly
import HandS.DictTup
import HandS.Conv
import KE.KDictSum
import KE.KDictWalk
import KE.SortData
import KE.DataCmp
import KE.GoesZip
import KE.GoesMore
import KE.KSortTupAny
import HandS.TupLe
import PySem.Challenge.RW_meetloft_k15_whole_tree_or_core
set_option Elab.async false
set_option linter.all false
set_option maxRecDepth 100000
noncomputable section
namespace Dv
open PySem L2
abbrev Pr := Str × List Int
def nkP (p : Pr) : NestedKey := .tup [.text p.1, .tup (p.2.map .num)]
inductive D where
  | non : D
  | bl (b : Bool) : D
  | int (i : Int) : D
  | str (x : Str) : D
  | tup (xs : List D) : D
  | lst (xs : List D) : D
  | scr (xs : List Int) : D
  | dct (kvs : List (Key × D)) : D
  | loc (n : Nat) : D
  | ty (n : String) : D
  | tux (xs : List D) : D
  | dtt (kvs : List (List Key × D)) : D
  | dpr (w : World) (kvs : List (Pr × D)) : D
  | adr (a : Addr) : D
inductive O where
  | lst (xs : List D)
  | dct (kvs : List (Key × D))
  | ins (c : Str) (fs : List (Str × D))
  | tbl (x q : Str)
  | dtt (kvs : List (List Key × D))
  | dpr (w : World) (kvs : List (Pr × D))
abbrev Store := List O
abbrev Env := List (Option D)
def KLst (K : PySem.W.Frag) (a : Addr) (xs : List V) : Prop := SqL K (fun _ => none) a xs
theorem rd_none {a : Addr} {u : HO} (h : Rd (fun _ => none) a u) : False := by
  rcases h with h | ⟨o, h⟩
  · cases h
  · cases h
theorem KLst.sq {K : PySem.W.Frag} {a : Addr} {xs : List V} (h : KLst K a xs) (H : Hp) : SqL K H a xs := by
  rcases h with h | h
  · exact (rd_none h).elim
  · exact .inr h
theorem KLst.len {K : PySem.W.Frag} {a : Addr} {xs : List V} (h : KLst K a xs) : xs.length ≤ sizeLine := by
  rcases h with h | ⟨o, its, n, _, _, _, _, hz, r⟩
  · exact (rd_none h).elim
  · rw [r.length, Array.length_toList]
    exact hz
structure Tb where
  loc : List Addr
  hid : List Addr
def Tb.off (T : Tb) (a : Addr) : Prop := a ∉ T.loc ∧ a ∉ T.hid
def LAt (K : PySem.W.Frag) (T : Tb) (H : Hp) (a : Addr) (xs : List V) : Prop := (Rd H a (.lst xs) ∧ T.off a) ∨ KLst K a xs
def DprH (w : World) (a : Addr) (xs : List (Pr × Addr × V)) (h : Heap) : Prop := (a == sysModules) = false ∧ xs.length ≤ sizeLine ∧ (xs.map (·.1)).Nodup ∧ ∃ (ys : List (Pr × Addr × Value)) (ob : Obj) (es : Array DictEntry) (ep : Nat),
  Paired (fun (x : Pr × Addr × V) (y : Pr × Addr × Value) => x.1 = y.1 ∧ x.2.1 = y.2.1 ∧ RelV x.2.2 y.2.2) xs ys ∧ h.get? a = some ob ∧ ob.ExactDict ∧ ob.data = .dict es ep ∧ es.toList = ys.map fun y => ⟨NestedKey.hash w (nkP y.1), .ref y.2.1, y.2.2⟩
def DprO (w : World) (a : Addr) (xs : List (Pr × Addr × V)) : HO := .ext (DprH w a xs)
def prD (p : Pr) : D := .tup [.str p.1, .tup (p.2.map .int)]
mutual
inductive Rep (K : PySem.W.Frag) (T : Tb) (H : Hp) : V → D → Prop
  | non : Rep K T H .non .non
  | bl (b : Bool) : Rep K T H (.bl b) (.bl b)
  | int (i : Int) : Rep K T H (.int i) (.int i)
  | str (x : Str) : Rep K T H (.str x) (.str x)
  | ty (x : String) : Rep K T H (.ty x) (.ty x)
  | tup {a : Addr} {xs : List V} {ds : List D} : H a = some (.tup xs) → T.off a → RepL K T H xs ds → Rep K T H (.ref a) (.tup ds)
  | lst {a : Addr} {xs : List V} {ds : List D} : H a = some (.lst xs) → T.off a → RepL K T H xs ds → Rep K T H (.ref a) (.lst ds)
  | scr {a : Addr} {ns : List Int} : LAt K T H a (ns.map V.int) → Rep K T H (.ref a) (.scr ns)
  | dct {a : Addr} {kvs : List (Key × V)} {kds : List (Key × D)} : Rd H a (.dK kvs) → T.off a → kvs.map (·.1) = kds.map (·.1) → RepL K T H (kvs.map (·.2)) (kds.map (·.2)) → Rep K T H (.ref a) (.dct kds)
  | loc {a : Addr} {n : Nat} : T.loc[n]? = some a → Rep K T H (.ref a) (.loc n)
  | tux {a : Addr} {o : Obj} {xs : List V} {ds : List D} : o.dict = none → H a = some (.frz o (.tup xs)) → T.off a → RepL K T H xs ds → Rep K T H (.ref a) (.tux ds)
  | dtt {a : Addr} {kvs : List (List Key × V)} {kds : List (List Key × D)} : Rd H a (.dT kvs) → T.off a → kvs.map (·.1) = kds.map (·.1) → RepL K T H (kvs.map (·.2)) (kds.map (·.2)) → Rep K T H (.ref a) (.dtt kds)
  | adr (a : Addr) : Rep K T H (.ref a) (.adr a)
  | dpr {a : Addr} {w : World} {xs : List (Pr × Addr × V)} {kds : List (Pr × D)} : H a = some (DprO w a xs) → T.off a → xs.map (·.1) = kds.map (·.1) → RepL K T H (xs.map fun x => V.ref x.2.1) (xs.map fun x => prD x.1) → RepL K T H (xs.map (·.2.2)) (kds.map (·.2)) → Rep K T H (.ref a) (.dpr w kds)
inductive RepL (K : PySem.W.Frag) (T : Tb) (H : Hp) : List V → List D → Prop
  | nil : RepL K T H [] []
  | cons {v : V} {vs : List V} {d : D} {ds : List D} : Rep K T H v d → RepL K T H vs ds → RepL K T H (v :: vs) (d :: ds)
end
structure Step (T : Tb) (H : Hp) (T' : Tb) (H' : Hp) : Prop where
  ext : ∃ more, T'.loc = T.loc ++ more
  hid : T'.hid = T.hid
  hkeep : ∀ b, b ∈ T.hid → H' b = H b
  keep : ∀ b u, T.off b → H b = some u → H' b = some u
  new : ∀ a, a ∈ T'.loc → a ∉ T.loc → H a = none
theorem rd_some {H : Hp} {a : Addr} {u : HO} (h : Rd H a u) : H a ≠ none := by
  rcases h with h | ⟨o, h⟩ <;> rw [h] <;> exact fun e => by cases e
theorem rd_keep {H H' : Hp} {a : Addr} {u : HO} (k : ∀ v, H a = some v → H' a = some v) (h : Rd H a u) : Rd H' a u := by
  rcases h with h | ⟨o, h⟩
  · exact .inl (k _ h)
  · exact .inr ⟨o, k _ h⟩
theorem Step.refl (T : Tb) (H : Hp) : Step T H T H := ⟨⟨[], by simp⟩, rfl, fun _ _ => rfl, fun _ _ _ h => h, fun _ h n => absurd h n⟩
theorem Step.out {T T' : Tb} {H H' : Hp} (s : Step T H T' H') {b : Addr} (h : H b ≠ none) (n : T.off b) : T'.off b := ⟨fun m => h (s.new b m n.1), by rw [s.hid]; exact n.2⟩
theorem Step.rd {T T' : Tb} {H H' : Hp} (s : Step T H T' H') {b : Addr} {u : HO} (h : Rd H b u) (n : T.off b) : Rd H' b u := rd_keep (fun v => s.keep b v n) h
theorem Step.trans {T T1 T2 : Tb} {H H1 H2 : Hp} (a : Step T H T1 H1) (b : Step T1 H1 T2 H2) : Step T H T2 H2 where
  ext := by
    obtain ⟨m1, e1⟩ := a.ext
    obtain ⟨m2, e2⟩ := b.ext
    exact ⟨m1 ++ m2, by rw [e2, e1, List.append_assoc]⟩
  hid := b.hid.trans a.hid
  hkeep := fun c hc => (b.hkeep c (by rw [a.hid]; exact hc)).trans (a.hkeep c hc)
  keep := fun c u n h => b.keep c u (a.out (by rw [h]; exact fun e => by cases e) n) (a.keep c u n h)
  new := fun c m n => by
    by_cases h : c ∈ T1.loc
    · exact a.new c h n
    · cases q : H c with
      | none => rfl
      | some o =>
        have h2 := b.new c m h
        by_cases hc : c ∈ T.hid
        · rw [a.hkeep c hc, q] at h2
          cases h2
        · rw [a.keep c o ⟨n, hc⟩ q] at h2
          cases h2
theorem Step.get {T T' : Tb} {H H' : Hp} (s : Step T H T' H') {n : Nat} {a : Addr} (h : T.loc[n]? = some a) : T'.loc[n]? = some a := by
  obtain ⟨m, e⟩ := s.ext
  rw [e, List.getElem?_append_left (List.getElem?_eq_some_iff.mp h).1]
  exact h
section
variable {K : PySem.W.Frag} {T T' : Tb} {H H' : Hp}
theorem LAt.sq {a : Addr} {xs : List V} (h : LAt K T H a xs) : SqL K H a xs := by
  rcases h with ⟨h, n⟩ | h
  · exact .inl h
  · exact h.sq H
def dO : List (Key × V) ⊕ List (List Key × V) → HO
  | .inl kvs => .dK kvs
  | .inr kvs => .dT kvs
structure Kp (T : Tb) (H : Hp) (T' : Tb) (H' : Hp) : Prop where
  sq : ∀ b u, (∃ xs, u = .tup xs ∨ u = .lst xs ∨ (∃ o, u = .frz o (.lst xs) ∨ u = .frz o (.tup xs)) ∨ ∃ f, u = .ext f) → T.off b → H b = some u → H' b = some u ∧ T'.off b
  dk : ∀ b kvs, T.off b → Rd H b (dO kvs) → Rd H' b (dO kvs) ∧ T'.off b
  get : ∀ (n : Nat) (a : Addr), T.loc[n]? = some a → T'.loc[n]? = some a
theorem some_ne {H : Hp} {a : Addr} {u : HO} (h : H a = some u) : H a ≠ none := by
  rw [h]
  exact fun e => by cases e
theorem Step.kp (s : Step T H T' H') : Kp T H T' H' := ⟨fun b u _ n h => ⟨s.keep b u n h, s.out (some_ne h) n⟩, fun b _ n h => ⟨s.rd h n, s.out (rd_some h) n⟩, fun _ _ h => s.get h⟩
structure Kf (T : Tb) (H : Hp) (T' : Tb) (H' : Hp) : Prop extends Kp T H T' H' where
  frz : ∀ b o u, T.off b → H b = some (.frz o u) → H' b = some (.frz o u) ∧ T'.off b
theorem Step.kf (s : Step T H T' H') : Kf T H T' H' := ⟨s.kp, fun b o u n h => ⟨s.keep b _ n h, s.out (some_ne h) n⟩⟩
theorem Kp.tup (s : Kp T H T' H') {b : Addr} {xs : List V} (n : T.off b) (h : H b = some (.tup xs)) : H' b = some (.tup xs) ∧ T'.off b := s.sq b _ ⟨xs, .inl rfl⟩ n h
theorem Kp.lst (s : Kp T H T' H') {b : Addr} {xs : List V} (n : T.off b) (h : H b = some (.lst xs)) : H' b = some (.lst xs) ∧ T'.off b := s.sq b _ ⟨xs, .inr (.inl rfl)⟩ n h
theorem LAt.kp {a : Addr} {xs : List V} (s : Kp T H T' H') (h : LAt K T H a xs) : LAt K T' H' a xs := by
  rcases h with ⟨h | ⟨o, h⟩, n⟩ | h
  · exact .inl ⟨.inl (s.lst n h).1, (s.lst n h).2⟩
  · have q := s.sq a _ ⟨xs, .inr (.inr (.inl ⟨o, .inl rfl⟩))⟩ n h
    exact .inl ⟨.inr ⟨o, q.1⟩, q.2⟩
  · exact .inr h
mutual
theorem Rep.kp (s : Kp T H T' H') : ∀ {v : V} {d : D}, Rep K T H v d → Rep K T' H' v d
  | _, _, .non => .non
  | _, _, .bl b => .bl b
  | _, _, .int i => .int i
  | _, _, .str x => .str x
  | _, _, .ty x => .ty x
  | _, _, .tup h n r => .tup (s.tup n h).1 (s.tup n h).2 (RepL.kp s r)
  | _, _, .lst h n r => .lst (s.lst n h).1 (s.lst n h).2 (RepL.kp s r)
  | _, _, .scr h => .scr (h.kp s)
  | _, _, .dct h n e r => .dct (s.dk _ (.inl _) n h).1 (s.dk _ (.inl _) n h).2 e (RepL.kp s r)
  | _, _, .loc h => .loc (s.get _ _ h)
  | _, _, .tux d h n r => .tux d (s.sq _ _ ⟨_, .inr (.inr (.inl ⟨_, .inr rfl⟩))⟩ n h).1 (s.sq _ _ ⟨_, .inr (.inr (.inl ⟨_, .inr rfl⟩))⟩ n h).2 (RepL.kp s r)
  | _, _, .dtt h n e r => .dtt (s.dk _ (.inr _) n h).1 (s.dk _ (.inr _) n h).2 e (RepL.kp s r)
  | _, _, .adr a => .adr a
  | _, _, .dpr h n e r q => .dpr (s.sq _ _ ⟨[], .inr (.inr (.inr ⟨_, rfl⟩))⟩ n h).1 (s.sq _ _ ⟨[], .inr (.inr (.inr ⟨_, rfl⟩))⟩ n h).2 e (RepL.kp s r) (RepL.kp s q)
theorem RepL.kp (s : Kp T H T' H') : ∀ {vs : List V} {ds : List D}, RepL K T H vs ds → RepL K T' H' vs ds
  | _, _, .nil => .nil
  | _, _, .cons h r => .cons (Rep.kp s h) (RepL.kp s r)
end
theorem Rep.step (s : Step T H T' H') {v : V} {d : D} (h : Rep K T H v d) : Rep K T' H' v d := h.kp s.kp
theorem RepL.step (s : Step T H T' H') {vs : List V} {ds : List D} (h : RepL K T H vs ds) : RepL K T' H' vs ds := h.kp s.kp
theorem RepL.length : ∀ {vs : List V} {ds : List D}, RepL K T H vs ds → vs.length = ds.length
  | _, _, .nil => rfl
  | _, _, .cons _ r => by rw [List.length_cons, List.length_cons, RepL.length r]
theorem RepL.get : ∀ {vs : List V} {ds : List D} {i : Nat} {d : D}, RepL K T H vs ds → ds[i]? = some d → ∃ v, vs[i]? = some v ∧ Rep K T H v d
  | _, _, i, _, .nil, e => by simp at e
  | _, _, 0, _, .cons r _, e => by simp at e; subst e; exact ⟨_, rfl, r⟩
  | _, _, i + 1, d, .cons _ t, e => by
    obtain ⟨v, h1, h2⟩ := RepL.get (i := i) (d := d) t (by simpa using e)
    exact ⟨v, by simpa using h1, h2⟩
theorem RepL.append : ∀ {vs ws : List V} {ds es : List D}, RepL K T H vs ds → RepL K T H ws es → RepL K T H (vs ++ ws) (ds ++ es)
  | _, _, _, _, .nil, s => s
  | _, _, _, _, .cons r t, s => .cons r (RepL.append t s)
theorem RepL.set {v : V} {d : D} (r : Rep K T H v d) : ∀ {vs : List V} {ds : List D} (i : Nat), RepL K T H vs ds → RepL K T H (vs.set i v) (ds.set i d)
  | _, _, _, .nil => .nil
  | _, _, 0, .cons _ t => .cons r t
  | _, _, i + 1, .cons q t => .cons q (RepL.set r i t)
theorem RepL.take : ∀ {vs : List V} {ds : List D} (n : Nat), RepL K T H vs ds → RepL K T H (vs.take n) (ds.take n)
  | _, _, 0, _ => .nil
  | _, _, _ + 1, .nil => .nil
  | _, _, n + 1, .cons r t => .cons r (RepL.take n t)
theorem RepL.drop : ∀ {vs : List V} {ds : List D} (n : Nat), RepL K T H vs ds → RepL K T H (vs.drop n) (ds.drop n)
  | _, _, 0, r => r
  | _, _, _ + 1, .nil => .nil
  | _, _, n + 1, .cons _ t => RepL.drop n t
theorem RepL.rep {vs : List V} {ds : List D} (h : RepL K T H vs ds) : ∀ k : Nat, RepL K T H (List.replicate k vs).flatten (List.replicate k ds).flatten
  | 0 => .nil
  | k + 1 => by
    rw [List.replicate_succ, List.replicate_succ, List.flatten_cons, List.flatten_cons]
    exact RepL.append h (RepL.rep h k)
theorem RepL.ints : ∀ (ns : List Int), RepL K T H (ns.map V.int) (ns.map D.int)
  | [] => .nil
  | n :: ns => .cons (.int n) (RepL.ints ns)
theorem RepL.of_ints : ∀ {vs : List V} {ns : List Int}, RepL K T H vs (ns.map D.int) → vs = ns.map V.int
  | _, [], .nil => rfl
  | _, n :: ns, .cons (.int _) r => by rw [RepL.of_ints r]; rfl
theorem RepL.of_bls : ∀ {vs : List V} {ns : List Bool}, RepL K T H vs (ns.map D.bl) → vs = ns.map V.bl
  | _, [], .nil => rfl
  | _, n :: ns, .cons (.bl _) r => by rw [RepL.of_bls r]; rfl
end
def HLen (H : Hp) : Prop := ∀ a xs, (Rd H a (.lst xs) ∨ Rd H a (.tup xs)) → xs.length ≤ sizeLine
def TblAt (K : PySem.W.Frag) (mg : Str → Option Value) (x : Str) (a : Addr) : Prop :=
  ∃ (f c : Addr) (oc oc2 : Value) (od od2 : Option Addr) (fd : FuncData) (sl sl2 : Array (Option Value)) (vs : Array Value), mg x = some (.ref f) ∧ K.lookup f = some ⟨oc, od, .func fd, sl⟩ ∧ fd.code = .ref c ∧ K.lookup c = some ⟨oc2, od2, .fields vs, sl2⟩ ∧ vs[11]? = some (.ref a)
def ORep (K : PySem.W.Frag) (mg : Str → Option Value) (T : Tb) (H : Hp) (a : Addr) : O → Prop
  | .lst ds => ∃ xs, H a = some (.lst xs) ∧ RepL K T H xs ds
  | .dct kds => ∃ kvs, H a = some (.dK kvs) ∧ kvs.map (·.1) = kds.map (·.1) ∧ RepL K T H (kvs.map (·.2)) (kds.map (·.2))
  | .ins c fs => ∃ C dx fvs, mg c = some (.ref C) ∧ H a = some (.ins C dx fvs) ∧ fvs.map (·.1) = fs.map (·.1) ∧ RepL K T H (fvs.map (·.2)) (fs.map (·.2))
  | .dtt kds => ∃ kvs, H a = some (.dT kvs) ∧ kvs.map (·.1) = kds.map (·.1) ∧ RepL K T H (kvs.map (·.2)) (kds.map (·.2))
  | .dpr w kds => ∃ xs, H a = some (DprO w a xs) ∧ xs.map (·.1) = kds.map (·.1) ∧ RepL K T H (xs.map fun x => V.ref x.2.1) (xs.map fun x => prD x.1) ∧ RepL K T H (xs.map (·.2.2)) (kds.map (·.2))
  | .tbl x q => TblAt K mg x a ∧ ∃ ps : Array Value, H a = some (.tbl ps) ∧ TriplesOk ps.toList ∧ ∀ (pos : Pos) (cv : Value), codeAmong pos ps.toList = some cv → ∃ c, cv = .ref c ∧ H c = some (LamX.CodeO c q) ∧ T.off c
structure Sim (K : PySem.W.Frag) (mg : Str → Option Value) (T : Tb) (S : Store) (H : Hp) : Prop where
  len : T.loc.length = S.length
  nd : (T.loc ++ T.hid).Nodup
  obj : ∀ (i : Nat) (a : Addr) (o : O), T.loc[i]? = some a → S[i]? = some o → ORep K mg T H a o
  hid' : ∀ a, a ∈ T.hid → H a ≠ none ∧ ∀ xs, H a ≠ some (.tup xs)
  hl : HLen H
section
variable {K : PySem.W.Frag} {mg : Str → Option Value} {T T' : Tb} {H H' : Hp} {S : Store}
theorem ORep.kp {a : Addr} {o : O} (s : Kp T H T' H') (e : H' a = H a) (h : ORep K mg T H a o) : ORep K mg T' H' a o := by
  cases o with
  | lst ds =>
    obtain ⟨xs, h1, h2⟩ := h
    exact ⟨xs, e.trans h1, h2.kp s⟩
  | dct kds =>
    obtain ⟨kvs, h1, h2, h3⟩ := h
    exact ⟨kvs, e.trans h1, h2, h3.kp s⟩
  | dtt kds =>
    obtain ⟨kvs, h1, h2, h3⟩ := h
    exact ⟨kvs, e.trans h1, h2, h3.kp s⟩
  | dpr w kds =>
    obtain ⟨xs, h1, h2, h3, h4⟩ := h
    exact ⟨xs, e.trans h1, h2, h3.kp s, h4.kp s⟩
  | ins c fs =>
    obtain ⟨C, dx, fvs, h1, h2, h3, h4⟩ := h
    exact ⟨C, dx, fvs, h1, e.trans h2, h3, h4.kp s⟩
  | tbl x q =>
    obtain ⟨hx, ps, h1, h2, h3⟩ := h
    refine ⟨hx, ps, e.trans h1, h2, fun pos cv hc => ?_⟩
    obtain ⟨c, rfl, h4, h5⟩ := h3 pos cv hc
    obtain ⟨h6, h7⟩ := s.sq c _ ⟨[], .inr (.inr (.inr ⟨_, rfl⟩))⟩ h5 h4
    exact ⟨c, rfl, h6, h7⟩
theorem ORep.step {a : Addr} {o : O} (s : Step T H T' H') (e : H' a = H a) (h : ORep K mg T H a o) : ORep K mg T' H' a o := h.kp s.kp e
theorem ORep.some {a : Addr} {o : O} (h : ORep K mg T H a o) : H a ≠ none := by
  cases o with
  | lst ds => obtain ⟨xs, h1, _⟩ := h; rw [h1]; exact fun e => by cases e
  | dct kds => obtain ⟨kvs, h1, _⟩ := h; rw [h1]; exact fun e => by cases e
  | dtt kds => obtain ⟨kvs, h1, _⟩ := h; rw [h1]; exact fun e => by cases e
  | dpr w kds => obtain ⟨kvs, h1, _⟩ := h; rw [h1]; exact fun e => by cases e
  | ins c fs => obtain ⟨C, dx, fvs, _, h2, _⟩ := h; rw [h2]; exact fun e => by cases e
  | tbl x q => obtain ⟨_, ps, h1, _⟩ := h; rw [h1]; exact fun e => by cases e
theorem Sim.hid (s : Sim K mg T S H) (a : Addr) (h : a ∈ T.hid) : H a ≠ none := (s.hid' a h).1
theorem Sim.ndl (s : Sim K mg T S H) : T.loc.Nodup := (List.nodup_append.mp s.nd).1
theorem Sim.apart (s : Sim K mg T S H) {a : Addr} (h : a ∈ T.loc) (h2 : a ∈ T.hid) : False := (List.nodup_append.mp s.nd).2.2 a h a h2 rfl
theorem Sim.there (s : Sim K mg T S H) {a : Addr} (h : a ∈ T.loc) : H a ≠ none := by
  obtain ⟨i, hi, e⟩ := List.mem_iff_getElem.mp h
  have h1 : T.loc[i]? = some a := by rw [List.getElem?_eq_getElem hi, e]
  have hi2 : i < S.length := by rw [← s.len]; exact hi
  exact (s.obj i a S[i] h1 (List.getElem?_eq_getElem hi2)).some
theorem Sim.off (s : Sim K mg T S H) {p : Addr} (hp : H p = none) : T.off p := ⟨fun h => s.there h hp, fun h => s.hid p h hp⟩
theorem Sim.grow (s : Sim K mg T S H) (st : Step T H T H') (e : ∀ a ∈ T.loc, H' a = H a) (hl : HLen H') : Sim K mg T S H' :=
  ⟨s.len, s.nd, fun i a o h1 h2 => (s.obj i a o h1 h2).step st (e a (List.mem_of_getElem? h1)), fun a h => by rw [st.hkeep a h]; exact s.hid' a h, hl⟩
theorem Sim.stepNew {p : Addr} {o : HO} (s : Sim K mg T S H) (hp : H p = none) : Step T H T (upd H p o) :=
  ⟨⟨[], by simp⟩, rfl, fun b hb => upd_ne fun e => s.hid b hb (by rw [e]; exact hp), fun b u _ h => by rw [upd_ne (ne_of_none h hp)]; exact h, fun _ h n => absurd h n⟩
theorem hlen_new {p : Addr} {o : HO} (h : HLen H) (ho : ∀ xs, (o = .lst xs ∨ o = .tup xs ∨ (∃ x, o = .frz x (.lst xs)) ∨ ∃ x, o = .frz x (.tup xs)) → xs.length ≤ sizeLine) : HLen (upd H p o) := fun a xs hr => by
  by_cases e : a = p
  · subst e
    refine ho xs ?_
    rcases hr with (q | ⟨x, q⟩) | (q | ⟨x, q⟩) <;> rw [upd_same] at q <;> cases q
    · exact .inl rfl
    · exact .inr (.inr (.inl ⟨x, rfl⟩))
    · exact .inr (.inl rfl)
    · exact .inr (.inr (.inr ⟨x, rfl⟩))
  · refine h a xs ?_
    rcases hr with (q | ⟨x, q⟩) | (q | ⟨x, q⟩) <;> rw [upd_ne e] at q
    · exact .inl (.inl q)
    · exact .inl (.inr ⟨x, q⟩)
    · exact .inr (.inl q)
    · exact .inr (.inr ⟨x, q⟩)
theorem hlen_lst {p : Addr} {xs : List V} (h : HLen H) (hx : xs.length ≤ sizeLine) : HLen (upd H p (.lst xs)) := hlen_new h fun ys q => by
  rcases q with q | q | ⟨x, q⟩ | ⟨x, q⟩ <;> cases q
  exact hx
theorem hlen_tup {p : Addr} {xs : List V} (h : HLen H) (hx : xs.length ≤ sizeLine) : HLen (upd H p (.tup xs)) := hlen_new h fun ys q => by
  rcases q with q | q | ⟨x, q⟩ | ⟨x, q⟩ <;> cases q
  exact hx
theorem hlen_oth {p : Addr} {o : HO} (h : HLen H) (ho : ∀ xs, o ≠ .lst xs ∧ o ≠ .tup xs ∧ (∀ x, o ≠ .frz x (.lst xs)) ∧ ∀ x, o ≠ .frz x (.tup xs)) : HLen (upd H p o) := hlen_new h fun ys q => by
  obtain ⟨h1, h2, h3, h4⟩ := ho ys
  rcases q with q | q | ⟨x, q⟩ | ⟨x, q⟩
  · exact absurd q h1
  · exact absurd q h2
  · exact absurd q (h3 x)
  · exact absurd q (h4 x)
theorem Sim.new {p : Addr} {o : HO} (s : Sim K mg T S H) (hp : H p = none) (hl : HLen (upd H p o)) : Sim K mg T S (upd H p o) :=
  s.grow (s.stepNew hp) (fun a ha => upd_ne fun e => s.there ha (by rw [e]; exact hp)) hl
theorem Sim.llen (s : Sim K mg T S H) {a : Addr} {xs : List V} (h : LAt K T H a xs) : xs.length ≤ sizeLine := by
  rcases h with ⟨h, _⟩ | h
  · exact s.hl a xs (.inl h)
  · exact h.len
def Tb.add (T : Tb) (p : Addr) : Tb := ⟨T.loc ++ [p], T.hid⟩
theorem Sim.stepAlloc {p : Addr} {o : HO} (s : Sim K mg T S H) (hp : H p = none) : Step T H (T.add p) (upd H p o) := ⟨⟨[p], rfl⟩, rfl, (s.stepNew hp).hkeep, (s.stepNew hp).keep, fun a h n => by
  rcases List.mem_append.mp h with h | h
  · exact absurd h n
  · rw [List.mem_singleton.mp h]; exact hp⟩
theorem Sim.alloc {p : Addr} {u : HO} {o : O} (s : Sim K mg T S H) (hp : H p = none) (hl : HLen (upd H p u)) (ho : ORep K mg (T.add p) (upd H p u) p o) : Sim K mg (T.add p) (S ++ [o]) (upd H p u) where
  len := by
    show (T.loc ++ [p]).length = _
    rw [List.length_append, List.length_append, s.len]; rfl
  nd := by
    have h0 := List.nodup_append.mp s.nd
    refine List.nodup_append.mpr ⟨List.nodup_append.mpr ⟨h0.1, by simp, fun a ha b hb e => (s.off hp).1 (by rw [← List.mem_singleton.mp hb, ← e]; exact ha)⟩, h0.2.1, fun a ha b hb e => ?_⟩
    rcases List.mem_append.mp ha with ha | ha
    · exact h0.2.2 a ha b hb e
    · exact (s.off hp).2 (by rw [← List.mem_singleton.mp ha, e]; exact hb)
  obj := fun i a o' h1 h2 => by
    have h1 : (T.loc ++ [p])[i]? = Option.some a := h1
    by_cases hi : i < T.loc.length
    · rw [List.getElem?_append_left hi] at h1
      rw [List.getElem?_append_left (by rw [← s.len]; exact hi)] at h2
      exact (s.obj i a o' h1 h2).step (s.stepAlloc hp) (upd_ne fun e => (s.off hp).1 (by rw [← e]; exact List.mem_of_getElem? h1))
    · rw [List.getElem?_append_right (by omega)] at h1
      rw [List.getElem?_append_right (by rw [← s.len]; omega)] at h2
      rw [← s.len] at h2
      cases k : i - T.loc.length with
      | zero =>
        rw [k] at h1 h2
        cases h1; cases h2
        exact ho
      | succ j =>
        rw [k] at h1
        cases h1
  hid' := fun a h => by rw [(s.stepNew hp).hkeep a h]; exact s.hid' a h
  hl := hl
theorem Sim.stepSet {p : Addr} {u : HO} (s : Sim K mg T S H) (hp : p ∈ T.loc) : Step T H T (upd H p u) := ⟨⟨[], by simp⟩, rfl, fun b hb => upd_ne fun e => s.apart hp (by rw [← e]; exact hb), fun b v n h => by
  rw [upd_ne fun e => n.1 (by rw [e]; exact hp)]
  exact h, fun _ h n => absurd h n⟩
theorem Sim.set {p : Addr} {u : HO} {o : O} {n : Nat} (s : Sim K mg T S H) (hp : T.loc[n]? = Option.some p) (hl : HLen (upd H p u)) (ho : ORep K mg T (upd H p u) p o) : Sim K mg T (S.set n o) (upd H p u) where
  len := by rw [List.length_set, s.len]
  nd := s.nd
  obj := fun i a o' h1 h2 => by
    by_cases hi : i = n
    · subst hi
      rw [hp] at h1; cases h1
      have hlt : i < S.length := by rw [← s.len]; exact (List.getElem?_eq_some_iff.mp hp).1
      rw [List.getElem?_set_self hlt] at h2
      cases h2
      exact ho
    · rw [List.getElem?_set_ne (Ne.symm hi)] at h2
      refine (s.obj i a o' h1 h2).step (s.stepSet (List.mem_of_getElem? hp)) (upd_ne fun e => hi ?_)
      subst e
      exact nd_ix s.ndl h1 hp
  hid' := fun a h => by rw [(s.stepSet (List.mem_of_getElem? hp)).hkeep a h]; exact s.hid' a h
  hl := hl
end
def RepSt (K : PySem.W.Frag) (T : Tb) (H : Hp) (r : Env) (g : St) : Prop := r.length = g.length ∧ ∀ (i : Nat) (d : D), r[i]? = some (some d) → ∃ v, g[i]? = some (some v) ∧ Rep K T H v d
section
variable {K : PySem.W.Frag} {T T' : Tb} {H H' : Hp} {r : Env} {g : St}
theorem RepSt.kp (s : Kp T H T' H') (h : RepSt K T H r g) : RepSt K T' H' r g := ⟨h.1, fun i d e => by
  obtain ⟨v, h1, h2⟩ := h.2 i d e
  exact ⟨v, h1, h2.kp s⟩⟩
theorem RepSt.step (s : Step T H T' H') (h : RepSt K T H r g) : RepSt K T' H' r g := h.kp s.kp
theorem RepSt.set {i : Nat} {v : V} {d : D} (h : RepSt K T H r g) (hv : Rep K T H v d) : RepSt K T H (r.set i (some d)) (g.set i (some v)) := ⟨by rw [List.length_set, List.length_set, h.1], fun j e q => by
  by_cases hj : j = i
  · subst hj
    by_cases hl : j < r.length
    · rw [List.getElem?_set_self hl] at q
      cases q
      exact ⟨v, by rw [List.getElem?_set_self (by rw [← h.1]; exact hl)], hv⟩
    · rw [List.getElem?_eq_none (by rw [List.length_set]; omega)] at q
      cases q
  · rw [List.getElem?_set_ne (Ne.symm hj)] at q ⊢
    exact h.2 j e q⟩
theorem RepSt.forgetB {i : Nat} (h : RepSt K T H r g) : RepSt K T H (r.set i none) (g.set i none) := ⟨by rw [List.length_set, List.length_set, h.1], fun j e q => by
  by_cases hj : j = i
  · subst hj
    by_cases hl : j < r.length
    · rw [List.getElem?_set_self hl] at q
      cases q
    · rw [List.getElem?_eq_none (by rw [List.length_set]; omega)] at q
      cases q
  · rw [List.getElem?_set_ne (Ne.symm hj)] at q ⊢
    exact h.2 j e q⟩
end
inductive R (α : Type) where
  | ok (a : α) (S : Store) : R α
  | exc (n : Str) (S : Store) : R α
  | bad : R α
def R.bind {α β : Type} (x : R α) (f : α → Store → R β) : R β := match x with
  | .ok a S => f a S
  | .exc n S => .exc n S
  | .bad => .bad
abbrev EM := Env → Store → R D
abbrev AM := Env → Store → R (List D)
abbrev BM := Env → Store → R Bool
inductive Fl where
  | next | ret (d : D) | brk | cont
inductive Z where
  | ok (f : Fl) (r : Env) (S : Store) : Z
  | exc (n : Str) (r : Env) (S : Store) : Z
  | bad : Z
abbrev SM := Env → Store → Z
section
variable (K : PySem.W.Frag) (mg : Str → Option Value) (Wx : WX)
def Wish (n : Str) (g : St) (H : Hp) : Prop := ∀ cls, mg n = some cls → Wx cls none g H
def Out {α β : Type} (rel : Tb → Hp → β → α → Prop) (T : Tb) (g : St) (H : Hp) (x : R α) (Q : β → Hp → Prop) : Prop := match x with
  | .ok d S => ∀ T' H' v, Step T H T' H' → Sim K mg T' S H' → rel T' H' v d → Q v H'
  | .exc n S => ∀ T' H', Step T H T' H' → Sim K mg T' S H' → Wish mg Wx n g H'
  | .bad => False
def tD (m : EM) : TE := fun g H Q => ∃ T r S, RepSt K T H r g ∧ Sim K mg T S H ∧ Out K mg Wx (Rep K) T g H (m r S) Q
def tDA (m : AM) : TA := fun g H Q => ∃ T r S, RepSt K T H r g ∧ Sim K mg T S H ∧ Out K mg Wx (RepL K) T g H (m r S) Q
def tDT (m : BM) : TT := fun g H Q => ∃ T r S, RepSt K T H r g ∧ Sim K mg T S H ∧ Out K mg Wx (fun _ _ v d => v = d) T g H (m r S) Q
def ZOut (T : Tb) (H : Hp) (z : Z) (E : Ends) : Prop := match z with
  | .ok .next r' S' => ∀ T' H' g', Step T H T' H' → Sim K mg T' S' H' → RepSt K T' H' r' g' → E.nx g' H'
  | .ok (.ret d) r' S' => ∀ T' H' v, Step T H T' H' → Sim K mg T' S' H' → Rep K T' H' v d → E.rt v H'
  | .ok .brk r' S' => ∀ T' H' g', Step T H T' H' → Sim K mg T' S' H' → RepSt K T' H' r' g' → E.bk g' H'
  | .ok .cont r' S' => ∀ T' H' g', Step T H T' H' → Sim K mg T' S' H' → RepSt K T' H' r' g' → E.ct g' H'
  | .exc n r' S' => ∀ T' H' g', Step T H T' H' → Sim K mg T' S' H' → RepSt K T' H' r' g' → Wish mg Wx n g' H'
  | .bad => False
def tDS (m : SM) : TS := fun E g H => ∃ T r S, RepSt K T H r g ∧ Sim K mg T S H ∧ ZOut K mg Wx T H (m r S) E
end
end Dv
namespace Dv
open PySem L2
theorem Sim.newGet {K : PySem.W.Frag} {mg : Str → Option Value} {T : Tb} {S : Store} {H : Hp} (s : Sim K mg T S H) {p : Addr} : (T.add p).loc[S.length]? = some p := by
  show (T.loc ++ [p])[S.length]? = some p
  rw [← s.len, List.getElem?_append_right (Nat.le_refl _), Nat.sub_self]
  rfl
section
variable {X : Cx}
theorem pe_imp {e : Expr} {t t' : TE} (h : PE X e t) (i : ∀ g H Q, t' g H Q → t g H Q) : PE X e t' := ⟨fun pins s g H Q I w => h.run pins s g H Q I (i g H Q w)⟩
theorem pt_imp {e : Expr} {t t' : TT} (h : PT X e t) (i : ∀ g H Q, t' g H Q → t g H Q) : PT X e t' := ⟨fun pins s g H Q I w => h.run pins s g H Q I (i g H Q w)⟩
theorem pw_imp {e : Expr} {t t' : TT} (h : PW X e t) (i : ∀ g H Q, t' g H Q → t g H Q) : PW X e t' := ⟨fun wh pins s g H Q I w => h.run wh pins s g H Q I (i g H Q w)⟩
theorem pa_imp {es : List Expr} {t t' : TA} (h : PA X es t) (i : ∀ g H Q, t' g H Q → t g H Q) : PA X es t' := ⟨fun pos pins s g H Q I w => h.run pos pins s g H Q I (i g H Q w)⟩
theorem ps_imp {st : Stmt} {t t' : TS} (h : PS X st t) (i : ∀ E g H, t' E g H → t E g H) : PS X st t' := ⟨fun pins s g H E I w => h.run pins s g H E I (i E g H w)⟩
theorem pss_imp {st : List Stmt} {t t' : TS} (h : PSs X st t) (i : ∀ E g H, t' E g H → t E g H) : PSs X st t' := ⟨fun pins s g H E I w => h.run pins s g H E I (i E g H w)⟩
theorem pi_imp {tg e : Expr} {t t' : TI} (h : PI X tg e t) (i : ∀ g H R, t' g H R → t g H R) : PI X tg e t' := ⟨fun pins s g H R I w => h.run pins s g H R I (i g H R w)⟩
end
def ofO {α : Type} (o : Option α) (S : Store) : R α := match o with
  | some a => .ok a S
  | none => .bad
section
variable {K : PySem.W.Frag} {mg : Str → Option Value} {Wx : WX} {α β γ δ : Type} {relA : Tb → Hp → β → α → Prop} {relB : Tb → Hp → δ → γ → Prop} {T : Tb} {g : St} {H : Hp}
theorem Out.bind {x : R α} {f : α → Store → R γ} {Q : δ → Hp → Prop} {Q1 : β → Hp → Prop} (h : Out K mg Wx relB T g H (x.bind f) Q)
    (k : ∀ a S T1 H1 v, Step T H T1 H1 → Sim K mg T1 S H1 → relA T1 H1 v a → Out K mg Wx relB T1 g H1 (f a S) Q → Q1 v H1) : Out K mg Wx relA T g H x Q1 := by
  cases x with
  | bad => exact h
  | exc n S => exact h
  | ok a S =>
    intro T1 H1 v st sim rel
    refine k a S T1 H1 v st sim rel ?_
    have h : Out K mg Wx relB T g H (f a S) Q := h
    revert h
    cases f a S with
    | bad => exact fun h => h
    | exc n S2 => exact fun h T2 H2 st2 sim2 => h T2 H2 (st.trans st2) sim2
    | ok b S2 => exact fun h T2 H2 w st2 sim2 rel2 => h T2 H2 w (st.trans st2) sim2 rel2
theorem Out.use {o : Option γ} {S : Store} {Q : δ → Hp → Prop} {P : Prop} (h : Out K mg Wx relB T g H (ofO o S) Q)
    (k : ∀ b, o = some b → (∀ T' H' v, Step T H T' H' → Sim K mg T' S H' → relB T' H' v b → Q v H') → P) : P := by
  cases o with
  | none => exact h.elim
  | some b => exact k b rfl h
end
def mVar (i : Nat) : EM := fun r S => match r[i]? with
  | some (some d) => .ok d S
  | _ => .bad
def mC (d : D) : EM := fun _ S => .ok d S
section
variable {X : Cx} {Wx : WX}
theorem jv (i : Nat) {x : Str} {pos : Pos} (hN : X.N[i]? = some x := by rfl) (hv : Vis X.env.scope x := by first | exact Or.inl rfl | exact Or.inr (Or.inl rfl) | exact Or.inr (Or.inr rfl)) (hd : (x == ("__debug__" : Str)) = false := by decide)
    (hcd : (x == ("__classdict__" : Str)) = false := by decide) : PE X (.Name x pos) (tD X.K X.mg Wx (mVar i)) := by
  refine pe_imp (pe_var hN hv hd hcd) fun g H Q h => ?_
  obtain ⟨T, r, S, rs, sim, h⟩ := h
  unfold mVar at h
  split at h
  · rename_i d e
    obtain ⟨v, h1, h2⟩ := rs.2 i d e
    exact ⟨v, h1, h T H v (Step.refl T H) sim h2⟩
  · exact h.elim
theorem j_c {e : Expr} {v : V} {d : D} (h : PE X e (tC v)) (hd : ∀ T H, Rep X.K T H v d) : PE X e (tD X.K X.mg Wx (mC d)) := by
  refine pe_imp h fun g H Q h => ?_
  obtain ⟨T, r, S, rs, sim, h⟩ := h
  exact h T H v (Step.refl T H) sim (hd T H)
theorem j_int {i j pos} : PE X (.Constant (.int i) j pos) (tD X.K X.mg Wx (mC (.int i))) := j_c pe_int fun _ _ => .int i
theorem j_bl {i j pos} : PE X (.Constant (.bool i) j pos) (tD X.K X.mg Wx (mC (.bl i))) := j_c pe_bl fun _ _ => .bl i
theorem j_str {i j pos} : PE X (.Constant (.str i) j pos) (tD X.K X.mg Wx (mC (.str i))) := j_c pe_str fun _ _ => .str i
theorem j_non {j pos} : PE X (.Constant .none j pos) (tD X.K X.mg Wx (mC .non)) := j_c pe_non fun _ _ => .non
end
def mNil : AM := fun _ S => .ok [] S
def mCons (m : EM) (ms : AM) : AM := fun r S => (m r S).bind fun d S1 => (ms r S1).bind fun ds S2 => .ok (d :: ds) S2
def mTup (ms : AM) : EM := fun r S => (ms r S).bind fun ds S1 => if ds.length ≤ 100000 then .ok (.tup ds) S1 else .bad
def mLst (ms : AM) : EM := fun r S => (ms r S).bind fun ds S1 => if ds.length ≤ 100000 then .ok (.lst ds) S1 else .bad
def mNewL (ms : AM) : EM := fun r S => (ms r S).bind fun ds S1 => if ds.length ≤ 100000 then .ok (.loc S1.length) (S1 ++ [.lst ds]) else .bad
theorem sz5 {n : Nat} (h : n ≤ 100000) : n ≤ sizeLine := Nat.le_trans h (by decide)
section
variable {X : Cx} {Wx : WX} {e : Expr} {es : List Expr} {pos : Pos} {m : EM} {ms : AM}
theorem ja_nil : PA X [] (tDA X.K X.mg Wx mNil) := by
  refine pa_imp pa_nil fun g H Q h => ?_
  obtain ⟨T, r, S, rs, sim, h⟩ := h
  exact h T H [] (Step.refl T H) sim .nil
theorem ja_cons (ha : PE X e (tD X.K X.mg Wx m)) (hr : PA X es (tDA X.K X.mg Wx ms)) (hs : starEach (e :: es) X.env = (false, eval e X.env) :: starEach es X.env := by rfl) : PA X (e :: es) (tDA X.K X.mg Wx (mCons m ms)) := by
  refine pa_imp (pa_cons ha hr hs) fun g H Q h => ?_
  obtain ⟨T, r, S, rs, sim, h⟩ := h
  refine ⟨T, r, S, rs, sim, Out.bind h fun d S1 T1 H1 v st sim1 rel h1 => ?_⟩
  refine ⟨T1, r, S1, rs.step st, sim1, Out.bind h1 fun ds S2 T2 H2 vs st2 sim2 rel2 h2 => ?_⟩
  exact h2 T2 H2 (v :: vs) (Step.refl T2 H2) sim2 (.cons (rel.step st2) rel2)
theorem j_tup {x1} (h : PA X es (tDA X.K X.mg Wx ms)) : PE X (.Tuple es x1 pos) (tD X.K X.mg Wx (mTup ms)) := by
  refine pe_imp (pe_tup h) fun g H Q h => ?_
  obtain ⟨T, r, S, rs, sim, h⟩ := h
  refine ⟨T, r, S, rs, sim, Out.bind h fun ds S1 T1 H1 vs st sim1 rel h1 => ?_⟩
  split at h1
  · rename_i hz
    have hz' : vs.length ≤ sizeLine := by rw [rel.length]; exact sz5 hz
    refine ⟨hz', fun p hp => ?_⟩
    have st1 : Step T1 H1 T1 (upd H1 p (.tup vs)) := sim1.stepNew hp
    exact h1 T1 _ _ st1 (sim1.new hp (hlen_tup sim1.hl hz')) (.tup upd_same (sim1.off hp) (rel.step st1))
  · exact h1.elim
theorem j_lst (h : PA X es (tDA X.K X.mg Wx ms)) : PE X (.List es pos) (tD X.K X.mg Wx (mLst ms)) := by
  refine pe_imp (pe_lst h) fun g H Q h => ?_
  obtain ⟨T, r, S, rs, sim, h⟩ := h
  refine ⟨T, r, S, rs, sim, Out.bind h fun ds S1 T1 H1 vs st sim1 rel h1 => ?_⟩
  split at h1
  · rename_i hz
    have hz' : vs.length ≤ sizeLine := by rw [rel.length]; exact sz5 hz
    refine ⟨hz', fun p hp => ?_⟩
    have st1 : Step T1 H1 T1 (upd H1 p (.lst vs)) := sim1.stepNew hp
    exact h1 T1 _ _ st1 (sim1.new hp (hlen_lst sim1.hl hz')) (.lst upd_same (sim1.off hp) (rel.step st1))
  · exact h1.elim
theorem j_newL (h : PA X es (tDA X.K X.mg Wx ms)) : PE X (.List es pos) (tD X.K X.mg Wx (mNewL ms)) := by
  refine pe_imp (pe_lst h) fun g H Q h => ?_
  obtain ⟨T, r, S, rs, sim, h⟩ := h
  refine ⟨T, r, S, rs, sim, Out.bind h fun ds S1 T1 H1 vs st sim1 rel h1 => ?_⟩
  split at h1
  · rename_i hz
    have hz' : vs.length ≤ sizeLine := by rw [rel.length]; exact sz5 hz
    refine ⟨hz', fun p hp => ?_⟩
    have st1 : Step T1 H1 (T1.add p) (upd H1 p (.lst vs)) := sim1.stepAlloc hp
    refine h1 (T1.add p) _ _ st1 (sim1.alloc hp (hlen_lst sim1.hl hz') ⟨vs, upd_same, rel.step st1⟩) (.loc ?_)
    exact sim1.newGet
  · exact h1.elim
end
section
variable (K : PySem.W.Frag) (mg : Str → Option Value)
def POk (r : List V → Hp → VK → Prop) (f : List D → Store → Option D) : Prop := ∀ T S H vs ds d (Q : VK), Sim K mg T S H → RepL K T H vs ds → f ds S = some d →
  (∀ H' v, Step T H T H' → Sim K mg T S H' → Rep K T H' v d → Q v H') → r vs H Q
def POk2 (r : R2) (f : D → D → Store → Option D) : Prop := ∀ T S H x y a b d (Q : VK), Sim K mg T S H → Rep K T H x a → Rep K T H y b → f a b S = some d →
  (∀ H' v, Step T H T H' → Sim K mg T S H' → Rep K T H' v d → Q v H') → r x y H Q
def POk1 (r : V → Hp → VK → Prop) (f : D → Store → Option D) : Prop := ∀ T S H x a d (Q : VK), Sim K mg T S H → Rep K T H x a → f a S = some d →
  (∀ H' v, Step T H T H' → Sim K mg T S H' → Rep K T H' v d → Q v H') → r x H Q
end
def mBin (f : D → D → Store → Option D) (ma mb : EM) : EM := fun r S => (ma r S).bind fun a S1 => (mb r S1).bind fun b S2 => ofO (f a b S2) S2
def mUn (f : D → Store → Option D) (ma : EM) : EM := fun r S => (ma r S).bind fun a S1 => ofO (f a S1) S1
def mCall (f : List D → Store → Option D) (ms : AM) : EM := fun r S => (ms r S).bind fun ds S1 => ofO (f ds S1) S1
section
variable {X : Cx} {Wx : WX} {a b : Expr} {es : List Expr} {pos : Pos} {ma mb : EM} {ms : AM}
theorem tOp_of {K : PySem.W.Frag} {mg : Str → Option Value} {r : R2} {f : D → D → Store → Option D} (hf : POk2 K mg r f) : ∀ g H Q, tD K mg Wx (mBin f ma mb) g H Q → tOp r (tD K mg Wx ma) (tD K mg Wx mb) g H Q := by
  intro g H Q h
  obtain ⟨T, r, S, rs, sim, h⟩ := h
  refine ⟨T, r, S, rs, sim, Out.bind h fun x S1 T1 H1 v st sim1 rel h1 => ?_⟩
  refine ⟨T1, r, S1, rs.step st, sim1, Out.bind h1 fun y S2 T2 H2 w st2 sim2 rel2 h2 => ?_⟩
  exact Out.use h2 fun d e k => hf T2 S2 H2 v w x y d Q sim2 (rel.step st2) rel2 e fun H' v' s' => k T2 H' v' s'
theorem j_bin {op : Operator} {r : R2} {f : D → D → Store → Option D} (ho : OpR X (binaryOp op) r) (hf : POk2 X.K X.mg r f) (ha : PE X a (tD X.K X.mg Wx ma)) (hb : PE X b (tD X.K X.mg Wx mb)) : PE X (.BinOp a op b pos) (tD X.K X.mg Wx (mBin f ma mb)) :=
  pe_imp (pe_op ho ha hb) (tOp_of hf)
theorem j_cmp {op : CmpOp} {r : R2} {f : D → D → Store → Option D} (ho : OpR X (compareOp op) r) (hf : POk2 X.K X.mg r f) (hm : behindInMarks op b = false) (ha : PE X a (tD X.K X.mg Wx ma)) (hb : PE X b (tD X.K X.mg Wx mb)) : PE X (.Compare a [op] [b] pos) (tD X.K X.mg Wx (mBin f ma mb)) :=
  pe_imp (pe_cmpR ho ha hb hm) (tOp_of hf)
theorem j_un {op : UnaryOp} {r : V → Hp → VK → Prop} {f : D → Store → Option D} (ho : UnR X (unaryOp op) r) (hf : POk1 X.K X.mg r f) (ha : PE X a (tD X.K X.mg Wx ma)) : PE X (.UnaryOp op a pos) (tD X.K X.mg Wx (mUn f ma)) := by
  refine pe_imp (pe_un ho ha) fun g H Q h => ?_
  obtain ⟨T, r, S, rs, sim, h⟩ := h
  refine ⟨T, r, S, rs, sim, Out.bind h fun x S1 T1 H1 v st sim1 rel h1 => ?_⟩
  exact Out.use h1 fun d e k => hf T1 S1 H1 v x d Q sim1 rel e fun H' v' s' => k T1 H' v' s'
theorem j_ix {r : R2} {f : D → D → Store → Option D} (ho : IxR X r) (hf : POk2 X.K X.mg r f) (hs : PlainIx b) (ha : PE X a (tD X.K X.mg Wx ma)) (hb : PE X b (tD X.K X.mg Wx mb)) : PE X (.Subscript a b pos) (tD X.K X.mg Wx (mBin f ma mb)) :=
  pe_imp (pe_ix ho ha hb hs) (tOp_of hf)
theorem tCB_of {K : PySem.W.Frag} {mg : Str → Option Value} {r : List V → Hp → VK → Prop} {f : List D → Store → Option D} (hf : POk K mg r f) : ∀ g H Q, tD K mg Wx (mCall f ms) g H Q → tCB r (tDA K mg Wx ms) g H Q := by
  intro g H Q h
  obtain ⟨T, r, S, rs, sim, h⟩ := h
  refine ⟨T, r, S, rs, sim, Out.bind h fun x S1 T1 H1 v st sim1 rel h1 => ?_⟩
  exact Out.use h1 fun d e k => hf T1 S1 H1 v x d Q sim1 rel e fun H' v' s' => k T1 H' v' s'
theorem j_callB {x : Str} {p : Pos} {e : Expr} {id : String} {r : List V → Hp → VK → Prop} {f : List D → Store → Option D} (hc : CallR X (.builtin id) r) (hf : POk X.K X.mg r f) (hg : Gl X x) (hm : X.mg x = none) (hv : bootBuiltins x = some (.builtin id)) (ha : PA X (e :: es) (tDA X.K X.mg Wx ms))
    (hn : x ≠ "__name__" := by decide) (hdb : (x == ("__debug__" : Str)) = false := by decide) (he : starEach (e :: es) X.env = (false, eval e X.env) :: starEach es X.env := by rfl) (hpl : (backTo pos (starEach es X.env)).any (·.1) = false := by rfl) :
    PE X (.Call (.Name x p) (e :: es) [] pos) (tD X.K X.mg Wx (mCall f ms)) := pe_imp (pe_callB hc hg hm hv ha hn hdb he hpl) (tCB_of hf)
theorem j_callT {x : Str} {p : Pos} {e : Expr} {id : String} {r : List V → Hp → VK → Prop} {f : List D → Store → Option D} (hc : CallR X (.type id) r) (hf : POk X.K X.mg r f) (hg : Gl X x) (hm : X.mg x = none) (hv : bootBuiltins x = some (.type id)) (ha : PA X (e :: es) (tDA X.K X.mg Wx ms))
    (hn : x ≠ "__name__" := by decide) (hdb : (x == ("__debug__" : Str)) = false := by decide) (he : starEach (e :: es) X.env = (false, eval e X.env) :: starEach es X.env := by rfl) (hpl : (backTo pos (starEach es X.env)).any (·.1) = false := by rfl) :
    PE X (.Call (.Name x p) (e :: es) [] pos) (tD X.K X.mg Wx (mCall f ms)) := pe_imp (pe_callTy hc hg hm hv ha hn hdb he hpl) (tCB_of hf)
end
end Dv
namespace Dv
open PySem L2
theorem Rep.bl_of {K : PySem.W.Frag} {T : Tb} {H : Hp} {v : V} {b : Bool} (h : Rep K T H v (.bl b)) : v = .bl b := by
  cases h
  rfl
theorem Rep.int_of {K : PySem.W.Frag} {T : Tb} {H : Hp} {v : V} {b : Int} (h : Rep K T H v (.int b)) : v = .int b := by
  cases h
  rfl
theorem Rep.str_of {K : PySem.W.Frag} {T : Tb} {H : Hp} {v : V} {b : Str} (h : Rep K T H v (.str b)) : v = .str b := by
  cases h
  rfl
def asB (d : D) : Option Bool := match d with
  | .bl b => some b
  | _ => none
def truD (d : D) (S : Store) : Option Bool := match d with
  | .non => some false
  | .bl b => some b
  | .int i => some (i != 0)
  | .str x => if x.length ≤ 100000 then some ((x.length : Int) != 0) else none
  | .tup xs => some (!xs.isEmpty)
  | .lst xs => some (!xs.isEmpty)
  | .scr ns => some (!ns.isEmpty)
  | .loc n => match S[n]? with
    | some (.lst xs) => some (!xs.isEmpty)
    | _ => none
  | _ => none
def mT (m : EM) : BM := fun r S => (m r S).bind fun d S1 => ofO (asB d) S1
def mTru (m : EM) : BM := fun r S => (m r S).bind fun d S1 => ofO (truD d S1) S1
def mNotT (m : BM) : BM := fun r S => (m r S).bind fun b S1 => .ok (!b) S1
def mAndT (ma mb : BM) : BM := fun r S => (ma r S).bind fun b S1 => if b = true then mb r S1 else .ok false S1
def mOrT (ma mb : BM) : BM := fun r S => (ma r S).bind fun b S1 => if b = true then .ok true S1 else mb r S1
def mAnd (ma mb : EM) : EM := fun r S => (ma r S).bind fun d S1 => match d with
  | .bl true => mb r S1
  | .bl false => .ok (.bl false) S1
  | _ => .bad
def mOr (ma mb : EM) : EM := fun r S => (ma r S).bind fun d S1 => match d with
  | .bl true => .ok (.bl true) S1
  | .bl false => mb r S1
  | _ => .bad
def mNot (ma : EM) : EM := fun r S => (ma r S).bind fun d S1 => match d with
  | .bl b => .ok (.bl (!b)) S1
  | _ => .bad
def mIf (mt : BM) (ma mb : EM) : EM := fun r S => (mt r S).bind fun b S1 => if b = true then ma r S1 else mb r S1
def mChain (f f' : D → D → Store → Option D) (ma mb mc : EM) : EM := fun r S => (ma r S).bind fun a S1 => (mb r S1).bind fun b S2 => (ofO (f a b S2) S2).bind fun d S3 => match d with
  | .bl true => (mc r S3).bind fun c S4 => ofO (f' b c S4) S4
  | .bl false => .ok (.bl false) S3
  | _ => .bad
section
variable {X : Cx} {Wx : WX} {a b c : Expr} {rest : List Expr} {pos : Pos} {ma mb mc : EM} {ta tb : BM}
theorem isEmpty_rep {K : PySem.W.Frag} {T : Tb} {H : Hp} {xs : List V} {ds : List D} (h : RepL K T H xs ds) : (!xs.isEmpty) = !ds.isEmpty := by
  cases h <;> rfl
theorem truD_ok {K : PySem.W.Frag} {mg : Str → Option Value} {T : Tb} {S : Store} {H : Hp} {v : V} {d : D} {b : Bool} (sim : Sim K mg T S H) (h : Rep K T H v d) (e : truD d S = some b) : TruV K v H b := by
  cases h with
  | non => cases e; rfl
  | bl x => cases e; rfl
  | int i => cases e; rfl
  | str x =>
    have e : (if x.length ≤ 100000 then some ((x.length : Int) != 0) else none) = some b := e
    by_cases hz : x.length ≤ 100000
    · rw [if_pos hz] at e
      cases e
      exact ⟨sz5 hz, rfl⟩
    · rw [if_neg hz] at e
      cases e
  | tup h n r => cases e; exact .inr (.inl ⟨_, SqT.of h, (isEmpty_rep r).symm⟩)
  | lst h n r => cases e; exact .inl ⟨_, SqL.of h, (isEmpty_rep r).symm⟩
  | scr h =>
    cases e
    refine .inl ⟨_, h.sq, ?_⟩
    rename_i ns
    cases ns <;> rfl
  | dct h n q r => cases e
  | dtt h n q r => cases e
  | adr a => cases e
  | dpr h n q r r2 => cases e
  | ty x => cases e
  | tux _ _ _ _ => cases e
  | loc hn =>
    simp only [truD] at e
    split at e
    · rename_i xs q
      cases e
      obtain ⟨ys, h1, h2⟩ := sim.obj _ _ _ hn q
      exact .inl ⟨ys, .inl (.inl h1), (isEmpty_rep h2).symm⟩
    · cases e
theorem tTest_of {K : PySem.W.Frag} {mg : Str → Option Value} : ∀ g H Q, tDT K mg Wx (mT ma) g H Q → tTest (tD K mg Wx ma) g H Q := by
  intro g H Q h
  obtain ⟨T, r, S, rs, sim, h⟩ := h
  refine ⟨T, r, S, rs, sim, Out.bind h fun x S1 T1 H1 v st sim1 rel h1 => ?_⟩
  refine Out.use h1 fun k e q => ?_
  cases x <;> cases e
  rw [rel.bl_of]
  exact ⟨_, rfl, q T1 H1 _ (Step.refl T1 H1) sim1 rfl⟩
theorem jt_cmp {op : CmpOp} {r : R2} {f : D → D → Store → Option D} (ho : OpR X (compareOp op) r) (hf : POk2 X.K X.mg r f) (hm : behindInMarks op b = false) (ha : PE X a (tD X.K X.mg Wx ma)) (hb : PE X b (tD X.K X.mg Wx mb)) : PT X (.Compare a [op] [b] pos) (tDT X.K X.mg Wx (mT (mBin f ma mb))) :=
  pt_imp (pt_cmpR ho ha hb hm) fun g H Q h => by
    obtain ⟨T, r, S, rs, sim, h⟩ := tTest_of g H Q h
    exact tOp_of hf g H _ ⟨T, r, S, rs, sim, h⟩
theorem jt_tru (ha : PE X a (tD X.K X.mg Wx ma)) (he : ∀ whole, isTrue a X.env whole = (do let v ← whole; standAt a.pos; holding [v] (truthy v)) := by intro _; rfl) : PT X a (tDT X.K X.mg Wx (mTru ma)) :=
  pt_imp (pt_truth ha he) fun g H Q h => by
    obtain ⟨T, r, S, rs, sim, h⟩ := h
    refine ⟨T, r, S, rs, sim, Out.bind h fun x S1 T1 H1 v st sim1 rel h1 => ?_⟩
    exact Out.use h1 fun k e q => ⟨k, truD_ok sim1 rel e, q T1 H1 k (Step.refl T1 H1) sim1 rfl⟩
theorem jt_not (ha : PT X a (tDT X.K X.mg Wx ta)) : PT X (.UnaryOp .Not a pos) (tDT X.K X.mg Wx (mNotT ta)) :=
  pt_imp (pt_not ha) fun g H Q h => by
    obtain ⟨T, r, S, rs, sim, h⟩ := h
    refine ⟨T, r, S, rs, sim, Out.bind h fun x S1 T1 H1 v st sim1 rel h1 => ?_⟩
    subst rel
    exact h1 T1 H1 _ (Step.refl T1 H1) sim1 rfl
theorem jw_and1 (ha : PT X a (tDT X.K X.mg Wx ta)) : PW X (.BoolOp .And [a] pos) (tDT X.K X.mg Wx ta) := pw_and1 ha
theorem jw_or1 (ha : PT X a (tDT X.K X.mg Wx ta)) : PW X (.BoolOp .Or [a] pos) (tDT X.K X.mg Wx ta) := pw_or1 ha
theorem jw_and (ha : PT X a (tDT X.K X.mg Wx ta)) (hb : PW X (.BoolOp .And (b :: rest) pos) (tDT X.K X.mg Wx tb)) : PW X (.BoolOp .And (a :: b :: rest) pos) (tDT X.K X.mg Wx (mAndT ta tb)) :=
  pw_imp (pw_and ha hb) fun g H Q h => by
    obtain ⟨T, r, S, rs, sim, h⟩ := h
    refine ⟨T, r, S, rs, sim, Out.bind h fun x S1 T1 H1 v st sim1 rel h1 => ?_⟩
    subst rel
    cases v with
    | true => exact ⟨T1, r, S1, rs.step st, sim1, h1⟩
    | false => exact h1 T1 H1 _ (Step.refl T1 H1) sim1 rfl
theorem jw_or (ha : PT X a (tDT X.K X.mg Wx ta)) (hb : PW X (.BoolOp .Or (b :: rest) pos) (tDT X.K X.mg Wx tb)) : PW X (.BoolOp .Or (a :: b :: rest) pos) (tDT X.K X.mg Wx (mOrT ta tb)) :=
  pw_imp (pw_or ha hb) fun g H Q h => by
    obtain ⟨T, r, S, rs, sim, h⟩ := h
    refine ⟨T, r, S, rs, sim, Out.bind h fun x S1 T1 H1 v st sim1 rel h1 => ?_⟩
    subst rel
    cases v with
    | true => exact h1 T1 H1 _ (Step.refl T1 H1) sim1 rfl
    | false => exact ⟨T1, r, S1, rs.step st, sim1, h1⟩
theorem jw_pt {e : Expr} (h : PW X e (tDT X.K X.mg Wx ta)) : PT X e (tDT X.K X.mg Wx ta) := PW.pt h
theorem j_one {op} (h : PE X a (tD X.K X.mg Wx ma)) : PE X (.BoolOp op [a] pos) (tD X.K X.mg Wx ma) := pe_one h
theorem j_and (ha : PE X a (tD X.K X.mg Wx ma)) (hb : PE X (.BoolOp .And (b :: rest) pos) (tD X.K X.mg Wx mb)) : PE X (.BoolOp .And (a :: b :: rest) pos) (tD X.K X.mg Wx (mAnd ma mb)) :=
  pe_imp (pe_and ha hb) fun g H Q h => by
    obtain ⟨T, r, S, rs, sim, h⟩ := h
    refine ⟨T, r, S, rs, sim, Out.bind h fun x S1 T1 H1 v st sim1 rel h1 => ?_⟩
    cases x with
    | bl k =>
      rw [rel.bl_of]
      refine ⟨k, rfl, ?_⟩
      cases k with
      | true => exact ⟨T1, r, S1, rs.step st, sim1, h1⟩
      | false => exact h1 T1 H1 _ (Step.refl T1 H1) sim1 (.bl false)
    | _ => exact h1.elim
theorem j_or (ha : PE X a (tD X.K X.mg Wx ma)) (hb : PE X (.BoolOp .Or (b :: rest) pos) (tD X.K X.mg Wx mb)) : PE X (.BoolOp .Or (a :: b :: rest) pos) (tD X.K X.mg Wx (mOr ma mb)) :=
  pe_imp (pe_or ha hb) fun g H Q h => by
    obtain ⟨T, r, S, rs, sim, h⟩ := h
    refine ⟨T, r, S, rs, sim, Out.bind h fun x S1 T1 H1 v st sim1 rel h1 => ?_⟩
    cases x with
    | bl k =>
      rw [rel.bl_of]
      refine ⟨k, rfl, ?_⟩
      cases k with
      | true => exact h1 T1 H1 _ (Step.refl T1 H1) sim1 (.bl true)
      | false => exact ⟨T1, r, S1, rs.step st, sim1, h1⟩
    | _ => exact h1.elim
theorem j_not (ha : PE X a (tD X.K X.mg Wx ma)) : PE X (.UnaryOp .Not a pos) (tD X.K X.mg Wx (mNot ma)) :=
  pe_imp (pe_not ha) fun g H Q h => by
    obtain ⟨T, r, S, rs, sim, h⟩ := h
    refine ⟨T, r, S, rs, sim, Out.bind h fun x S1 T1 H1 v st sim1 rel h1 => ?_⟩
    cases x with
    | bl k =>
      rw [rel.bl_of]
      exact ⟨k, rfl, h1 T1 H1 _ (Step.refl T1 H1) sim1 (.bl (!k))⟩
    | _ => exact h1.elim
theorem j_if (hc : PT X c (tDT X.K X.mg Wx ta)) (ha : PE X a (tD X.K X.mg Wx ma)) (hb : PE X b (tD X.K X.mg Wx mb)) : PE X (.IfExp c a b pos) (tD X.K X.mg Wx (mIf ta ma mb)) :=
  pe_imp (pe_ifExp hc ha hb) fun g H Q h => by
    obtain ⟨T, r, S, rs, sim, h⟩ := h
    refine ⟨T, r, S, rs, sim, Out.bind h fun x S1 T1 H1 v st sim1 rel h1 => ?_⟩
    subst rel
    cases v with
    | true => exact ⟨T1, r, S1, rs.step st, sim1, h1⟩
    | false => exact ⟨T1, r, S1, rs.step st, sim1, h1⟩
theorem tChain_of {K : PySem.W.Frag} {mg : Str → Option Value} {r r' : R2} {f f' : D → D → Store → Option D} (hf : POk2 K mg r f) (hf' : POk2 K mg r' f') : ∀ g H Q, tD K mg Wx (mChain f f' ma mb mc) g H Q → tChain r r' (tD K mg Wx ma) (tD K mg Wx mb) (tD K mg Wx mc) g H Q := by
  intro g H Q h
  obtain ⟨T, en, S, rs, sim, h⟩ := h
  refine ⟨T, en, S, rs, sim, Out.bind h fun x S1 T1 H1 v st sim1 rel h1 => ?_⟩
  refine ⟨T1, en, S1, rs.step st, sim1, Out.bind h1 fun y S2 T2 H2 w st2 sim2 rel2 h2 => ?_⟩
  have h3 := Out.bind (relA := Rep K) (Q1 := fun z H3 => ∃ k, z = V.bl k ∧ (if k = true then tD K mg Wx mc g H3 fun w' H4 => r' w w' H4 Q else Q (.bl false) H3)) h2 fun d S3 T3 H3 z st3 sim3 rel3 h3 => by
    cases d with
    | bl k =>
      rw [rel3.bl_of]
      refine ⟨k, rfl, ?_⟩
      cases k with
      | false => exact h3 T3 H3 _ (Step.refl T3 H3) sim3 (.bl false)
      | true =>
        refine ⟨T3, en, S3, (rs.step st).step (st2.trans st3), sim3, Out.bind h3 fun u S4 T4 H4 w4 st4 sim4 rel4 h4 => ?_⟩
        exact Out.use h4 fun d' e' k' => hf' T4 S4 H4 w w4 y u d' Q sim4 (rel2.step (st3.trans st4)) rel4 e' fun H' v' s' => k' T4 H' v' s'
    | _ => exact h3.elim
  exact Out.use h3 fun d e k => hf T2 S2 H2 v w x y d _ sim2 (rel.step st2) rel2 e fun H' v' s' => k T2 H' v' s'
theorem j_chain {op op' : CmpOp} {r r' : R2} {f f' : D → D → Store → Option D} (ho : OpR X (compareOp op) r) (hf : POk2 X.K X.mg r f) (ho' : OpR X (compareOp op') r') (hf' : POk2 X.K X.mg r' f') (ha : PE X a (tD X.K X.mg Wx ma)) (hb : PE X b (tD X.K X.mg Wx mb)) (hc : PE X c (tD X.K X.mg Wx mc)) (hm : lastMarks [op, op'] [b, c] = false := by with_unfolding_all rfl) :
    PE X (.Compare a [op, op'] [b, c] pos) (tD X.K X.mg Wx (mChain f f' ma mb mc)) :=
  pe_imp (pe_chain ho ho' ha hb hc hm) (tChain_of hf hf')
end
end Dv
namespace Dv
open PySem L2
def bindS {α : Type} (x : R α) (r : Env) (f : α → Store → Z) : Z := match x with
  | .ok a S => f a S
  | .exc n S => .exc n r S
  | .bad => .bad
section
variable {K : PySem.W.Frag} {mg : Str → Option Value} {Wx : WX} {T T1 : Tb} {H H1 : Hp} {E : Ends} {α β : Type} {rel : Tb → Hp → β → α → Prop} {r : Env} {g : St}
theorem ZOut.step {z : Z} (st : Step T H T1 H1) (h : ZOut K mg Wx T H z E) : ZOut K mg Wx T1 H1 z E := by
  cases z with
  | bad => exact h
  | exc n r' S' => exact fun T' H' g' s => h T' H' g' (st.trans s)
  | ok f r' S' =>
    cases f with
    | next => exact fun T' H' g' s => h T' H' g' (st.trans s)
    | ret d => exact fun T' H' g' s => h T' H' g' (st.trans s)
    | brk => exact fun T' H' g' s => h T' H' g' (st.trans s)
    | cont => exact fun T' H' g' s => h T' H' g' (st.trans s)
theorem ZOut.bind {x : R α} {f : α → Store → Z} {Q : β → Hp → Prop} (h : ZOut K mg Wx T H (bindS x r f) E) (rs : RepSt K T H r g)
    (k : ∀ a S T1 H1 v, Step T H T1 H1 → Sim K mg T1 S H1 → rel T1 H1 v a → RepSt K T1 H1 r g → ZOut K mg Wx T1 H1 (f a S) E → Q v H1) : Out K mg Wx rel T g H x Q := by
  cases x with
  | bad => exact h
  | exc n S => exact fun T1 H1 st sim => h T1 H1 g st sim (rs.step st)
  | ok a S => exact fun T1 H1 v st sim rl => k a S T1 H1 v st sim rl (rs.step st) (ZOut.step st h)
theorem ZOut.nx {r : Env} {S : Store} {g : St} (h : ZOut K mg Wx T H (.ok .next r S) E) (sim : Sim K mg T S H) (rs : RepSt K T H r g) : E.nx g H := h T H g (Step.refl T H) sim rs
end
def sNil : SM := fun r S => .ok .next r S
def sSeq (a b : SM) : SM := fun r S => match a r S with
  | .ok .next r1 S1 => b r1 S1
  | z => z
def sSet (i : Nat) (m : EM) : SM := fun r S => bindS (m r S) r fun d S1 => .ok .next (r.set i (some d)) S1
def sDrop (m : EM) : SM := fun r S => bindS (m r S) r fun _ S1 => .ok .next r S1
def sRet (m : EM) : SM := fun r S => bindS (m r S) r fun d S1 => .ok (.ret d) r S1
def sIf (c : BM) (a b : SM) : SM := fun r S => bindS (c r S) r fun k S1 => if k = true then a r S1 else b r S1
def sBrk : SM := fun r S => .ok .brk r S
def sAug (i : Nat) (f : Int → Int → Int) (m : EM) : SM := fun r S => match r[i]? with
  | some (some (.int a)) => bindS (m r S) r fun d S1 => match d with
    | .int b => .ok .next (r.set i (some (.int (f a b)))) S1
    | _ => .bad
  | _ => .bad
def sPar (i j : Nat) (ms : AM) : SM := fun r S => bindS (ms r S) r fun ds S1 => match ds with
  | [a, b] => .ok .next ((r.set i (some a)).set j (some b)) S1
  | _ => .bad
section
variable {X : Cx} {Wx : WX} {st : Stmt} {rest : List Stmt} {pos pos' : Pos} {e : Expr} {m : EM} {sa sb : SM} {c : BM}
theorem js_nil : PSs X [] (tDS X.K X.mg Wx sNil) := pss_imp pss_nil fun E g H h => by
  obtain ⟨T, r, S, rs, sim, h⟩ := h
  exact h.nx sim rs
theorem js_cons (h1 : PS X st (tDS X.K X.mg Wx sa)) (h2 : PSs X rest (tDS X.K X.mg Wx sb)) : PSs X (st :: rest) (tDS X.K X.mg Wx (sSeq sa sb)) := pss_imp (pss_cons h1 h2) fun E g H h => by
  obtain ⟨T, r, S, rs, sim, h⟩ := h
  refine ⟨T, r, S, rs, sim, ?_⟩
  unfold sSeq at h
  revert h
  cases sa r S with
  | bad => exact fun h => h
  | exc n r' S' => exact fun h => h
  | ok f r' S' =>
    cases f with
    | next => exact fun h T' H' g' s sim' rs' => ⟨T', r', S', rs', sim', ZOut.step s h⟩
    | ret d => exact fun h => h
    | brk => exact fun h => h
    | cont => exact fun h => h
theorem js_one (h1 : PS X st (tDS X.K X.mg Wx sa)) : PSs X [st] (tDS X.K X.mg Wx sa) := pss_one h1
theorem js_set {i : Nat} {x : Str} (hN : X.N.Nodup) (hi : X.N[i]? = some x) (hx : Loc X.env.scope x) (he : PE X e (tD X.K X.mg Wx m)) (hs : swapsWith e (some (.Name x pos')) pos.line X.env = pure false := by rfl)
    (hf : X.fn x = true ∨ X.env.scope.names.lookup x = some .local := by first | exact .inl rfl | exact .inr rfl | assumption) : PS X (.Assign [.Name x pos'] e pos) (tDS X.K X.mg Wx (sSet i m)) :=
  ps_imp (ps_set hN hi hx he hs hf) fun E g H h => by
    obtain ⟨T, r, S, rs, sim, h⟩ := h
    refine ⟨T, r, S, rs, sim, ZOut.bind h rs fun d S1 T1 H1 v st sim1 rel rs1 h1 => ?_⟩
    exact h1.nx sim1 (rs1.set rel)
theorem js_drop (he : PE X e (tD X.K X.mg Wx m)) (hs : swapsWith e none pos.line X.env = pure false := by rfl) : PS X (.Expr e pos) (tDS X.K X.mg Wx (sDrop m)) :=
  ps_imp (ps_expr he hs) fun E g H h => by
    obtain ⟨T, r, S, rs, sim, h⟩ := h
    refine ⟨T, r, S, rs, sim, ZOut.bind h rs fun d S1 T1 H1 v st sim1 rel rs1 h1 => ?_⟩
    exact h1.nx sim1 rs1
theorem js_ret (he : PE X e (tD X.K X.mg Wx m)) : PS X (.Return (some e) pos) (tDS X.K X.mg Wx (sRet m)) :=
  ps_imp (ps_ret he) fun E g H h => by
    obtain ⟨T, r, S, rs, sim, h⟩ := h
    refine ⟨T, r, S, rs, sim, ZOut.bind h rs fun d S1 T1 H1 v st sim1 rel rs1 h1 => ?_⟩
    exact h1 T1 H1 v (Step.refl T1 H1) sim1 rel
theorem js_brk : PS X (.Break pos) (tDS X.K X.mg Wx sBrk) := ps_imp ps_break fun E g H h => by
  obtain ⟨T, r, S, rs, sim, h⟩ := h
  exact h T H g (Step.refl T H) sim rs
theorem js_if {t : Expr} {a b : List Stmt} (hc : PT X t (tDT X.K X.mg Wx c)) (ha : PSs X a (tDS X.K X.mg Wx sa)) (hb : PSs X b (tDS X.K X.mg Wx sb)) : PS X (.If t a b pos) (tDS X.K X.mg Wx (sIf c sa sb)) :=
  ps_imp (ps_if hc ha hb) fun E g H h => by
    obtain ⟨T, r, S, rs, sim, h⟩ := h
    refine ⟨T, r, S, rs, sim, ZOut.bind h rs fun d S1 T1 H1 v st sim1 rel rs1 h1 => ?_⟩
    subst rel
    cases v with
    | true => exact ⟨T1, r, S1, rs1, sim1, h1⟩
    | false => exact ⟨T1, r, S1, rs1, sim1, h1⟩
theorem js_par {i j : Nat} {x y : Str} {a b : Expr} {ms : AM} {px py pt : Pos} {kt k2 pt2} (hc : X.calm = true) (hN : X.N.Nodup) (hi : X.N[i]? = some x) (hj : X.N[j]? = some y) (hij : i ≠ j)
    (hx : X.env.scope.names.lookup x = some .local) (hy : X.env.scope.names.lookup y = some .local) (ha : PA X [a, b] (tDA X.K X.mg Wx ms))
    (hw : swappedStores [.Tuple [.Name x px, .Name y py] kt pt] (.Tuple [a, b] k2 pt2) X.env = pure (some [x, y]))
    (hs : swapsWithSole [.Tuple [.Name x px, .Name y py] kt pt] (.Tuple [a, b] k2 pt2) pos.line X.env = pure false := by rfl) :
    PS X (.Assign [.Tuple [.Name x px, .Name y py] kt pt] (.Tuple [a, b] k2 pt2) pos) (tDS X.K X.mg Wx (sPar i j ms)) :=
  ps_imp (ps_par hc hN hi hj hij hx hy ha hw hs) fun E g H h => by
    obtain ⟨T, r, S, rs, sim, h⟩ := h
    refine ⟨T, r, S, rs, sim, ZOut.bind h rs fun d S1 T1 H1 v st sim1 rel rs1 h1 => ?_⟩
    cases rel with
    | nil => exact h1.elim
    | cons q1 rel =>
      cases rel with
      | nil => exact h1.elim
      | cons q2 rel =>
        cases rel with
        | nil => exact ⟨_, _, rfl, h1.nx sim1 ((rs1.set q1).set q2)⟩
        | cons _ _ => exact h1.elim
end
def gD (K : PySem.W.Frag) (mg : Str → Option Value) (sl : List Nat) (gm : D → Env → Option Env) : TG := fun v g H Q => ∃ T r S d r', RepSt K T H r g ∧ Sim K mg T S H ∧ Rep K T H v d ∧ gm d r = some r' ∧
  ∀ g', RepSt K T H r' g' → g'.length = g.length → (∀ j, j ∉ sl → g'[j]? = g[j]?) → Q g' H
def gDs (K : PySem.W.Frag) (mg : Str → Option Value) (sl : List Nat) (gm : List D → Env → Option Env) : TGs := fun vs g H Q => ∃ T r S ds r', RepSt K T H r g ∧ Sim K mg T S H ∧ RepL K T H vs ds ∧ gm ds r = some r' ∧
  ∀ g', RepSt K T H r' g' → g'.length = g.length → (∀ j, j ∉ sl → g'[j]? = g[j]?) → Q g' H
def tgN (i : Nat) : D → Env → Option Env := fun d r => some (r.set i (some d))
def tgsNil : List D → Env → Option Env := fun ds r => match ds with
  | [] => some r
  | _ => none
def tgsCons (a : D → Env → Option Env) (b : List D → Env → Option Env) : List D → Env → Option Env := fun ds r => match ds with
  | d :: ds => (a d r).bind fun r1 => b ds r1
  | [] => none
def tgT (n : Nat) (b : List D → Env → Option Env) : D → Env → Option Env := fun d r => match d with
  | .tup ds => if ds.length = n then b ds r else none
  | _ => none
section
variable {X : Cx} {pos : Pos}
theorem pg_imp {tg : Expr} {t t' : TG} (h : PG X tg t) (i : ∀ v g H Q, t' v g H Q → t v g H Q) : PG X tg t' := ⟨fun pins s g H v u Q I r w => h.run pins s g H v u Q I r (i v g H Q w)⟩
theorem pgs_imp {tg : List Expr} {t t' : TGs} (h : PGs X tg t) (i : ∀ v g H Q, t' v g H Q → t v g H Q) : PGs X tg t' := ⟨fun pins s g H v u Q I r w => h.run pins s g H v u Q I r (i v g H Q w)⟩
theorem jg_name {i : Nat} {x : Str} (hN : X.N.Nodup) (hi : X.N[i]? = some x) (hx : Loc X.env.scope x) (hf : X.fn x = true ∨ X.env.scope.names.lookup x = some .local := by first | exact .inl rfl | exact .inr rfl | assumption) : PG X (.Name x pos) (gD X.K X.mg [i] (tgN i)) :=
  pg_imp (pg_name hN hi hx hf) fun v g H Q h => by
    obtain ⟨T, r, S, d, r', rs, sim, rep, e, k⟩ := h
    cases e
    exact k _ (rs.set rep) List.length_set fun j hj => List.getElem?_set_ne fun q => hj (by rw [q]; exact List.mem_singleton.mpr rfl)
theorem jgn (i : Nat) {x : Str} (hN : X.N.Nodup) (hi : X.N[i]? = some x := by rfl) (hx : Loc X.env.scope x := by first | exact Or.inl rfl | exact Or.inr rfl) (hf : X.fn x = true ∨ X.env.scope.names.lookup x = some .local := by first | exact .inl rfl | exact .inr rfl | assumption) : PG X (.Name x pos) (gD X.K X.mg [i] (tgN i)) := jg_name hN hi hx hf
theorem jgs_nil : PGs X [] (gDs X.K X.mg [] tgsNil) := pgs_imp pgs_nil fun v g H Q h => by
  obtain ⟨T, r, S, d, r', rs, sim, rep, e, k⟩ := h
  cases rep with
  | nil =>
    cases e
    exact ⟨rfl, k g rs rfl fun _ _ => rfl⟩
  | cons _ _ => cases e
theorem jgs_cons {e : Expr} {es : List Expr} {sl sl2 : List Nat} {a : D → Env → Option Env} {b : List D → Env → Option Env} (h1 : PG X e (gD X.K X.mg sl a)) (h2 : PGs X es (gDs X.K X.mg sl2 b))
    (hs : (assignEach (e :: es) X.env).map (·.2) = assign e X.env :: (assignEach es X.env).map (·.2) := by rfl) : PGs X (e :: es) (gDs X.K X.mg (sl ++ sl2) (tgsCons a b)) := pgs_imp (pgs_cons h1 h2 hs) fun v g H Q h => by
  obtain ⟨T, r, S, ds, r', rs, sim, rep, e, k⟩ := h
  cases rep with
  | nil => cases e
  | @cons x vs d ds q1 q2 =>
    have e : (a d r).bind (fun r1 => b ds r1) = some r' := e
    cases q : a d r with
    | none => rw [q] at e; cases e
    | some r1 =>
      rw [q] at e
      refine ⟨x, vs, rfl, T, r, S, d, r1, rs, sim, q1, q, fun g1 rs1 l1 k1 => ?_⟩
      refine ⟨T, r1, S, ds, r', rs1, sim, q2, e, fun g2 rs2 l2 k2 => k g2 rs2 (l2.trans l1) fun j hj => ?_⟩
      rw [List.mem_append, not_or] at hj
      exact (k2 j hj.2).trans (k1 j hj.1)
theorem jg_tup {es : List Expr} {k n : Nat} {sl : List Nat} {b : List D → Env → Option Env} (hc : X.calm = true) (h : PGs X es (gDs X.K X.mg sl b))
    (hn : (assignEach es X.env).length = n := by rfl) (hst : (assignEach es X.env).findIdx? (·.1) = none := by rfl) : PG X (.Tuple es k pos) (gD X.K X.mg sl (tgT n b)) := pg_imp (pg_tup hc h hn hst) fun v g H Q h => by
  obtain ⟨T, r, S, d, r', rs, sim, rep, e, k⟩ := h
  cases rep with
  | tup h1 h2 h3 =>
    simp only [tgT] at e
    split at e
    · rename_i hl
      exact ⟨_, _, rfl, SqT.of h1, by rw [h3.length]; exact hl, T, r, S, _, r', rs, sim, h3, e, k⟩
    · cases e
  | _ => cases e
end
def sAsg (m : EM) (gm : D → Env → Option Env) : SM := fun r S => bindS (m r S) r fun d S1 => match gm d r with
  | some r1 => .ok .next r1 S1
  | none => .bad
section
variable {X : Cx} {Wx : WX} {pos : Pos} {tg e : Expr} {m : EM} {sl : List Nat} {gm : D → Env → Option Env}
theorem js_asg (he : PE X e (tD X.K X.mg Wx m)) (hg : PG X tg (gD X.K X.mg sl gm)) (hs : swapsWithSole [tg] e pos.line X.env = pure false := by rfl) (hw : swappedStores [tg] e X.env = pure none := by rfl)
    (h1 : (assignEach [tg] X.env).map (·.2) = [assign tg X.env] := by rfl) : PS X (.Assign [tg] e pos) (tDS X.K X.mg Wx (sAsg m gm)) :=
  ps_imp (ps_asg he hg hs hw h1) fun E g H h => by
    obtain ⟨T, r, S, rs, sim, h⟩ := h
    refine ⟨T, r, S, rs, sim, ZOut.bind h rs fun d S1 T1 H1 v st sim1 rel rs1 h1 => ?_⟩
    split at h1
    · rename_i r1 q
      exact ⟨T1, r, S1, d, r1, rs1, sim1, rel, q, fun g' rs' _ _ => h1.nx sim1 rs'⟩
    · exact h1.elim
end
def sWhile (c : BM) (b : SM) : Nat → SM
  | 0 => fun _ _ => .bad
  | n + 1 => fun r S => bindS (c r S) r fun k S1 => if k = true then (match b r S1 with
      | .ok .next r2 S2 => sWhile c b n r2 S2
      | .ok .cont r2 S2 => sWhile c b n r2 S2
      | .ok .brk r2 S2 => .ok .next r2 S2
      | .ok (.ret d) r2 S2 => .ok (.ret d) r2 S2
      | .exc x r2 S2 => .exc x r2 S2
      | .bad => .bad) else .ok .next r S1
section
variable {X : Cx} {Wx : WX} {pos : Pos} {c : BM} {sb : SM}
theorem js_while {t : Expr} {body : List Stmt} (n : Nat) (hp : PassesOwn (model X.prog X.w) X.A X.env X.xe) (hc : PT X t (tDT X.K X.mg Wx c)) (hb : PSs X body (tDS X.K X.mg Wx sb)) : PS X (.While t body [] pos) (tDS X.K X.mg Wx (sWhile c sb n)) :=
  ps_imp (ps_while hp hc hb) fun E g H h => by
    refine ⟨fun m g H => ∃ T r S, RepSt X.K T H r g ∧ Sim X.K X.mg T S H ∧ ZOut X.K X.mg Wx T H (sWhile c sb m r S) E, ⟨n, h⟩, fun m g H h => ?_⟩
    obtain ⟨T, r, S, rs, sim, h⟩ := h
    cases m with
    | zero => exact h.elim
    | succ m =>
      refine ⟨T, r, S, rs, sim, ZOut.bind h rs fun d S1 T1 H1 v st sim1 rel rs1 h1 => ?_⟩
      subst rel
      cases v with
      | false => exact h1.nx sim1 rs1
      | true =>
        refine ⟨fun g H => ∃ T r S, RepSt X.K T H r g ∧ Sim X.K X.mg T S H ∧ ZOut X.K X.mg Wx T H (sWhile c sb m r S) E, fun g2 H2 q => ⟨m, Nat.lt_succ_self m, q⟩, T1, r, S1, rs1, sim1, ?_⟩
        rw [if_pos rfl] at h1
        revert h1
        cases sb r S1 with
        | bad => exact fun h => h
        | exc n r' S' => exact fun h => h
        | ok f r' S' =>
          cases f with
          | next => exact fun h T' H' g' s sim' rs' => ⟨T', r', S', rs', sim', ZOut.step s h⟩
          | cont => exact fun h T' H' g' s sim' rs' => ⟨T', r', S', rs', sim', ZOut.step s h⟩
          | ret d => exact fun h => h
          | brk => exact fun h => h
end
def Walks (K : PySem.W.Frag) (mg : Str → Option Value) (T : Tb) (H : Hp) (J : It) (ds : List D) : Prop := ∀ T' S' H', Kf T H T' H' → Sim K mg T' S' H' → J.stop ds.length H' ∧
  ∀ (i : Nat) (d : D), ds[i]? = some d → J.go i H' ∧ ∀ x H2, J.yld i H' x H2 → Step T' H' T' H2 ∧ Sim K mg T' S' H2 ∧ Rep K T' H2 x d
abbrev IM := Env → Store → R (List D)
def iD (K : PySem.W.Frag) (mg : Str → Option Value) (Wx : WX) (mi : IM) : TI := fun g H Q => ∃ T r S, RepSt K T H r g ∧ Sim K mg T S H ∧
  Out K mg Wx (fun T' H' (J : It) ds => Walks K mg T' H' J ds ∧ ds.length ≤ sizeLine) T g H (mi r S) Q
theorem Kp.trans {T T1 T2 : Tb} {H H1 H2 : Hp} (a : Kp T H T1 H1) (b : Kp T1 H1 T2 H2) : Kp T H T2 H2 := ⟨fun c u k n h => b.sq c u k (a.sq c u k n h).2 (a.sq c u k n h).1, fun c u n h => b.dk c u (a.dk c u n h).2 (a.dk c u n h).1, fun n c h => b.get n c (a.get n c h)⟩
theorem Kf.trans {T T1 T2 : Tb} {H H1 H2 : Hp} (a : Kf T H T1 H1) (b : Kf T1 H1 T2 H2) : Kf T H T2 H2 := ⟨a.toKp.trans b.toKp, fun c o u n h => b.frz c o u (a.frz c o u n h).2 (a.frz c o u n h).1⟩
theorem Walks.kp {K : PySem.W.Frag} {mg : Str → Option Value} {T T1 : Tb} {H H1 : Hp} {J : It} {ds : List D} (st : Kf T H T1 H1) (h : Walks K mg T H J ds) : Walks K mg T1 H1 J ds := fun T' S' H' s sim => h T' S' H' (st.trans s) sim
def sLoop (gm : D → Env → Option Env) (b : SM) : List D → SM
  | [] => fun r S => .ok .next r S
  | d :: ds => fun r S => match gm d r with
    | none => .bad
    | some r1 => match b r1 S with
      | .ok .next r2 S2 => sLoop gm b ds r2 S2
      | .ok .cont r2 S2 => sLoop gm b ds r2 S2
      | .ok .brk r2 S2 => .ok .next r2 S2
      | .ok (.ret d) r2 S2 => .ok (.ret d) r2 S2
      | .exc x r2 S2 => .exc x r2 S2
      | .bad => .bad
def sFor (mi : IM) (gm : D → Env → Option Env) (b : SM) : SM := fun r S => bindS (mi r S) r fun ds S1 => sLoop gm b ds r S1
section
variable {X : Cx} {Wx : WX} {pos : Pos} {tg iter : Expr} {mi : IM} {sl : List Nat} {gm : D → Env → Option Env} {sb : SM}
theorem js_for {body : List Stmt} (hp : PassesOwn (model X.prog X.w) X.A X.env X.xe) (hc : X.calm = true) (hi : PI X tg iter (iD X.K X.mg Wx mi)) (hg : PG X tg (gD X.K X.mg sl gm)) (hb : PSs X body (tDS X.K X.mg Wx sb))
    (hs : ∀ x, foldedSetIterable iter X.env x = pure x := by intro _; rfl) : PS X (.For tg iter body [] pos) (tDS X.K X.mg Wx (sFor mi gm sb)) :=
  ps_imp (ps_for hp hc hi hg hb hs) fun E g H h => by
    obtain ⟨T, r, S, rs, sim, h⟩ := h
    refine ⟨T, r, S, rs, sim, ZOut.bind h rs fun ds S1 T1 H1 J st sim1 rel rs1 h1 => ?_⟩
    obtain ⟨wk, hz⟩ := rel
    refine ⟨fun i m g H => ∃ T r S, m = ds.length - i ∧ i ≤ ds.length ∧ Step T1 H1 T H ∧ RepSt X.K T H r g ∧ Sim X.K X.mg T S H ∧ ZOut X.K X.mg Wx T H (sLoop gm sb (ds.drop i) r S) E, ⟨ds.length, T1, r, S1, by simp, Nat.zero_le _, Step.refl T1 H1, rs1, sim1, h1⟩, ?_⟩
    rintro i m g2 H2 ⟨T2, r2, S2, rfl, hi2, st2, rs2, sim2, h2⟩
    obtain ⟨stop, go⟩ := wk T2 S2 H2 st2.kf sim2
    by_cases hlt : i < ds.length
    · have ed : ds.drop i = ds[i] :: ds.drop (i + 1) := List.drop_eq_getElem_cons hlt
      rw [ed] at h2
      obtain ⟨g1, yl⟩ := go i ds[i] (List.getElem?_eq_getElem hlt)
      refine .inr ⟨g1, fun g H => ∃ T r S, Step T1 H1 T H ∧ RepSt X.K T H r g ∧ Sim X.K X.mg T S H ∧ ZOut X.K X.mg Wx T H (sLoop gm sb (ds.drop (i + 1)) r S) E, fun g3 H3 q => ?_, fun x H3 y => ?_⟩
      · obtain ⟨T3, r3, S3, q1, q2, q3, q4⟩ := q
        exact ⟨ds.length - (i + 1), by omega, T3, r3, S3, rfl, hlt, q1, q2, q3, q4⟩
      · obtain ⟨st3, sim3, rep3⟩ := yl x H3 y
        have h3 := ZOut.step st3 h2
        simp only [sLoop] at h3
        split at h3
        · exact h3.elim
        · rename_i r3 eg
          refine ⟨T2, r2, S2, ds[i], r3, rs2.step st3, sim3, rep3, eg, fun g4 rs4 _ _ => ⟨T2, r3, S2, rs4, sim3, ?_⟩⟩
          revert h3
          cases sb r3 S2 with
          | bad => exact fun h => h
          | exc n r' S' => exact fun h => h
          | ok f r' S' =>
            cases f with
            | next => exact fun h T' H' g' s sim' rs' => ⟨T', r', S', (st2.trans st3).trans s, rs', sim', ZOut.step s h⟩
            | cont => exact fun h T' H' g' s sim' rs' => ⟨T', r', S', (st2.trans st3).trans s, rs', sim', ZOut.step s h⟩
            | ret d => exact fun h => h
            | brk => exact fun h => h
    · have e : i = ds.length := by omega
      subst e
      rw [List.drop_length] at h2
      exact .inl ⟨stop, h2.nx sim2 rs2⟩
end
end Dv
namespace Dv
open PySem L2
def chD (c : Nat) : D := .str ⟨#[c]⟩
def seqD (d : D) : Option (List D) := match d with
  | .lst xs => some xs
  | .tup xs => some xs
  | .scr ns => some (ns.map D.int)
  | .str x => if x.cps.size ≤ 100000 then some (x.cps.toList.map chD) else none
  | _ => none
def mIter (m : EM) : IM := fun r S => (m r S).bind fun d S1 => ofO (seqD d) S1
def rng (lo : Int) (n : Nat) : List D := (List.range n).map fun i => D.int (lo + (i : Nat))
def rng1 (ds : List D) : Option (List D) := match ds with
  | [.int j] => if -100000 ≤ j ∧ j ≤ 100000 then some (rng 0 j.toNat) else none
  | _ => none
def mRng1 (ms : AM) : IM := fun r S => (ms r S).bind fun ds S1 => ofO (rng1 ds) S1
def iSq (K : PySem.W.Frag) (tl : TE) : TI := fun g H Q => tl g H fun x H1 => (∃ a xs, x = .ref a ∧ SqL K H1 a xs ∧ Q (Itl K a) H1) ∨ (∃ a xs, x = .ref a ∧ SqT K H1 a xs ∧ Q (Itt K a) H1) ∨ ∃ z, x = .str z ∧ Q (Its z) H1
theorem pi_sq {X : Cx} {tg l : Expr} {tl : TE} (hl : PE X l tl) : PI X tg l (iSq X.K tl) := by
  refine ⟨fun pins s g H Q I h => thn (hl.run pins s g H _ I h) fun v s1 hv => ?_⟩
  obtain ⟨x, H1, I1, r1, q1⟩ := hv
  rcases q1 with ⟨a, xs, ex, hq, q⟩ | ⟨a, xs, ex, hq, q⟩ | ⟨z, ex, q⟩
  · subst ex
    cases r1
    obtain ⟨its, rv, pl, _⟩ := I1.list hq
    exact wpAny_pyIter_list pl.isList (pi_one (tk := s1.toks) I1 _ (turn_list a _) ⟨_, Heap.get?_push_size _ rfl, rfl, rfl⟩ q)
  · subst ex
    cases r1
    obtain ⟨its, rv, pl, _⟩ := I1.tuple hq
    exact wpAny_pyIter_tuple (show s1.heap.IsTuple a its.toArray from pl) (pi_one (tk := s1.toks) I1 _ (turn_tuple a _) ⟨_, Heap.get?_push_size _ rfl, rfl, rfl⟩ q)
  · subst ex
    obtain ⟨t, rfl⟩ := r1
    by_cases ha : z.cps.all (· < 128) = true
    · exact wpAny_pyIter_ascii ha (pi_one (tk := s1.toks) I1 _ (turn_str _ z t "str_ascii_iterator" (.inl rfl)) ⟨_, Heap.get?_push_size _ rfl, rfl, rfl⟩ q)
    · exact wpAny_pyIter_wide (by simpa using ha) (pi_one (tk := s1.toks) I1 _ (turn_str _ z t "str_iterator" (.inr rfl)) ⟨_, Heap.get?_push_size _ rfl, rfl, rfl⟩ q)
section
variable {K : PySem.W.Frag} {mg : Str → Option Value} {T : Tb} {H : Hp}
theorem walks_lst {a : Addr} {xs : List V} {ds : List D} (h : LAt K T H a xs) (r : RepL K T H xs ds) : Walks K mg T H (Itl K a) ds := fun T' S' H' kf sim => by
  have k := kf.toKp
  have hq : SqL K H' a xs := (h.kp k).sq
  refine ⟨⟨xs, hq, by rw [r.length]; exact Nat.le_refl _⟩, fun i d e => ?_⟩
  obtain ⟨v, h1, h2⟩ := r.get e
  refine ⟨⟨xs, v, hq, h1⟩, fun x H2 y => ?_⟩
  obtain ⟨rfl, y⟩ := y
  have e2 := (y xs hq).symm.trans h1
  cases e2
  exact ⟨Step.refl _ _, sim, h2.kp k⟩
theorem walks_tup {a : Addr} {xs : List V} {ds : List D} (h : H a = some (.tup xs)) (n : T.off a) (r : RepL K T H xs ds) : Walks K mg T H (Itt K a) ds := fun T' S' H' kf sim => by
  have k := kf.toKp
  have hq : SqT K H' a xs := SqT.of (k.tup n h).1
  refine ⟨⟨xs, hq, by rw [r.length]; exact Nat.le_refl _⟩, fun i d e => ?_⟩
  obtain ⟨v, h1, h2⟩ := r.get e
  refine ⟨⟨xs, v, hq, h1⟩, fun x H2 y => ?_⟩
  obtain ⟨rfl, y⟩ := y
  have e2 := (y xs hq).symm.trans h1
  cases e2
  exact ⟨Step.refl _ _, sim, h2.kp k⟩
theorem walks_str {z : Str} : Walks K mg T H (Its z) (z.cps.toList.map chD) := fun T' S' H' kf sim => by
  have k := kf.toKp
  refine ⟨?_, fun i d e => ?_⟩
  · show z.cps.size ≤ _
    rw [List.length_map, Array.length_toList]
    exact Nat.le_refl _
  · rw [List.getElem?_map] at e
    cases q : z.cps.toList[i]? with
    | none => rw [q] at e; cases e
    | some c =>
      rw [q] at e
      cases e
      have hi := (List.getElem?_eq_some_iff.mp q).1
      rw [Array.length_toList] at hi
      refine ⟨hi, fun x H2 y => ?_⟩
      obtain ⟨rfl, c', h1, rfl⟩ := y
      rw [Array.getElem?_toList] at q
      rw [q] at h1
      cases h1
      exact ⟨Step.refl _ _, sim, .str _⟩
theorem walks_rng {lo : Int} {n : Nat} : Walks K mg T H (Itr lo n) (rng lo n) := fun T' S' H' kf sim => by
  have k := kf.toKp
  refine ⟨?_, fun i d e => ?_⟩
  · show n ≤ _
    unfold rng
    rw [List.length_map, List.length_range]
    exact Nat.le_refl _
  · unfold rng at e
    rw [List.getElem?_map] at e
    cases q : (List.range n)[i]? with
    | none => rw [q] at e; cases e
    | some c =>
      rw [q] at e
      cases e
      obtain ⟨hi, hc⟩ := List.getElem?_eq_some_iff.mp q
      rw [List.length_range] at hi
      rw [List.getElem_range] at hc
      subst hc
      refine ⟨hi, fun x H2 y => ?_⟩
      obtain ⟨rfl, rfl⟩ := y
      exact ⟨Step.refl _ _, sim, .int _⟩
theorem rng_len (lo : Int) (n : Nat) : (rng lo n).length = n := by
  unfold rng
  rw [List.length_map, List.length_range]
end
section
variable {X : Cx} {Wx : WX} {tg e : Expr} {m : EM} {ms : AM} {pos p : Pos}
theorem ji_seq (h : PE X e (tD X.K X.mg Wx m)) : PI X tg e (iD X.K X.mg Wx (mIter m)) := pi_imp (pi_sq h) fun g H Q h => by
  obtain ⟨T, r, S, rs, sim, h⟩ := h
  refine ⟨T, r, S, rs, sim, Out.bind h fun d S1 T1 H1 v st sim1 rel h1 => ?_⟩
  refine Out.use h1 fun ds e k => ?_
  cases rel with
  | lst q1 q2 q3 =>
    cases e
    exact .inl ⟨_, _, rfl, SqL.of q1, k T1 H1 _ (Step.refl T1 H1) sim1 ⟨walks_lst (.inl ⟨.inl q1, q2⟩) q3, by rw [← q3.length]; exact sim1.hl _ _ (.inl (.inl q1))⟩⟩
  | scr q =>
    cases e
    exact .inl ⟨_, _, rfl, q.sq, k T1 H1 _ (Step.refl T1 H1) sim1 ⟨walks_lst q (RepL.ints _), by have := sim1.llen q; rw [List.length_map] at this ⊢; exact this⟩⟩
  | tup q1 q2 q3 =>
    cases e
    exact .inr (.inl ⟨_, _, rfl, SqT.of q1, k T1 H1 _ (Step.refl T1 H1) sim1 ⟨walks_tup q1 q2 q3, by rw [← q3.length]; exact sim1.hl _ _ (.inr (.inl q1))⟩⟩)
  | str x =>
    simp only [seqD] at e
    split at e
    · rename_i hz
      cases e
      exact .inr (.inr ⟨x, rfl, k T1 H1 _ (Step.refl T1 H1) sim1 ⟨walks_str, by rw [List.length_map, Array.length_toList]; exact sz5 hz⟩⟩)
    · cases e
  | _ => cases e
theorem ji_rng1 {a : Expr} (hg : Gl X "range") (hm : X.mg "range" = none) (ha : PA X [a] (tDA X.K X.mg Wx ms)) (hs : starEach [a] X.env = [(false, eval a X.env)] := by rfl) : PI X tg (.Call (.Name "range" p) [a] [] pos) (iD X.K X.mg Wx (mRng1 ms)) :=
  pi_imp (pi_range1 hg hm ha hs) fun g H Q h => by
    obtain ⟨T, r, S, rs, sim, h⟩ := h
    refine ⟨T, r, S, rs, sim, Out.bind h fun d S1 T1 H1 v st sim1 rel h1 => ?_⟩
    refine Out.use h1 fun ds e k => ?_
    unfold rng1 at e
    split at e
    · rename_i j
      split at e
      · rename_i hj
        cases e
        cases rel with
        | cons q1 q2 =>
          cases q2
          refine ⟨j, by rw [q1.int_of], by omega, by omega, k T1 H1 _ (Step.refl T1 H1) sim1 ⟨walks_rng, ?_⟩⟩
          rw [rng_len]
          exact sz5 (by omega)
      · cases e
    · cases e
end
def zipD (ds : List D) : Option (List D) := match ds with
  | [.tup xs, .tup ys] => some (List.zipWith (fun a b => D.tup [a, b]) xs ys)
  | [.lst xs, .lst ys] => some (List.zipWith (fun a b => D.tup [a, b]) xs ys)
  | _ => none
def mZip (ms : AM) : IM := fun r S => (ms r S).bind fun ds S1 => ofO (zipD ds) S1
theorem zip_get {xs ys : List D} {i : Nat} {d : D} (h : (List.zipWith (fun a b => D.tup [a, b]) xs ys)[i]? = some d) : ∃ a b, xs[i]? = some a ∧ ys[i]? = some b ∧ d = .tup [a, b] := by
  rw [List.getElem?_zipWith] at h
  cases q : xs[i]? with
  | none => rw [q] at h; cases h
  | some a =>
    cases q2 : ys[i]? with
    | none => rw [q, q2] at h; cases h
    | some b =>
      rw [q, q2] at h
      cases h
      exact ⟨a, b, rfl, rfl, rfl⟩
section
variable {X : Cx} {Wx : WX} {e e2 : Expr} {ms : AM} {pos p tpos : Pos} {elts : List Expr} {kk : Nat}
theorem pair_new {K : PySem.W.Frag} {mg : Str → Option Value} {T : Tb} {S : Store} {H : Hp} {p : Addr} {x y : V} {a b : D} (sim : Sim K mg T S H) (hp : H p = none) (ha : Rep K T H x a) (hb : Rep K T H y b) :
    Step T H T (upd H p (.tup [x, y])) ∧ Sim K mg T S (upd H p (.tup [x, y])) ∧ Rep K T (upd H p (.tup [x, y])) (.ref p) (.tup [a, b]) :=
  ⟨sim.stepNew hp, sim.new hp (hlen_tup sim.hl (by show 2 ≤ sizeLine; decide)), .tup upd_same (sim.off hp) (.cons (ha.step (sim.stepNew hp)) (.cons (hb.step (sim.stepNew hp)) .nil))⟩
theorem ji_zip (hg : Gl X "zip") (hm : X.mg "zip" = none) (ha : PA X [e, e2] (tDA X.K X.mg Wx ms)) (hs : starEach [e, e2] X.env = (false, eval e X.env) :: starEach [e2] X.env := by rfl) (hpl : (backTo pos (starEach [e2] X.env)).any (·.1) = false := by rfl) :
    PI X (.Tuple elts kk tpos) (.Call (.Name "zip" p) [e, e2] [] pos) (iD X.K X.mg Wx (mZip ms)) := pi_imp (RZ.pi_zipA hg hm ha hs hpl) fun g H Q h => by
  obtain ⟨T, r, S, rs, sim, h⟩ := h
  refine ⟨T, r, S, rs, sim, Out.bind h fun d S1 T1 H1 v st sim1 rel h1 => ?_⟩
  refine Out.use h1 fun ds e k => ?_
  unfold zipD at e
  split at e
  · cases e
    cases rel with
    | cons q1 q2 =>
      cases q2 with
      | cons q2 q3 =>
        cases q3
        cases q1 with
        | @tup a xs _ h1 n1 r1 =>
          cases q2 with
          | @tup b ys _ h2 n2 r2 =>
            refine ⟨a, b, xs, ys, rfl, .inr ⟨SqT.of h1, SqT.of h2, k T1 H1 _ (Step.refl T1 H1) sim1 ⟨fun T' S' H' kp sim' => ?_, ?_⟩⟩⟩
            · have k1 : SqT X.K H' a xs := SqT.of (kp.tup n1 h1).1
              have k2 : SqT X.K H' b ys := SqT.of (kp.tup n2 h2).1
              refine ⟨⟨xs, ys, k1, k2, ?_⟩, fun i d ed => ?_⟩
              · rw [List.length_zipWith, ← r1.length, ← r2.length]
                omega
              · obtain ⟨x, y, e1, e2, rfl⟩ := zip_get ed
                obtain ⟨v1, f1, f2⟩ := r1.get e1
                obtain ⟨v2, f3, f4⟩ := r2.get e2
                refine ⟨⟨xs, ys, v1, v2, k1, k2, f1, f3⟩, fun z H2 yl => ?_⟩
                obtain ⟨P, x', y', rfl, hn, rfl, g1, g2⟩ := yl
                have z1 := (g1 xs k1).symm.trans f1
                have z2 := (g2 ys k2).symm.trans f3
                cases z1; cases z2
                exact pair_new sim' hn (f2.kp kp.toKp) (f4.kp kp.toKp)
            · rw [List.length_zipWith, ← r1.length]
              exact Nat.le_trans (Nat.min_le_left _ _) (sim1.hl _ _ (.inr (.inl h1)))
  · cases e
    cases rel with
    | cons q1 q2 =>
      cases q2 with
      | cons q2 q3 =>
        cases q3
        cases q1 with
        | @lst a xs _ h1 n1 r1 =>
          cases q2 with
          | @lst b ys _ h2 n2 r2 =>
            refine ⟨a, b, xs, ys, rfl, .inl ⟨SqL.of h1, SqL.of h2, k T1 H1 _ (Step.refl T1 H1) sim1 ⟨fun T' S' H' kp sim' => ?_, ?_⟩⟩⟩
            · have k1 : SqL X.K H' a xs := SqL.of (kp.lst n1 h1).1
              have k2 : SqL X.K H' b ys := SqL.of (kp.lst n2 h2).1
              refine ⟨⟨xs, ys, k1, k2, ?_⟩, fun i d ed => ?_⟩
              · rw [List.length_zipWith, ← r1.length, ← r2.length]
                omega
              · obtain ⟨x, y, e1, e2, rfl⟩ := zip_get ed
                obtain ⟨v1, f1, f2⟩ := r1.get e1
                obtain ⟨v2, f3, f4⟩ := r2.get e2
                refine ⟨⟨xs, ys, v1, v2, k1, k2, f1, f3⟩, fun z H2 yl => ?_⟩
                obtain ⟨P, x', y', rfl, hn, rfl, g1, g2⟩ := yl
                have z1 := (g1 xs k1).symm.trans f1
                have z2 := (g2 ys k2).symm.trans f3
                cases z1; cases z2
                exact pair_new sim' hn (f2.kp kp.toKp) (f4.kp kp.toKp)
            · rw [List.length_zipWith, ← r1.length]
              exact Nat.le_trans (Nat.min_le_left _ _) (sim1.hl _ _ (.inl (.inl h1)))
  · cases e
end
def W0 : WX := fun _ _ _ _ => False
def nox {α : Type} (x : R α) : R α := match x with
  | .exc _ _ => .bad
  | y => y
def wipeE (r : Env) : List Nat → Env
  | [] => r
  | v :: vs => (wipeE r vs).set v none
def lcL (gm : D → Env → Option Env) (tt : BM) (te : EM) (r0 : Env) : List D → Store → R (List D)
  | [], S => .ok [] S
  | d :: ds, S => match gm d r0 with
    | none => .bad
    | some r1 => (nox (tt r1 S)).bind fun b S1 => if b = true then (nox (te r1 S1)).bind fun y S2 => (lcL gm tt te r0 ds S2).bind fun ys S3 => .ok (y :: ys) S3 else lcL gm tt te r0 ds S1
def mLc (mi : IM) (vs : List Nat) (gm : D → Env → Option Env) (tt : BM) (te : EM) : EM := fun r S => (mi r S).bind fun ds S1 => (lcL gm tt te (wipeE r vs) ds S1).bind fun ys S2 => .ok (.lst ys) S2
def mYes : BM := fun _ S => .ok true S
section
variable {K : PySem.W.Frag} {mg : Str → Option Value} {Wx : WX} {T : Tb} {H : Hp} {r : Env} {g : St}
theorem RepSt.wipe (h : RepSt K T H r g) : ∀ vs : List Nat, RepSt K T H (wipeE r vs) (L2.wipe g vs)
  | [] => h
  | v :: vs => (RepSt.wipe h vs).forgetB
theorem wipe_get {g : St} {i : Nat} : ∀ {vs : List Nat}, i ∈ vs → i < g.length → (L2.wipe g vs)[i]? = some none
  | [], h, _ => nomatch h
  | v :: vs, h, hl => by
    unfold L2.wipe
    by_cases e : v = i
    · subst e
      rw [List.getElem?_set_self (by rw [wipe_length]; exact hl)]
    · rw [List.getElem?_set_ne e]
      exact wipe_get ((List.mem_cons.mp h).resolve_left fun q => e q.symm) hl
theorem wipe_same {g g2 : St} {vs sl : List Nat} (hs : ∀ i ∈ sl, i ∈ vs) (hl : g2.length = g.length) (h : ∀ j, j ∉ sl → g2[j]? = (L2.wipe g vs)[j]?) : L2.wipe g2 vs = L2.wipe g vs := by
  refine List.ext_getElem? fun j => ?_
  by_cases hj : j ∈ vs
  · by_cases hlt : j < g.length
    · rw [wipe_get hj (by rw [hl]; exact hlt), wipe_get hj hlt]
    · rw [List.getElem?_eq_none (by rw [wipe_length, hl]; omega), List.getElem?_eq_none (by rw [wipe_length]; omega)]
  · rw [wipe_out hj, h j fun q => hj (hs j q)]
def Tb.hide (T : Tb) (p : Addr) : Tb := ⟨T.loc, p :: T.hid⟩
theorem Sim.hide {S : Store} {p : Addr} {u : HO} (s : Sim K mg T S H) (hp : H p = none) (hl : HLen (upd H p u)) (hu : ∀ xs, u ≠ .tup xs := by intro _ z; cases z) : Kp T H (T.hide p) (upd H p u) ∧ Sim K mg (T.hide p) S (upd H p u) := by
  have kp : Kp T H (T.hide p) (upd H p u) := ⟨fun b v _ n h => by
    have nb : b ≠ p := ne_of_none h hp
    exact ⟨by rw [upd_ne nb]; exact h, n.1, fun q => (List.mem_cons.mp q).elim nb n.2⟩, fun b v n h => by
    have nb : b ≠ p := fun e => rd_some h (by rw [e]; exact hp)
    exact ⟨rd_keep (fun w q => by rw [upd_ne nb]; exact q) h, n.1, fun q => (List.mem_cons.mp q).elim nb n.2⟩, fun _ _ h => h⟩
  refine ⟨kp, s.len, ?_, fun i a o h1 h2 => (s.obj i a o h1 h2).kp kp (upd_ne fun e => (s.off hp).1 (by rw [← e]; exact List.mem_of_getElem? h1)), fun a ha => ?_, hl⟩
  · have h0 := List.nodup_append.mp s.nd
    refine List.nodup_append.mpr ⟨h0.1, List.nodup_cons.mpr ⟨(s.off hp).2, h0.2.1⟩, fun a ha b hb e => ?_⟩
    rcases List.mem_cons.mp hb with hb | hb
    · exact (s.off hp).1 (by rw [← hb, ← e]; exact ha)
    · exact h0.2.2 a ha b hb e
  · rcases List.mem_cons.mp ha with ha | ha
    · rw [ha, upd_same]
      exact ⟨fun e => (by cases e), fun xs e => hu xs (Option.some.inj e)⟩
    · rw [upd_ne fun e => s.hid a ha (by rw [e]; exact hp)]
      exact s.hid' a ha
theorem Sim.setHid {S : Store} {p : Addr} {u : HO} (s : Sim K mg T S H) (hp : p ∈ T.hid) (hl : HLen (upd H p u)) (hu : ∀ xs, u ≠ .tup xs := by intro _ z; cases z) : Kf T H T (upd H p u) ∧ Sim K mg T S (upd H p u) := by
  have kp : Kp T H T (upd H p u) := ⟨fun b v _ n h => by
    have nb : b ≠ p := fun e => n.2 (by rw [e]; exact hp)
    exact ⟨by rw [upd_ne nb]; exact h, n⟩, fun b v n h => by
    have nb : b ≠ p := fun e => n.2 (by rw [e]; exact hp)
    exact ⟨rd_keep (fun w q => by rw [upd_ne nb]; exact q) h, n⟩, fun _ _ h => h⟩
  refine ⟨⟨kp, fun b o v n h => ⟨by rw [upd_ne fun e => n.2 (by rw [e]; exact hp)]; exact h, n⟩⟩, s.len, s.nd, fun i a o h1 h2 => (s.obj i a o h1 h2).kp kp (upd_ne fun e => s.apart (List.mem_of_getElem? h1) (by rw [e]; exact hp)), fun a ha => ?_, hl⟩
  by_cases e : a = p
  · rw [e, upd_same]
    exact ⟨fun e => (by cases e), fun xs e => hu xs (Option.some.inj e)⟩
  · rw [upd_ne e]
    exact s.hid' a ha
theorem R.bind_assoc {α β γ : Type} (x : R α) (f : α → Store → R β) (k : β → Store → R γ) : (x.bind f).bind k = x.bind fun a S => (f a S).bind k := by
  cases x <;> rfl
theorem off_unhide {p a : Addr} {l h : List Addr} (x : (Tb.mk l (p :: h)).off a) : (Tb.mk l h).off a := ⟨x.1, fun q => x.2 (List.mem_cons_of_mem _ q)⟩
theorem kp_unhide {p : Addr} {l h : List Addr} : Kp ⟨l, p :: h⟩ H ⟨l, h⟩ H := ⟨fun _ _ _ n q => ⟨q, off_unhide n⟩, fun _ _ n q => ⟨q, off_unhide n⟩, fun _ _ q => q⟩
theorem Sim.unhide {S : Store} {p : Addr} {l h : List Addr} (s : Sim K mg ⟨l, p :: h⟩ S H) : Sim K mg ⟨l, h⟩ S H :=
  ⟨s.len, by
    have h0 := List.nodup_append.mp s.nd
    exact List.nodup_append.mpr ⟨h0.1, (List.nodup_cons.mp h0.2.1).2, fun a ha b hb e => h0.2.2 a ha b (List.mem_cons_of_mem _ hb) e⟩, fun i a o h1 h2 => (s.obj i a o h1 h2).kp kp_unhide rfl, fun a ha => s.hid' a (List.mem_cons_of_mem _ ha), s.hl⟩
theorem lc_bind {α β γ δ : Type} {relA : Tb → Hp → β → α → Prop} {relB : Tb → Hp → δ → γ → Prop} {T1 : Tb} {H1 : Hp} {g g2 : St} {x : R α} {f : α → Store → R γ} {Q : δ → Hp → Prop} {Q1 : β → Hp → Prop} (h : Out K mg Wx relB T1 g H1 ((nox x).bind f) Q)
    (k : ∀ a S T3 H3 v, Step T H T3 H3 → Sim K mg T3 S H3 → relA T3 H3 v a → Out K mg Wx relB T1 g H1 (f a S) Q → Q1 v H3) : Out K mg W0 relA T g2 H x Q1 := by
  cases x with
  | bad => exact h.elim
  | exc n S => exact h.elim
  | ok a S => exact fun T3 H3 v st sim rl => k a S T3 H3 v st sim rl h
end
section
variable {X : Cx} {Wx : WX} {elt tg iter : Expr} {ifs : List Expr} {scope : Scope} {own : List (Str × Nat)} {pos : Pos} {mi : IM} {sl : List Nat} {gm : D → Env → Option Env} {tt : BM} {te : EM}
theorem jts_nil : PTs X [] (tDT X.K X.mg Wx mYes) := ⟨fun pins s g H Q I h => by
  obtain ⟨T, r, S, rs, sim, h⟩ := h
  exact pts_nil.run pins s g H Q I (h T H true (Step.refl T H) sim rfl)⟩
theorem jts_one {c : Expr} (h : PT X c (tDT X.K X.mg Wx tt)) : PTs X [c] (tDT X.K X.mg Wx tt) := pts_one h
theorem tLc_of {K : PySem.W.Frag} {mg : Str → Option Value} {vs : List Nat} (hsl : ∀ i ∈ sl, i ∈ vs) : ∀ g H Q, tD K mg Wx (mLc mi vs gm tt te) g H Q → tLc (iD K mg Wx mi) (gD K mg sl gm) (tDT K mg W0 tt) (tD K mg W0 te) vs g H Q := by
  intro g H Q h
  obtain ⟨T, r, S, rs, sim, h⟩ := h
  refine ⟨T, r, S, rs, sim, Out.bind h fun ds S1 T1 H1 J st sim1 rel h1 => ?_⟩
  obtain ⟨wk, hz⟩ := rel
  intro Dl hD
  have hl0 : HLen (upd H1 Dl (.lst [])) := hlen_lst sim1.hl (Nat.zero_le _)
  obtain ⟨kp0, simh⟩ := sim1.hide (u := .lst []) hD hl0
  have rs1 := rs.step st
  refine ⟨fun i m H => ∃ T S acc ys, m = ds.length - i ∧ i ≤ ds.length ∧ T.hid = Dl :: T1.hid ∧ Step T1 H1 ⟨T.loc, T1.hid⟩ H ∧ Sim K mg T S H ∧ H Dl = some (.lst acc) ∧ RepL K T H acc ys ∧ ys.length ≤ i ∧
    Out K mg Wx (Rep K) T1 g H1 ((lcL gm tt te (wipeE r vs) (ds.drop i) S).bind fun zs S2 => .ok (.lst (ys ++ zs)) S2) Q, ⟨ds.length, T1.hide Dl, S1, [], [], by simp, Nat.zero_le _, rfl, sim1.stepNew hD, simh, upd_same, .nil, Nat.le_refl _, by simpa using h1⟩, ?_⟩
  rintro i m H2 ⟨T2, S2, acc, ys, rfl, hi, eh, st2, sim2, hD2, ra, hys, ho⟩
  have off2 : ∀ b, T1.off b → H1 b ≠ none → T2.off b := fun b n q => ⟨(st2.out q n).1, fun z => by
    rw [eh] at z
    rcases List.mem_cons.mp z with z | z
    · exact q (by rw [z]; exact hD)
    · exact n.2 z⟩
  have kp2 : Kp T1 H1 T2 H2 := ⟨fun b u k n q => ⟨st2.keep b u n q, off2 b n (some_ne q)⟩, fun b u n q => ⟨st2.rd q n, off2 b n (rd_some q)⟩, fun n a q => st2.get q⟩
  have kf2 : Kf T1 H1 T2 H2 := ⟨kp2, fun b o u n q => ⟨st2.keep b _ n q, off2 b n (some_ne q)⟩⟩
  obtain ⟨stop, go⟩ := wk T2 S2 H2 kf2 sim2
  by_cases hlt : i < ds.length
  · have ed : ds.drop i = ds[i] :: ds.drop (i + 1) := List.drop_eq_getElem_cons hlt
    rw [ed] at ho
    obtain ⟨g1, yl⟩ := go i ds[i] (List.getElem?_eq_getElem hlt)
    refine .inr ⟨g1, fun H => ∃ T S acc ys, T.hid = Dl :: T1.hid ∧ Step T1 H1 ⟨T.loc, T1.hid⟩ H ∧ Sim K mg T S H ∧ H Dl = some (.lst acc) ∧ RepL K T H acc ys ∧ ys.length ≤ i + 1 ∧
      Out K mg Wx (Rep K) T1 g H1 ((lcL gm tt te (wipeE r vs) (ds.drop (i + 1)) S).bind fun zs S2 => .ok (.lst (ys ++ zs)) S2) Q, fun H3 q => ?_, fun x H3 y => ?_⟩
    · obtain ⟨T3, S3, acc3, ys3, q1, q2, q3, q4, q5, q6, q7⟩ := q
      exact ⟨ds.length - (i + 1), by omega, T3, S3, acc3, ys3, rfl, hlt, q1, q2, q3, q4, q5, q6, q7⟩
    · obtain ⟨st3, sim3, rep3⟩ := yl x H3 y
      simp only [lcL] at ho
      -- how a step of the hidden table is one of the open one
      have opn : ∀ {Ta Tb : Tb} {Ha Hb : Hp}, Ta.hid = Dl :: T1.hid → Step T1 H1 ⟨Ta.loc, T1.hid⟩ Ha → Step Ta Ha Tb Hb → Tb.hid = Dl :: T1.hid ∧ Step T1 H1 ⟨Tb.loc, T1.hid⟩ Hb := fun {Ta Tb Ha Hb} e1 s1 s2 => by
        refine ⟨s2.hid.trans e1, s1.trans ⟨s2.ext, rfl, fun b hb => s2.hkeep b (by rw [e1]; exact List.mem_cons_of_mem _ hb), fun b u n q => ?_, s2.new⟩⟩
        by_cases hb : b = Dl
        · subst hb
          rw [s2.hkeep b (by rw [e1]; exact List.mem_cons_self)]
          exact q
        · exact s2.keep b u ⟨n.1, fun z => by
            rw [e1] at z
            exact (List.mem_cons.mp z).elim hb n.2⟩ q
      obtain ⟨eh3, op3⟩ := opn eh st2 st3
      have hid3 : Dl ∈ T2.hid := by rw [eh]; exact List.mem_cons_self
      split at ho
      · exact ho.elim
      · rename_i r1 eg
        refine ⟨T2, wipeE r vs, S2, ds[i], r1, ((rs1.wipe vs).kp kp2).step st3, sim3, rep3, eg, fun g4 rs4 lg kg => ⟨wipe_same hsl (by rw [lg, wipe_length]) kg, T2, r1, S2, rs4, sim3, ?_⟩⟩
        rw [R.bind_assoc] at ho
        refine lc_bind ho fun b S4 T4 H4 v st4 sim4 rel4 ho4 => ?_
        subst rel4
        obtain ⟨eh4, op4⟩ := opn eh3 op3 st4
        have hid4 : Dl ∈ T4.hid := by rw [eh4]; exact List.mem_cons_self
        have hD4 : H4 Dl = some (.lst acc) := (st4.hkeep Dl hid3).trans ((st3.hkeep Dl hid3).trans hD2)
        cases v with
        | false =>
          rw [if_neg Bool.false_ne_true] at ho4 ⊢
          exact ⟨T4, S4, acc, ys, eh4, op4, sim4, hD4, ra.step (st3.trans st4), by omega, ho4⟩
        | true =>
          rw [if_pos rfl, R.bind_assoc] at ho4
          rw [if_pos rfl]
          refine ⟨T4, r1, S4, rs4.step st4, sim4, lc_bind ho4 fun yd S5 T5 H5 yv st5 sim5 rel5 ho5 => ?_⟩
          obtain ⟨eh5, op5⟩ := opn eh4 op4 st5
          have hid5 : Dl ∈ T5.hid := by rw [eh5]; exact List.mem_cons_self
          have ra5 : RepL K T5 H5 acc ys := ra.step ((st3.trans st4).trans st5)
          have hal : acc.length < sizeLine := by rw [ra5.length]; omega
          have hl5 : HLen (upd H5 Dl (.lst (acc ++ [yv]))) := hlen_lst sim5.hl (by rw [List.length_append, List.length_singleton]; omega)
          obtain ⟨kp5, sim6⟩ := sim5.setHid (u := .lst (acc ++ [yv])) hid5 hl5
          refine ⟨acc, (st5.hkeep Dl hid4).trans hD4, hal, T5, S5, acc ++ [yv], ys ++ [yd], eh5, ⟨op5.ext, rfl, fun b hb => ?_, fun b u n q => ?_, op5.new⟩, sim6, upd_same, RepL.append (ra5.kp kp5.toKp) (.cons (rel5.kp kp5.toKp) .nil), by rw [List.length_append, List.length_singleton]; omega, ?_⟩
          · rw [upd_ne fun e => sim1.hid b hb (by rw [e]; exact hD)]
            exact op5.hkeep b hb
          · rw [upd_ne (ne_of_none q hD)]
            exact op5.keep b u n q
          · rw [R.bind_assoc] at ho5
            have e5 : (fun zs S2 => (R.ok (D.lst (ys ++ [yd] ++ zs)) S2 : R D)) = fun a S => (R.ok (yd :: a) S).bind fun zs S2 => R.ok (D.lst (ys ++ zs)) S2 := by
              funext zs S2
              show _ = R.ok (D.lst (ys ++ (yd :: zs))) S2
              rw [List.append_assoc]
              rfl
            rw [e5]
            exact ho5
  · have e : i = ds.length := by omega
    subst e
    rw [List.drop_length] at ho
    refine .inl ⟨stop, ho ⟨T2.loc, T1.hid⟩ H2 _ st2 ?_ ?_⟩
    · have h9 := sim2
      obtain ⟨l2, h2⟩ := T2
      cases eh
      exact h9.unhide
    · obtain ⟨l2, h2⟩ := T2
      cases eh
      rw [List.append_nil]
      refine .lst hD2 ⟨fun z => ?_, fun z => ?_⟩ (ra.kp kp_unhide)
      · exact sim2.apart z List.mem_cons_self
      · have nd := (List.nodup_append.mp sim2.nd).2.1
        exact (List.nodup_cons.mp nd).1 z
theorem j_lc (hsl : ∀ i ∈ sl, i ∈ own.map (·.2)) (hc : X.calm = true) (hN : X.N.Nodup) (hi : PI X tg iter (iD X.K X.mg Wx mi)) (ok : BlkOk X.N X.env.scope scope own)
    (hg : ∀ (s : Shared) (H : Hp) (C : Addr) (cl : List (Str × Addr)) (fp : List Addr), PG (X.blk s H scope (compEnvC scope cl C X.env) fp) tg (gD X.K X.mg sl gm)) (ht : ∀ (s : Shared) (H : Hp) (C : Addr) (cl : List (Str × Addr)) (fp : List Addr), PTs (X.blk s H scope (compEnvC scope cl C X.env) fp) ifs (tDT X.K X.mg W0 tt))
    (he : ∀ (s : Shared) (H : Hp) (C : Addr) (cl : List (Str × Addr)) (fp : List Addr), PE (X.blk s H scope (compEnvC scope cl C X.env) fp) elt (tD X.K X.mg W0 te)) (hs : ∀ x, foldedSetIterable iter X.env x = pure x := by intro _; rfl) :
    PE X (.ListComp elt [⟨tg, iter, ifs, 0⟩] scope pos) (tD X.K X.mg Wx (mLc mi (own.map (·.2)) gm tt te)) := pe_imp (pe_lc hc hN hi ok hg ht he hs) (tLc_of hsl)
theorem js_setLc {i : Nat} {y : Str} {py spos : Pos} (hsl : ∀ i ∈ sl, i ∈ own.map (·.2)) (hc : X.calm = true) (hN : X.N.Nodup) (hy : X.N[i]? = some y) (hyl : X.env.scope.names.lookup y = some .local)
    (hsw : swapsWith (.ListComp elt [⟨tg, iter, ifs, 0⟩] scope pos) (some (.Name y py)) spos.line X.env = pure true) (hi : PI X tg iter (iD X.K X.mg Wx mi)) (ok : BlkOk X.N X.env.scope scope own)
    (hg : ∀ (s : Shared) (H : Hp) (C : Addr) (cl : List (Str × Addr)) (fp : List Addr), PG (X.blk s H scope (compEnvC scope cl C X.env) fp) tg (gD X.K X.mg sl gm)) (ht : ∀ (s : Shared) (H : Hp) (C : Addr) (cl : List (Str × Addr)) (fp : List Addr), PTs (X.blk s H scope (compEnvC scope cl C X.env) fp) ifs (tDT X.K X.mg W0 tt))
    (he : ∀ (s : Shared) (H : Hp) (C : Addr) (cl : List (Str × Addr)) (fp : List Addr), PE (X.blk s H scope (compEnvC scope cl C X.env) fp) elt (tD X.K X.mg W0 te)) (hs : ∀ x, foldedSetIterable iter X.env x = pure x := by intro _; rfl) :
    PS X (.Assign [.Name y py] (.ListComp elt [⟨tg, iter, ifs, 0⟩] scope pos) spos) (tDS X.K X.mg Wx (sSet i (mLc mi (own.map (·.2)) gm tt te))) :=
  ps_imp (ps_setLc hc hN hy hyl hsw hi ok hg ht he hs) fun E g H h => by
    obtain ⟨T, r, S, rs, sim, h⟩ := h
    refine tLc_of hsl g H _ ⟨T, r, S, rs, sim, ZOut.bind h rs fun d S1 T1 H1 v st sim1 rel rs1 h1 => ?_⟩
    exact h1.nx sim1 (rs1.set rel)
end
end Dv
namespace Dv
open PySem L2
def spD (K : PySem.W.Frag) (mg : Str → Option Value) (n : Nat) (F : List D → Store → R D) : Sp := fun vs H Q E => vs.length = n ∧ ∃ T S ds, RepL K T H vs ds ∧ Sim K mg T S H ∧ Out K mg (fun c d _ H => E c d H) (Rep K) T [] H (F ds S) Q
def mApp (n : Nat) (F : List D → Store → R D) (ms : AM) : EM := fun r S => (ms r S).bind fun ds S1 => if ds.length = n then F ds S1 else .bad
section
variable {X : Cx} {Wx : WX} {k n : Nat} {f : Addr} {fd : FuncData} {ps : List Str} {Fn : List D → Store → R D} {x : Str} {p pos : Pos} {e : Expr} {es : List Expr} {ms : AM}
theorem j_call (F : FnOk X.prog X.w X.K X.mg X.base (L2.CX X.prog X.w) k f fd ps (spD X.K X.mg n Fn)) (hr : Room k X.A) (hg : Gl X x) (hm : X.mg x = some (.ref f)) (hk : PySem.W.keepIn X.K (.ref f) = true) (hb : Binds X.K fd ps []) (tk : Takes X Wx)
    (ha : PA X (e :: es) (tDA X.K X.mg Wx ms)) (hdb : (x == ("__debug__" : Str)) = false := by decide) (he : starEach (e :: es) X.env = (false, eval e X.env) :: starEach es X.env := by rfl) (hpl : (backTo pos (starEach es X.env)).any (·.1) = false := by rfl) :
    PE X (.Call (.Name x p) (e :: es) [] pos) (tD X.K X.mg Wx (mApp n Fn ms)) :=
  pe_imp (pe_callSD (E := WE Wx) F hr hg hm hk hb .nil (fun g => passAt tk g) ha hdb he hpl) fun g H Q h => by
    obtain ⟨T, r, S, rs, sim, h⟩ := h
    refine ⟨T, r, S, rs, sim, Out.bind h fun ds S1 T1 H1 vs st sim1 rel h1 => ?_⟩
    split at h1
    · rename_i hn
      rw [List.append_nil]
      refine ⟨by rw [rel.length]; exact hn, T1, S1, ds, rel, sim1, ?_⟩
      revert h1
      cases Fn ds S1 with
      | bad => exact fun h => h
      | exc x S2 => exact fun h => h
      | ok d S2 => exact fun h => h
    · exact h1.elim
end
def frame (sz : Nat) (ds : List D) : Env := ds.map some ++ List.replicate (sz - ds.length) none
theorem frame_ok {K : PySem.W.Frag} {T : Tb} {H : Hp} {vs : List V} {ds : List D} (N : List Str) (h : RepL K T H vs ds) : RepSt K T H (frame N.length ds) (L2.start N vs) := by
  have hl := h.length
  refine ⟨?_, fun i d e => ?_⟩
  · unfold frame L2.start
    rw [List.length_append, List.length_append, List.length_map, List.length_map, hl, List.length_replicate, List.length_replicate]
  · unfold frame at e
    by_cases hi : i < ds.length
    · rw [List.getElem?_append_left (by rw [List.length_map]; exact hi), List.getElem?_map, List.getElem?_eq_getElem hi] at e
      cases e
      obtain ⟨v, h1, h2⟩ := h.get (List.getElem?_eq_getElem hi)
      refine ⟨v, ?_, h2⟩
      unfold L2.start
      rw [List.getElem?_append_left (by rw [List.length_map, hl]; exact hi), List.getElem?_map, h1]
      rfl
    · rw [List.getElem?_append_right (by rw [List.length_map]; omega), List.getElem?_replicate] at e
      split at e <;> cases e
def finK (z : Z) : R D := match z with
  | .ok (.ret d) _ S => .ok d S
  | .ok .next _ S => .ok .non S
  | .exc n _ S => .exc n S
  | _ => .bad
section
variable {P : Program} {w : World} {K : PySem.W.Frag} {mg : Str → Option Value} {base : Heap} {x qual : Str} {st : Stmt} {f : Addr} {fd : FuncData} {N ps : List Str} {k : Nat} {b : SM}
abbrev BodyOk (P : Program) (w : World) (K : PySem.W.Frag) (mg : Str → Option Value) (base : Heap) (N : List Str) (qual : Str) (st : Stmt) (f : Addr) (k : Nat) (b : SM) : Prop :=
  ∀ (cdv : Value) (A : Around) (outer : List PySem.Env) (s : Shared) (H : Hp) (E : XK), Room k (A.deeper (PyProof.Rows.envOfC qual (defScope st) s.heap.objs.size f cdv)) →
    PSs (cxOf (L2.CX P w) P w K mg base N qual (defScope st) f cdv A outer s H E) (defBody st) (tDS K mg (fun c d _ H => E c d H) b)
end
mutual
def clo (n : Nat) : D → Bool
  | .tup xs => cloL n xs
  | .lst xs => cloL n xs
  | .dct kvs => cloK n kvs
  | .loc m => decide (m < n)
  | .non => true
  | .bl _ => true
  | .int _ => true
  | .str _ => true
  | .scr _ => true
  | .ty _ => true
  | .tux xs => cloL n xs
  | .dtt kvs => cloT n kvs
  | .dpr _ kvs => cloP n kvs
  | .adr _ => true
def cloL (n : Nat) : List D → Bool
  | [] => true
  | d :: ds => clo n d && cloL n ds
def cloK (n : Nat) : List (Key × D) → Bool
  | [] => true
  | (_, d) :: ds => clo n d && cloK n ds
def cloT (n : Nat) : List (List Key × D) → Bool
  | [] => true
  | (_, d) :: ds => clo n d && cloT n ds
def cloP (n : Nat) : List (Pr × D) → Bool
  | [] => true
  | (_, d) :: ds => clo n d && cloP n ds
end
theorem cloP_eq (n : Nat) : ∀ kvs : List (Pr × D), cloP n kvs = cloL n (kvs.map (·.2))
  | [] => rfl
  | (_, d) :: ds => by
    show (clo n d && cloP n ds) = (clo n d && cloL n (ds.map (·.2)))
    rw [cloP_eq n ds]
theorem cloT_eq (n : Nat) : ∀ kvs : List (List Key × D), cloT n kvs = cloL n (kvs.map (·.2))
  | [] => rfl
  | (_, d) :: ds => by
    show (clo n d && cloT n ds) = (clo n d && cloL n (ds.map (·.2)))
    rw [cloT_eq n ds]
theorem cloK_eq (n : Nat) : ∀ kvs : List (Key × D), cloK n kvs = cloL n (kvs.map (·.2))
  | [] => rfl
  | (_, d) :: ds => by
    show (clo n d && cloK n ds) = (clo n d && cloL n (ds.map (·.2)))
    rw [cloK_eq n ds]
theorem cloL_ints (n : Nat) : ∀ ns : List Int, cloL n (ns.map D.int) = true
  | [] => rfl
  | x :: ns => by
    show (clo n (D.int x) && cloL n (ns.map D.int)) = true
    rw [cloL_ints n ns]
    rfl
theorem clo_prD (n : Nat) (p : Pr) : clo n (prD p) = true := by
  show (true && (cloL n (p.2.map D.int) && true)) = true
  rw [cloL_ints]
  rfl
theorem cloL_prD {α : Type} (n : Nat) (f : α → Pr) : ∀ xs : List α, cloL n (xs.map fun x => prD (f x)) = true
  | [] => rfl
  | x :: xs => by
    show (clo n (prD (f x)) && cloL n (xs.map fun x => prD (f x))) = true
    rw [cloL_prD n f xs, clo_prD]
    rfl
theorem cloL_iff (n : Nat) : ∀ ds : List D, cloL n ds = true ↔ ∀ d ∈ ds, clo n d = true
  | [] => ⟨fun _ d h => (by cases h), fun _ => rfl⟩
  | x :: ds => by
    show (clo n x && cloL n ds) = true ↔ _
    rw [Bool.and_eq_true, cloL_iff n ds]
    exact ⟨fun h d hd => (List.mem_cons.mp hd).elim (fun e => e ▸ h.1) (h.2 d), fun h => ⟨h x List.mem_cons_self, fun d hd => h d (List.mem_cons_of_mem _ hd)⟩⟩
def cloO (n : Nat) : O → Bool
  | .lst xs => cloL n xs
  | .dct kvs => cloK n kvs
  | .dtt kvs => cloT n kvs
  | .dpr _ kvs => cloP n kvs
  | .ins _ fs => cloL n (fs.map (·.2))
  | .tbl _ _ => true
section
variable {K : PySem.W.Frag} {mg : Str → Option Value} {T T' : Tb} {H : Hp}
mutual
theorem Rep.clo : ∀ {v : V} {d : D}, Rep K T H v d → Dv.clo T.loc.length d = true
  | _, _, .non => rfl
  | _, _, .bl b => rfl
  | _, _, .int i => rfl
  | _, _, .str x => rfl
  | _, _, .ty x => rfl
  | _, _, .tup h n r => RepL.clo r
  | _, _, .lst h n r => RepL.clo r
  | _, _, .scr h => rfl
  | _, _, @Rep.dct _ _ _ a kvs kds h n e r => by
    show cloK _ kds = true
    rw [cloK_eq]
    exact RepL.clo r
  | _, _, .loc h => decide_eq_true (List.getElem?_eq_some_iff.mp h).1
  | _, _, .tux _ h n r => RepL.clo r
  | _, _, @Rep.dtt _ _ _ a kvs kds h n e r => by
    show cloT _ kds = true
    rw [cloT_eq]
    exact RepL.clo r
  | _, _, .adr _ => rfl
  | _, _, @Rep.dpr _ _ _ a w xs kds h n e r q => by
    show cloP _ kds = true
    rw [cloP_eq]
    exact RepL.clo q
theorem RepL.clo : ∀ {vs : List V} {ds : List D}, RepL K T H vs ds → cloL T.loc.length ds = true
  | _, _, .nil => rfl
  | _, _, .cons h r => by
    show (Dv.clo _ _ && cloL _ _) = true
    rw [Rep.clo h, RepL.clo r]
    rfl
end
theorem ORep.clo {a : Addr} {o : O} (h : ORep K mg T H a o) : cloO T.loc.length o = true := by
  cases o with
  | lst ds => obtain ⟨xs, _, h2⟩ := h; exact h2.clo
  | dct kds => obtain ⟨xs, _, _, h2⟩ := h; show cloK _ _ = true; rw [cloK_eq]; exact h2.clo
  | dtt kds => obtain ⟨xs, _, _, h2⟩ := h; show cloT _ _ = true; rw [cloT_eq]; exact h2.clo
  | dpr w kds => obtain ⟨xs, _, _, _, h2⟩ := h; show cloP _ _ = true; rw [cloP_eq]; exact h2.clo
  | ins c fs => obtain ⟨_, _, _, _, _, _, h2⟩ := h; exact h2.clo
  | tbl x q => rfl
mutual
theorem Rep.cut {m : List Addr} (e : T'.loc = T.loc ++ m) (eh : T'.hid = T.hid) : ∀ {v : V} {d : D}, Rep K T' H v d → Dv.clo T.loc.length d = true → Rep K T H v d
  | _, _, .non, _ => .non
  | _, _, .bl b, _ => .bl b
  | _, _, .int i, _ => .int i
  | _, _, .str x, _ => .str x
  | _, _, .ty x, _ => .ty x
  | _, _, .tup h n r, c => .tup h ⟨fun z => n.1 (by rw [e]; exact List.mem_append_left _ z), by rw [← eh]; exact n.2⟩ (RepL.cut e eh r c)
  | _, _, .lst h n r, c => .lst h ⟨fun z => n.1 (by rw [e]; exact List.mem_append_left _ z), by rw [← eh]; exact n.2⟩ (RepL.cut e eh r c)
  | _, _, .scr (.inl ⟨h, n⟩), _ => .scr (.inl ⟨h, fun z => n.1 (by rw [e]; exact List.mem_append_left _ z), by rw [← eh]; exact n.2⟩)
  | _, _, .scr (.inr h), _ => .scr (.inr h)
  | _, _, @Rep.dct _ _ _ a kvs kds h n q r, c => .dct h ⟨fun z => n.1 (by rw [e]; exact List.mem_append_left _ z), by rw [← eh]; exact n.2⟩ q (RepL.cut e eh r (by
    have c : cloK _ kds = true := c
    rw [cloK_eq] at c
    exact c))
  | _, _, .loc h, c => .loc (by
    rw [e, List.getElem?_append_left (of_decide_eq_true c)] at h
    exact h)
  | _, _, .tux d h n r, c => .tux d h ⟨fun z => n.1 (by rw [e]; exact List.mem_append_left _ z), by rw [← eh]; exact n.2⟩ (RepL.cut e eh r c)
  | _, _, @Rep.dtt _ _ _ a kvs kds h n q r, c => .dtt h ⟨fun z => n.1 (by rw [e]; exact List.mem_append_left _ z), by rw [← eh]; exact n.2⟩ q (RepL.cut e eh r (by
    have c : cloT _ kds = true := c
    rw [cloT_eq] at c
    exact c))
  | _, _, .adr _, _ => .adr _
  | _, _, @Rep.dpr _ _ _ a w xs kds h n q r r2, c => .dpr h ⟨fun z => n.1 (by rw [e]; exact List.mem_append_left _ z), by rw [← eh]; exact n.2⟩ q (RepL.cut e eh r (cloL_prD _ _ _)) (RepL.cut e eh r2 (by
    have c : cloP _ kds = true := c
    rw [cloP_eq] at c
    exact c))
theorem RepL.cut {m : List Addr} (e : T'.loc = T.loc ++ m) (eh : T'.hid = T.hid) : ∀ {vs : List V} {ds : List D}, RepL K T' H vs ds → cloL T.loc.length ds = true → RepL K T H vs ds
  | _, _, .nil, _ => .nil
  | _, _, @RepL.cons _ _ _ v vs d ds h r, c => by
    have c : (Dv.clo _ d && cloL _ ds) = true := c
    rw [Bool.and_eq_true] at c
    exact .cons (Rep.cut e eh h c.1) (RepL.cut e eh r c.2)
end
theorem ORep.cut {m : List Addr} {a : Addr} {o : O} (e : T'.loc = T.loc ++ m) (eh : T'.hid = T.hid) (h : ORep K mg T' H a o) (c : cloO T.loc.length o = true) : ORep K mg T H a o := by
  cases o with
  | lst ds => obtain ⟨xs, h1, h2⟩ := h; exact ⟨xs, h1, h2.cut e eh c⟩
  | dct kds =>
    obtain ⟨xs, h1, h3, h2⟩ := h
    have c : cloK _ kds = true := c
    rw [cloK_eq] at c
    exact ⟨xs, h1, h3, h2.cut e eh c⟩
  | dtt kds =>
    obtain ⟨xs, h1, h3, h2⟩ := h
    have c : cloT _ kds = true := c
    rw [cloT_eq] at c
    exact ⟨xs, h1, h3, h2.cut e eh c⟩
  | dpr w kds =>
    obtain ⟨xs, h1, h3, h2, h4⟩ := h
    have c : cloP _ kds = true := c
    rw [cloP_eq] at c
    exact ⟨xs, h1, h3, h2.cut e eh (cloL_prD _ _ _), h4.cut e eh c⟩
  | ins n fs => obtain ⟨C, dx, fvs, h1, h2, h3, h4⟩ := h; exact ⟨C, dx, fvs, h1, h2, h3, h4.cut e eh c⟩
  | tbl x q =>
    obtain ⟨hx, ps, h1, h2, h3⟩ := h
    refine ⟨hx, ps, h1, h2, fun pos cv hc => ?_⟩
    obtain ⟨z, rfl, h4, h5⟩ := h3 pos cv hc
    exact ⟨z, rfl, h4, fun q => h5.1 (by rw [e]; exact List.mem_append_left _ q), by rw [← eh]; exact h5.2⟩
end
def Tr (S S1 : Store) : Prop := S.length ≤ S1.length ∧ ∀ (i : Nat) (o : O), i < S.length → S1[i]? = some o → S[i]? = some o ∨ cloO S.length o = true
theorem Tr.app (S E : Store) : Tr S (S ++ E) := ⟨by rw [List.length_append]; omega, fun i o hi h => .inl (by rw [List.getElem?_append_left hi] at h; exact h)⟩
theorem Tr.set (S E : Store) (n : Nat) (o : O) (h : cloO S.length o = true) : Tr S (S.set n o ++ E) := ⟨by rw [List.length_append, List.length_set]; omega, fun i o' hi q => by
  rw [List.getElem?_append_left (by rw [List.length_set]; exact hi)] at q
  by_cases e : n = i
  · subst e
    rw [List.getElem?_set_self hi] at q
    cases q
    exact .inr h
  · rw [List.getElem?_set_ne e] at q
    exact .inl q⟩
def fzD (n : Nat) (S : Store) (d : D) : Option D := match d with
  | .loc m => if m < n then some (.loc m) else match S[m]? with
    | some (.lst ds) => if cloL n ds = true then some (.lst ds) else none
    | some (.dct kvs) => if cloK n kvs = true then some (.dct kvs) else none
    | some (.dtt kvs) => if cloT n kvs = true then some (.dtt kvs) else none
    | _ => none
  | d => if clo n d = true then some d else none
def fzL (g : D → Option D) : List D → Option (List D)
  | [] => some []
  | d :: ds => match g d, fzL g ds with
    | some a, some b => some (a :: b)
    | _, _ => none
def fzN : Nat → Nat → Store → D → Option D
  | 0, _, _, _ => none
  | f + 1, n, S, d => match d with
    | .loc m => if m < n then some (.loc m) else match S[m]? with
      | some (.lst ds) => (fzL (fzN f n S) ds).map .lst
      | some (.dct kvs) => (fzL (fzN f n S) (kvs.map (·.2))).map fun vs => .dct ((kvs.map (·.1)).zip vs)
      | some (.dtt kvs) => (fzL (fzN f n S) (kvs.map (·.2))).map fun vs => .dtt ((kvs.map (·.1)).zip vs)
      | _ => none
    | .tup ds => (fzL (fzN f n S) ds).map .tup
    | .lst ds => (fzL (fzN f n S) ds).map .lst
    | d => if clo n d = true then some d else none
def fzE (n : Nat) (S : Store) (d : D) : Option D := match fzD n S d with
  | some x => some x
  | none => fzN 9 n S d
theorem fzL_len {g : D → Option D} : ∀ {ds es : List D}, fzL g ds = some es → es.length = ds.length
  | [], _, h => by cases h; rfl
  | d :: ds, es, h => by
    unfold fzL at h
    split at h
    · rename_i a b e1 e2
      cases h
      rw [List.length_cons, List.length_cons, fzL_len e2]
    · cases h
theorem zip_keys {α : Type} : ∀ {ks : List α} {vs : List D}, vs.length = ks.length → (ks.zip vs).map (·.1) = ks ∧ (ks.zip vs).map (·.2) = vs
  | [], [], _ => ⟨rfl, rfl⟩
  | k :: ks, v :: vs, h => by
    obtain ⟨h1, h2⟩ := zip_keys (ks := ks) (vs := vs) (by simpa using h)
    rw [List.zip_cons_cons, List.map_cons, List.map_cons, h1, h2]
    exact ⟨rfl, rfl⟩
  | [], _ :: _, h => by cases h
  | _ :: _, [], h => by cases h
open Classical in
def finT (S : Store) (z : Z) : R D := match z with
  | .ok (.ret d) _ S1 => if Tr S S1 then (match fzE S.length S1 d with
    | some d' => .ok d' (S1.take S.length)
    | none => .bad) else .bad
  | .ok .next _ S1 => if Tr S S1 then .ok .non (S1.take S.length) else .bad
  | .exc n _ S1 => if Tr S S1 then .exc n (S1.take S.length) else .bad
  | _ => .bad
def runT (sz : Nat) (b : SM) : List D → Store → R D := fun ds S => finT S (b (frame sz ds) S)
section
variable {K : PySem.W.Frag} {mg : Str → Option Value} {T T1 : Tb} {H H1 : Hp} {S S1 : Store}
theorem tr_back (sim : Sim K mg T S H) (st : Step T H T1 H1) (sim1 : Sim K mg T1 S1 H1) (tr : Tr S S1) : Step T H T H1 ∧ Sim K mg T (S1.take S.length) H1 := by
  obtain ⟨m, em⟩ := st.ext
  refine ⟨⟨⟨[], by simp⟩, rfl, st.hkeep, st.keep, fun a h n => absurd h n⟩, ?_, sim.nd, fun i a o h1 h2 => ?_, fun a h => by rw [← st.hid] at h; exact sim1.hid' a h, sim1.hl⟩
  · rw [List.length_take, sim.len]
    have := tr.1
    omega
  · have hi : i < S.length := by rw [← sim.len]; exact (List.getElem?_eq_some_iff.mp h1).1
    rw [List.getElem?_take, if_pos hi] at h2
    refine (sim1.obj i a o (st.get h1) h2).cut em st.hid ?_
    rcases tr.2 i o hi h2 with q | q
    · exact (sim.obj i a o h1 q).clo
    · rw [sim.len]; exact q
theorem fz_back (sim : Sim K mg T S H) (st : Step T H T1 H1) (sim1 : Sim K mg T1 S1 H1) {v : V} {d d' : D} (h : Rep K T1 H1 v d) (e : fzD S.length S1 d = some d') : Rep K T H1 v d' := by
  obtain ⟨m, em⟩ := st.ext
  have off : ∀ (i : Nat) (a : Addr), T1.loc[i]? = some a → ¬ i < S.length → T.off a := fun i a h1 hi => ⟨fun z => by
    obtain ⟨j, hj, ej⟩ := List.mem_iff_getElem.mp z
    have h2 : T1.loc[j]? = some a := st.get (by rw [List.getElem?_eq_getElem hj, ej])
    have := nd_ix sim1.ndl h1 h2
    rw [sim.len] at hj
    omega, fun z => sim1.apart (List.mem_of_getElem? h1) (by rw [st.hid]; exact z)⟩
  have plain : ∀ d, (∀ n, d ≠ .loc n) → fzD S.length S1 d = (if clo S.length d = true then some d else none) := fun d hd => by
    cases d <;> first | rfl | exact absurd rfl (hd _)
  by_cases hd : ∀ n, d ≠ .loc n
  · rw [plain d hd] at e
    split at e
    · rename_i c
      cases e
      exact h.cut em st.hid (by rw [sim.len]; exact c)
    · cases e
  · cases d with
    | loc k =>
      cases h with
      | loc hk =>
        simp only [fzD] at e
        split at e
        · rename_i hlt
          cases e
          refine .loc ?_
          rw [em, List.getElem?_append_left (by rw [sim.len]; exact hlt)] at hk
          exact hk
        · rename_i hlt
          have of := off k _ hk hlt
          split at e
          · rename_i ds es
            split at e
            · rename_i c
              cases e
              obtain ⟨xs, q1, q2⟩ := sim1.obj k _ _ hk es
              exact .lst q1 of (q2.cut em st.hid (by rw [sim.len]; exact c))
            · cases e
          · rename_i kvs es
            split at e
            · rename_i c
              cases e
              obtain ⟨xs, q1, q3, q2⟩ := sim1.obj k _ _ hk es
              rw [cloK_eq] at c
              exact .dct (.inl q1) of q3 (q2.cut em st.hid (by rw [sim.len]; exact c))
            · cases e
          · rename_i kvs es
            split at e
            · rename_i c
              cases e
              obtain ⟨xs, q1, q3, q2⟩ := sim1.obj k _ _ hk es
              rw [cloT_eq] at c
              exact .dtt (.inl q1) of q3 (q2.cut em st.hid (by rw [sim.len]; exact c))
            · cases e
          · cases e
    | _ => exact absurd (fun n q => by cases q) hd
theorem fzN_back (sim : Sim K mg T S H) (st : Step T H T1 H1) (sim1 : Sim K mg T1 S1 H1) : ∀ (f : Nat) {v : V} {d d' : D}, Rep K T1 H1 v d → fzN f S.length S1 d = some d' → Rep K T H1 v d' := by
  obtain ⟨m, em⟩ := st.ext
  have off : ∀ (i : Nat) (a : Addr), T1.loc[i]? = some a → ¬ i < S.length → T.off a := fun i a h1 hi => ⟨fun z => by
    obtain ⟨j, hj, ej⟩ := List.mem_iff_getElem.mp z
    have h2 : T1.loc[j]? = some a := st.get (by rw [List.getElem?_eq_getElem hj, ej])
    have := nd_ix sim1.ndl h1 h2
    rw [sim.len] at hj
    omega, fun z => sim1.apart (List.mem_of_getElem? h1) (by rw [st.hid]; exact z)⟩
  have sub : ∀ a, T1.off a → T.off a := fun a n => ⟨fun z => n.1 (by rw [em]; exact List.mem_append_left _ z), by rw [← st.hid]; exact n.2⟩
  intro f
  induction f with
  | zero => intro v d d' _ e; cases e
  | succ f ih =>
    have all : ∀ {vs : List V} {ds es : List D}, RepL K T1 H1 vs ds → fzL (fzN f S.length S1) ds = some es → RepL K T H1 vs es := by
      intro vs ds
      induction ds generalizing vs with
      | nil =>
        intro es r e
        cases r
        cases e
        exact .nil
      | cons d ds ihd =>
        intro es r e
        unfold fzL at e
        split at e
        · rename_i a b e1 e2
          cases e
          cases r with
          | cons r1 r2 => exact .cons (ih r1 e1) (ihd r2 e2)
        · cases e
    intro v d d' h e
    unfold fzN at e
    split at e
    · rename_i k
      cases h with
      | loc hk =>
        split at e
        · rename_i hlt
          cases e
          refine .loc ?_
          rw [em, List.getElem?_append_left (by rw [sim.len]; exact hlt)] at hk
          exact hk
        · rename_i hlt
          have of := off k _ hk hlt
          split at e
          · rename_i ds es
            obtain ⟨ys, h1, rfl⟩ := Option.map_eq_some_iff.mp e
            obtain ⟨xs, q1, q2⟩ := sim1.obj k _ _ hk es
            exact .lst q1 of (all q2 h1)
          · rename_i kvs es
            obtain ⟨ys, h1, rfl⟩ := Option.map_eq_some_iff.mp e
            obtain ⟨xs, q1, q3, q2⟩ := sim1.obj k _ _ hk es
            have hz := zip_keys (ks := kvs.map (·.1)) (vs := ys) (by rw [fzL_len h1, List.length_map, List.length_map])
            exact .dct (.inl q1) of (by rw [hz.1]; exact q3) (by rw [hz.2]; exact all q2 h1)
          · rename_i kvs es
            obtain ⟨ys, h1, rfl⟩ := Option.map_eq_some_iff.mp e
            obtain ⟨xs, q1, q3, q2⟩ := sim1.obj k _ _ hk es
            have hz := zip_keys (ks := kvs.map (·.1)) (vs := ys) (by rw [fzL_len h1, List.length_map, List.length_map])
            exact .dtt (.inl q1) of (by rw [hz.1]; exact q3) (by rw [hz.2]; exact all q2 h1)
          · cases e
    · obtain ⟨ys, h1, rfl⟩ := Option.map_eq_some_iff.mp e
      cases h with
      | tup hh n r => exact .tup hh (sub _ n) (all r h1)
    · obtain ⟨ys, h1, rfl⟩ := Option.map_eq_some_iff.mp e
      cases h with
      | lst hh n r => exact .lst hh (sub _ n) (all r h1)
    · split at e
      · rename_i c
        cases e
        exact h.cut em st.hid (by rw [sim.len]; exact c)
      · cases e
theorem fzE_back (sim : Sim K mg T S H) (st : Step T H T1 H1) (sim1 : Sim K mg T1 S1 H1) {v : V} {d d' : D} (h : Rep K T1 H1 v d) (e : fzE S.length S1 d = some d') : Rep K T H1 v d' := by
  unfold fzE at e
  split at e
  · rename_i x ex
    cases e
    exact fz_back sim st sim1 h ex
  · exact fzN_back sim st sim1 9 h e
end
section
variable {P : Program} {w : World} {K : PySem.W.Frag} {mg : Str → Option Value} {base : Heap} {x qual : Str} {st : Stmt} {f : Addr} {fd : FuncData} {N ps : List Str} {k : Nat} {b : SM}
theorem fnT (F : Fun K x qual st f fd) (Sc : FnScope N ps (defScope st)) (hb : BodyOk P w K mg base N qual st f k b) : FnOk P w K mg base (L2.CX P w) (k + 1) f fd ps (spD K mg ps.length (runT N.length b)) := by
  refine F.okX Sc (fun vs H Q E h => h.1) fun cdv A outer s H vs Q E hr hsp => ⟨_, hb cdv A outer s H E hr, ?_⟩
  obtain ⟨hl, T, S, ds, rep, sim, out⟩ := hsp
  refine ⟨T, frame N.length ds, S, frame_ok N rep, sim, ?_⟩
  unfold runT finT at out
  revert out
  cases b (frame N.length ds) S with
  | bad => exact fun h => h
  | exc n r' S' =>
    intro h T' H' g' s sim' _
    dsimp only at h
    split at h
    · rename_i tr
      obtain ⟨s1, m1⟩ := tr_back sim s sim' tr
      exact h T H' s1 m1
    · exact h.elim
  | ok fl r' S' =>
    cases fl with
    | next =>
      intro h T' H' g' s sim' rs'
      dsimp only at h
      split at h
      · rename_i tr
        obtain ⟨s1, m1⟩ := tr_back sim s sim' tr
        exact h T H' .non s1 m1 .non
      · exact h.elim
    | ret d =>
      intro h T' H' v s sim' rv
      dsimp only at h
      split at h
      · rename_i tr
        obtain ⟨s1, m1⟩ := tr_back sim s sim' tr
        split at h
        · rename_i d' ed
          exact h T H' v s1 m1 (fzE_back sim s sim' rv ed)
        · exact h.elim
      · exact h.elim
    | brk => exact fun h => h.elim
    | cont => exact fun h => h.elim
end
end Dv
namespace Dv
open PySem L2
def subD (a b : D) (_ : Store) : Option D := match a, b with
  | .int i, .int j => some (.int (i - j))
  | _, _ => none
def fdivD (a b : D) (_ : Store) : Option D := match a, b with
  | .int i, .int j => if 0 < j ∧ j < 1073741824 then some (.int (i / j)) else none
  | _, _ => none
def modD (a b : D) (_ : Store) : Option D := match a, b with
  | .int i, .int j => if 0 < j then some (.int (i % j)) else none
  | _, _ => none
def negD (a : D) (_ : Store) : Option D := match a with
  | .int i => some (.int (-i))
  | _ => none
def addD (a b : D) (_ : Store) : Option D := match a, b with
  | .int i, .int j => some (.int (i + j))
  | .str x, .str y => if x.length + y.length ≤ 100000 then some (.str (x ++ y)) else none
  | .tup xs, .tup ys => if xs.length + ys.length ≤ 100000 then some (.tup (xs ++ ys)) else none
  | .lst xs, .lst ys => if xs.length + ys.length ≤ 100000 then some (.lst (xs ++ ys)) else none
  | _, _ => none
def mulD (a b : D) (_ : Store) : Option D := match a, b with
  | .int i, .int j => if (-(2 ^ 64) < i ∧ i < 2 ^ 64) ∨ (-(2 ^ 64) < j ∧ j < 2 ^ 64) then some (.int (i * j)) else none
  | .lst xs, .int k => if -100000 ≤ k ∧ k ≤ 100000 ∧ xs.length * k.toNat ≤ 100000 then some (.lst (List.replicate k.toNat xs).flatten) else none
  | _, _ => none
def ltD (a b : D) (_ : Store) : Option D := match a, b with
  | .int i, .int j => some (.bl (decide (i < j)))
  | .str x, .str y => some (.bl (decide (x.cps.toList < y.cps.toList)))
  | _, _ => none
def leD (a b : D) (_ : Store) : Option D := match a, b with
  | .int i, .int j => some (.bl (decide (i ≤ j)))
  | .str x, .str y => some (.bl (!decide (y.cps.toList < x.cps.toList)))
  | _, _ => none
def gtD (a b : D) (_ : Store) : Option D := match a, b with
  | .int i, .int j => some (.bl (decide (j < i)))
  | _, _ => none
section
variable {X : Cx} {K : PySem.W.Frag} {mg : Str → Option Value}
theorem pok_I0 {g : Int → Int → V} {gd : Int → Int → D} {f : D → D → Store → Option D} (hf : ∀ a b S d, f a b S = some d → ∃ i j, a = .int i ∧ b = .int j ∧ d = gd i j) (hg : ∀ T H i j, Rep K T H (g i j) (gd i j)) : POk2 K mg (rI0 g) f := fun T S H x y a b d Q sim rx ry e k => by
  obtain ⟨i, j, rfl, rfl, rfl⟩ := hf a b S d e
  exact ⟨i, j, rx.int_of, ry.int_of, k H _ (Step.refl T H) sim (hg T H i j)⟩
theorem pok_I {C : Int → Int → Prop} {g : Int → Int → V} {gd : Int → Int → D} {f : D → D → Store → Option D} (hf : ∀ a b S d, f a b S = some d → ∃ i j, a = .int i ∧ b = .int j ∧ C i j ∧ d = gd i j) (hg : ∀ T H i j, Rep K T H (g i j) (gd i j)) : POk2 K mg (rI C g) f := fun T S H x y a b d Q sim rx ry e k => by
  obtain ⟨i, j, rfl, rfl, hc, rfl⟩ := hf a b S d e
  exact ⟨i, j, rx.int_of, ry.int_of, hc, k H _ (Step.refl T H) sim (hg T H i j)⟩
theorem pok_sub : POk2 K mg (rI0 fun i j => .int (i - j)) subD := pok_I0 (gd := fun i j => .int (i - j)) (fun a b S d e => by
  cases a <;> cases b <;> cases e
  exact ⟨_, _, rfl, rfl, rfl⟩) fun _ _ _ _ => .int _
theorem pok_fdiv : POk2 K mg (rI CDiv fun i j => .int (i / j)) fdivD := pok_I (gd := fun i j => .int (i / j)) (fun a b S d e => by
  cases a <;> cases b <;> try cases e
  simp only [fdivD] at e
  split at e
  · rename_i h
    cases e
    exact ⟨_, _, rfl, rfl, h, rfl⟩
  · cases e) fun _ _ _ _ => .int _
theorem pok_mod : POk2 K mg (rI (fun _ j => 0 < j) fun i j => .int (i % j)) modD := pok_I (gd := fun i j => .int (i % j)) (fun a b S d e => by
  cases a <;> cases b <;> try cases e
  simp only [modD] at e
  split at e
  · rename_i h
    cases e
    exact ⟨_, _, rfl, rfl, h, rfl⟩
  · cases e) fun _ _ _ _ => .int _
theorem pok_neg : POk1 K mg (rU fun i => .int (-i)) negD := fun T S H x a d Q sim rx e k => by
  cases a <;> cases e
  exact ⟨_, rx.int_of, k H _ (Step.refl T H) sim (.int _)⟩
def rAddA (K : PySem.W.Frag) : R2 := fun x y H Q => (∃ i j, x = .int i ∧ y = .int j ∧ Q (.int (i + j)) H) ∨ (∃ i j, x = .str i ∧ y = .str j ∧ i.length + j.length ≤ sizeLine ∧ Q (.str (i ++ j)) H) ∨ rCatA K x y H Q ∨ rCat x y H Q
theorem op_addA : OpR X (binaryOp .Add) (rAddA X.K) := op_add.or (op_add_str.or (op_catA.or op_cat))
theorem pok_add : POk2 K mg (rAddA K) addD := fun T S H x y a b d Q sim rx ry e k => by
  cases rx <;> cases ry <;> try cases e
  · exact .inl ⟨_, _, rfl, rfl, k H _ (Step.refl T H) sim (.int _)⟩
  · simp only [addD] at e
    split at e
    · rename_i h
      cases e
      exact .inr (.inl ⟨_, _, rfl, rfl, sz5 h, k H _ (Step.refl T H) sim (.str _)⟩)
    · cases e
  · rename_i a1 xs ds h1 n1 r1 a2 ys es h2 n2 r2
    simp only [addD] at e
    split at e
    · rename_i hz
      cases e
      have hz' : xs.length + ys.length ≤ sizeLine := by rw [r1.length, r2.length]; exact sz5 hz
      refine .inr (.inr (.inl ⟨a1, a2, xs, ys, rfl, rfl, SqT.of h1, SqT.of h2, hz', fun q => ?_, fun q1 q2 => ?_, fun q1 q2 p hp => ?_⟩))
      · subst q
        cases r1
        exact k H _ (Step.refl T H) sim (.tup h2 n2 r2)
      · subst q2
        cases r2
        rw [List.append_nil] at k
        exact k H _ (Step.refl T H) sim (.tup h1 n1 r1)
      · have st := sim.stepNew (o := .tup (xs ++ ys)) hp
        exact k _ _ st (sim.new hp (hlen_tup sim.hl (by rw [List.length_append]; exact hz'))) (.tup upd_same (sim.off hp) (RepL.append (r1.step st) (r2.step st)))
    · cases e
  · rename_i a1 xs ds h1 n1 r1 a2 ys es h2 n2 r2
    simp only [addD] at e
    split at e
    · rename_i hz
      cases e
      have hz' : xs.length + ys.length ≤ sizeLine := by rw [r1.length, r2.length]; exact sz5 hz
      refine .inr (.inr (.inr ⟨a1, a2, xs, ys, rfl, rfl, h1, h2, hz', fun p hp => ?_⟩))
      have st := sim.stepNew (o := .lst (xs ++ ys)) hp
      exact k _ _ st (sim.new hp (hlen_lst sim.hl (by rw [List.length_append]; exact hz'))) (.lst upd_same (sim.off hp) (RepL.append (r1.step st) (r2.step st)))
    · cases e
def rMulA : R2 := fun x y H Q => rI CMul (fun i j => .int (i * j)) x y H Q ∨ rRep x y H Q
theorem op_mulA : OpR X (binaryOp .Mult) rMulA := op_mul.or op_rep
theorem flat_len {α : Type} (xs : List α) : ∀ k : Nat, (List.replicate k xs).flatten.length = xs.length * k
  | 0 => rfl
  | k + 1 => by
    rw [List.replicate_succ, List.flatten_cons, List.length_append, flat_len xs k, Nat.mul_succ, Nat.add_comm]
theorem pok_mul : POk2 K mg rMulA mulD := fun T S H x y a b d Q sim rx ry e k => by
  cases rx <;> cases ry <;> try cases e
  · simp only [mulD] at e
    split at e
    · rename_i h
      cases e
      exact .inl ⟨_, _, rfl, rfl, h, k H _ (Step.refl T H) sim (.int _)⟩
    · cases e
  · rename_i a1 xs ds h1 n1 r1 i
    simp only [mulD] at e
    split at e
    · rename_i hz
      cases e
      have hz' : xs.length * i.toNat ≤ sizeLine := by rw [r1.length]; exact sz5 hz.2.2
      refine .inr ⟨a1, i, xs, rfl, rfl, h1, by omega, by omega, hz', fun p hp => ?_⟩
      have st := sim.stepNew (o := .lst (List.replicate i.toNat xs).flatten) hp
      exact k _ _ st (sim.new hp (hlen_lst sim.hl (by rw [flat_len]; exact hz'))) (.lst upd_same (sim.off hp) ((r1.step st).rep i.toNat))
    · cases e
def rLtA (K : PySem.W.Frag) : R2 := fun x y H Q => (∃ i j, x = .int i ∧ y = .int j ∧ Q (.bl (decide (i < j))) H) ∨ (∃ i j, x = .str i ∧ y = .str j ∧ Q (.bl (decide (i.cps.toList < j.cps.toList))) H)
theorem op_ltA : OpR X (compareOp .Lt) (rLtA X.K) := op_lt.or op_lt_str
theorem pok_lt : POk2 K mg (rLtA K) ltD := fun T S H x y a b d Q sim rx ry e k => by
  cases rx <;> cases ry <;> cases e
  · exact .inl ⟨_, _, rfl, rfl, k H _ (Step.refl T H) sim (.bl _)⟩
  · exact .inr ⟨_, _, rfl, rfl, k H _ (Step.refl T H) sim (.bl _)⟩
def rLeA (K : PySem.W.Frag) : R2 := fun x y H Q => (∃ i j, x = .int i ∧ y = .int j ∧ Q (.bl (decide (i ≤ j))) H) ∨ (∃ i j, x = .str i ∧ y = .str j ∧ Q (.bl (!decide (j.cps.toList < i.cps.toList))) H)
theorem op_leA : OpR X (compareOp .LtE) (rLeA X.K) := op_le.or op_le_str
theorem pok_le : POk2 K mg (rLeA K) leD := fun T S H x y a b d Q sim rx ry e k => by
  cases rx <;> cases ry <;> cases e
  · exact .inl ⟨_, _, rfl, rfl, k H _ (Step.refl T H) sim (.bl _)⟩
  · exact .inr ⟨_, _, rfl, rfl, k H _ (Step.refl T H) sim (.bl _)⟩
theorem pok_gt : POk2 K mg (rI0 fun i j => .bl (decide (j < i))) gtD := pok_I0 (gd := fun i j => .bl (decide (j < i))) (fun a b S d e => by
  cases a <;> cases b <;> cases e
  exact ⟨_, _, rfl, rfl, rfl⟩) fun _ _ _ _ => .bl _
end
mutual
def pyD : D → PyData
  | .non => .none
  | .bl b => .bool b
  | .int i => .int i
  | .str x => .str x
  | .tup xs => .tuple (pyDs xs)
  | .lst xs => .list (pyDs xs)
  | .scr _ => .none
  | .dct _ => .none
  | .dtt _ => .none
  | .dpr _ _ => .none
  | .adr _ => .none
  | .loc _ => .none
  | .ty _ => .none
  | .tux _ => .none
def pyDs : List D → List PyData
  | [] => []
  | d :: ds => pyD d :: pyDs ds
end
mutual
def dat : D → Bool
  | .non => true
  | .bl _ => true
  | .int _ => true
  | .str _ => true
  | .tup xs => dats xs
  | .lst xs => dats xs
  | .scr _ => false
  | .dct _ => false
  | .dtt _ => false
  | .dpr _ _ => false
  | .adr _ => false
  | .loc _ => false
  | .ty _ => false
  | .tux _ => false
def dats : List D → Bool
  | [] => true
  | d :: ds => dat d && dats ds
end
theorem pyDs_map : ∀ ds : List D, pyDs ds = ds.map pyD
  | [] => rfl
  | d :: ds => by
    show pyD d :: pyDs ds = _
    rw [pyDs_map ds]
    rfl
section
variable {K : PySem.W.Frag} {T : Tb} {H : Hp}
mutual
theorem Rep.dp : ∀ {v : V} {d : D}, Rep K T H v d → dat d = true → Dp K H v (pyD d)
  | _, _, .non, _ => .non
  | _, _, .bl b, _ => .bl b
  | _, _, .int i, _ => .int i
  | _, _, .str x, _ => .str x
  | _, _, .tup h n r, c => .tup (SqT.of h) (RepL.dp r c)
  | _, _, .lst h n r, c => .lst (SqL.of h) (RepL.dp r c)
  | _, _, .scr h, c => by cases c
  | _, _, .dct h n e r, c => by cases c
  | _, _, .dtt h n e r, c => by cases c
  | _, _, .adr _, c => by cases c
  | _, _, .dpr _ _ _ _ _, c => by cases c
  | _, _, .loc h, c => by cases c
  | _, _, .ty h, c => by cases c
  | _, _, .tux _ _ _ _, c => by cases c
theorem RepL.dp : ∀ {vs : List V} {ds : List D}, RepL K T H vs ds → dats ds = true → DpAll K H vs (pyDs ds)
  | _, _, .nil, _ => .nil
  | _, _, @RepL.cons _ _ _ v vs d ds h r, c => by
    have c : (dat d && dats ds) = true := c
    rw [Bool.and_eq_true] at c
    exact .cons (Rep.dp h c.1) (RepL.dp r c.2)
end
end
def okD (d : D) : Bool := dat d && SeqAt.shaped (pyD d)
def eqvD (a b : D) : Bool := PyData.eqv (pyD a) (pyD b)
def now (d : D) (S : Store) : D := match d with
  | .loc n => match S[n]? with
    | some (.lst xs) => .lst xs
    | _ => .loc n
  | d => d
def eqO (a b : D) : Option Bool := match a, b with
  | .int i, .int j => some (decide (i = j))
  | .str x, .str y => some (decide (x = y))
  | .bl x, .bl y => some (decide (x = y))
  | a, b => if okD a = true ∧ okD b = true then some (eqvD a b) else none
def eqD (a b : D) (S : Store) : Option D := (eqO (now a S) (now b S)).map .bl
def neD (a b : D) (S : Store) : Option D := (eqO (now a S) (now b S)).map fun k => .bl (!k)
section
variable {X : Cx} {K : PySem.W.Frag} {mg : Str → Option Value}
def rEqA (K : PySem.W.Frag) : R2 := fun x y H Q => rEq x y H Q ∨ rEqD K x y H Q
def rNeA (K : PySem.W.Frag) : R2 := fun x y H Q => rNe x y H Q ∨ rNeD K x y H Q
theorem op_eqA (hu : X.A.units + 64 < cLine) : OpR X (compareOp .Eq) (rEqA X.K) := op_eq.or (op_eqD hu)
theorem op_neA (hu : X.A.units + 64 < cLine) : OpR X (compareOp .NotEq) (rNeA X.K) := op_ne.or (op_neD hu)
theorem now_dp {T : Tb} {S : Store} {H : Hp} {v : V} {d : D} (sim : Sim K mg T S H) (h : Rep K T H v d) (c : dat (now d S) = true) : Dp K H v (pyD (now d S)) := by
  cases d with
  | loc n =>
    simp only [now] at c ⊢
    split at c
    · rename_i xs e
      cases h with
      | loc hn =>
        obtain ⟨ys, q1, q2⟩ := sim.obj _ _ _ hn e
        exact .lst (SqL.of q1) (q2.dp c)
    · cases c
  | _ => exact h.dp c
theorem now_int {T : Tb} {S : Store} {H : Hp} {v : V} {d : D} {i : Int} (h : Rep K T H v d) (e : now d S = .int i) : v = .int i := by
  cases d with
  | loc n =>
    simp only [now] at e
    split at e <;> cases e
  | int j => cases e; exact h.int_of
  | _ => cases e
theorem now_str {T : Tb} {S : Store} {H : Hp} {v : V} {d : D} {i : Str} (h : Rep K T H v d) (e : now d S = .str i) : v = .str i := by
  cases d with
  | loc n =>
    simp only [now] at e
    split at e <;> cases e
  | str j => cases e; exact h.str_of
  | _ => cases e
theorem now_bl {T : Tb} {S : Store} {H : Hp} {v : V} {d : D} {i : Bool} (h : Rep K T H v d) (e : now d S = .bl i) : v = .bl i := by
  cases d with
  | loc n =>
    simp only [now] at e
    split at e <;> cases e
  | bl j => cases e; exact h.bl_of
  | _ => cases e
theorem eqO_cases {T : Tb} {S : Store} {H : Hp} {x y : V} {a b : D} {k : Bool} (sim : Sim K mg T S H) (rx : Rep K T H x a) (ry : Rep K T H y b) (e : eqO (now a S) (now b S) = some k) :
    (scal x y = true ∧ k = decide (x = y)) ∨ (∃ d1 d2, Dp K H x d1 ∧ Dp K H y d2 ∧ SeqAt.shaped d1 = true ∧ SeqAt.shaped d2 = true ∧ k = PyData.eqv d1 d2) := by
  unfold eqO at e
  split at e
  · rename_i i j e1 e2
    cases e
    rw [now_int rx e1, now_int ry e2]
    exact .inl ⟨rfl, by rw [dec_int, Bool.beq_eq_decide_eq]⟩
  · rename_i i j e1 e2
    cases e
    rw [now_str rx e1, now_str ry e2]
    exact .inl ⟨rfl, by rw [dec_str, Bool.beq_eq_decide_eq]⟩
  · rename_i i j e1 e2
    cases e
    rw [now_bl rx e1, now_bl ry e2]
    exact .inl ⟨rfl, by rw [dec_bl, Bool.beq_eq_decide_eq]⟩
  · split at e
    · rename_i h
      cases e
      have h1 := h.1
      have h2 := h.2
      unfold okD at h1 h2
      rw [Bool.and_eq_true] at h1 h2
      exact .inr ⟨_, _, now_dp sim rx h1.1, now_dp sim ry h2.1, h1.2, h2.2, rfl⟩
    · cases e
theorem pok_eq : POk2 K mg (rEqA K) eqD := fun T S H x y a b d Q sim rx ry e k => by
  unfold eqD at e
  cases q : eqO (now a S) (now b S) with
  | none => rw [q] at e; cases e
  | some t =>
    rw [q] at e
    cases e
    have kk := k H (.bl t) (Step.refl T H) sim (.bl t)
    rcases eqO_cases sim rx ry q with ⟨h1, h2⟩ | ⟨d1, d2, h1, h2, h3, h4, h5⟩
    · exact .inl ⟨h1, by rw [← h2]; exact kk⟩
    · exact .inr ⟨d1, d2, h1, h2, h3, h4, by rw [← h5]; exact kk⟩
theorem pok_ne : POk2 K mg (rNeA K) neD := fun T S H x y a b d Q sim rx ry e k => by
  unfold neD at e
  cases q : eqO (now a S) (now b S) with
  | none => rw [q] at e; cases e
  | some t =>
    rw [q] at e
    cases e
    have kk := k H (.bl (!t)) (Step.refl T H) sim (.bl (!t))
    rcases eqO_cases sim rx ry q with ⟨h1, h2⟩ | ⟨d1, d2, h1, h2, h3, h4, h5⟩
    · exact .inl ⟨h1, by rw [← h2]; exact kk⟩
    · exact .inr ⟨d1, d2, h1, h2, h3, h4, by rw [← h5]; exact kk⟩
end
def isND (a b : D) (_ : Store) : Option D := match a, b with
  | .non, .non => some (.bl true)
  | _, .non => some (.bl false)
  | _, _ => none
def notND (a b : D) (_ : Store) : Option D := match a, b with
  | .non, .non => some (.bl false)
  | _, .non => some (.bl true)
  | _, _ => none
def inO (a b : D) : Option Bool := match b with
  | .lst xs => if okD a = true ∧ okD (.lst xs) = true then some (xs.any fun z => eqvD z a) else none
  | _ => none
def inD (a b : D) (S : Store) : Option D := (inO (now a S) (now b S)).map .bl
def ninD (a b : D) (S : Store) : Option D := (inO (now a S) (now b S)).map fun k => .bl (!k)
section
variable {X : Cx} {K : PySem.W.Frag} {mg : Str → Option Value}
theorem pok_isN : POk2 K mg (fun x y H Q => y = .non ∧ Q (.bl (decide (x = .non))) H) isND := fun T S H x y a b d Q sim rx ry e k => by
  cases ry <;> cases rx <;> cases e <;> exact ⟨rfl, k H _ (Step.refl T H) sim (.bl _)⟩
theorem pok_notN : POk2 K mg (fun x y H Q => y = .non ∧ Q (.bl (!decide (x = .non))) H) notND := fun T S H x y a b d Q sim rx ry e k => by
  cases ry <;> cases rx <;> cases e <;> exact ⟨rfl, k H _ (Step.refl T H) sim (.bl _)⟩
theorem inO_cases {T : Tb} {S : Store} {H : Hp} {x y : V} {a b : D} {k : Bool} (sim : Sim K mg T S H) (rx : Rep K T H x a) (ry : Rep K T H y b) (e : inO (now a S) (now b S) = some k) :
    ∃ d ds, Dp K H x d ∧ Dp K H y (.list ds) ∧ SeqAt.shaped d = true ∧ SeqAt.shaped (.list ds) = true ∧ k = ds.any fun z => PyData.eqv z d := by
  unfold inO at e
  split at e
  · rename_i xs e2
    split at e
    · rename_i h
      cases e
      have h1 := h.1
      have h2 := h.2
      rw [← e2] at h2
      unfold okD at h1 h2
      rw [Bool.and_eq_true] at h1 h2
      have q := now_dp sim ry h2.1
      have q2 := h2.2
      rw [e2] at q q2
      refine ⟨_, _, now_dp sim rx h1.1, q, h1.2, q2, ?_⟩
      rw [pyDs_map, List.any_map]
      rfl
    · cases e
  · cases e
theorem pok_in : POk2 K mg (rInD K) inD := fun T S H x y a b d Q sim rx ry e k => by
  unfold inD at e
  cases q : inO (now a S) (now b S) with
  | none => rw [q] at e; cases e
  | some t =>
    rw [q] at e
    cases e
    obtain ⟨d, ds, h1, h2, h3, h4, h5⟩ := inO_cases sim rx ry q
    exact ⟨d, ds, h1, h2, h3, h4, by rw [← h5]; exact k H _ (Step.refl T H) sim (.bl _)⟩
theorem pok_nin : POk2 K mg (rNotInD K) ninD := fun T S H x y a b d Q sim rx ry e k => by
  unfold ninD at e
  cases q : inO (now a S) (now b S) with
  | none => rw [q] at e; cases e
  | some t =>
    rw [q] at e
    cases e
    obtain ⟨d, ds, h1, h2, h3, h4, h5⟩ := inO_cases sim rx ry q
    exact ⟨d, ds, h1, h2, h3, h4, by rw [← h5]; exact k H _ (Step.refl T H) sim (.bl _)⟩
end
end Dv
namespace Dv
open PySem L2
def lenD (ds : List D) (S : Store) : Option D := match ds with
  | [.lst xs] => some (.int xs.length)
  | [.tup xs] => some (.int xs.length)
  | [.scr xs] => some (.int xs.length)
  | [.str x] => if x.length ≤ 100000 then some (.int x.length) else none
  | [.loc n] => match S[n]? with
    | some (.lst xs) => some (.int xs.length)
    | _ => none
  | _ => none
def absD (ds : List D) (_ : Store) : Option D := match ds with
  | [.int i] => some (.int (if i < 0 then -i else i))
  | _ => none
def intD (ds : List D) (_ : Store) : Option D := match ds with
  | [.int i] => some (.int i)
  | [.bl b] => some (.int (if b = true then 1 else 0))
  | _ => none
def intsOf : List D → Option (List Int)
  | [] => some []
  | .int i :: ds => (intsOf ds).map (i :: ·)
  | _ :: _ => none
def blsOf : List D → Option (List Bool)
  | [] => some []
  | .bl i :: ds => (blsOf ds).map (i :: ·)
  | _ :: _ => none
theorem intsOf_map : ∀ ns : List Int, intsOf (ns.map D.int) = some ns
  | [] => rfl
  | n :: ns => by
    show (intsOf (ns.map D.int)).map (n :: ·) = _
    rw [intsOf_map ns]
    rfl
theorem intsOf_some : ∀ {ds : List D} {ns : List Int}, intsOf ds = some ns → ds = ns.map D.int
  | [], _, e => by cases e; rfl
  | d :: ds, ns, e => by
    cases d <;> try cases e
    simp only [intsOf] at e
    cases q : intsOf ds with
    | none => rw [q] at e; cases e
    | some ms =>
      rw [q] at e
      cases e
      rw [intsOf_some q]
      rfl
theorem blsOf_map : ∀ ns : List Bool, blsOf (ns.map D.bl) = some ns
  | [] => rfl
  | n :: ns => by
    show (blsOf (ns.map D.bl)).map (n :: ·) = _
    rw [blsOf_map ns]
    rfl
theorem blsOf_some : ∀ {ds : List D} {ns : List Bool}, blsOf ds = some ns → ds = ns.map D.bl
  | [], _, e => by cases e; rfl
  | d :: ds, ns, e => by
    cases d <;> try cases e
    simp only [blsOf] at e
    cases q : blsOf ds with
    | none => rw [q] at e; cases e
    | some ms =>
      rw [q] at e
      cases e
      rw [blsOf_some q]
      rfl
def maxI : List Int → Option Int
  | [] => none
  | [x] => some x
  | x :: xs => (maxI xs).map fun m => if m < x then x else m
theorem maxI_ok : ∀ {ns : List Int} {m : Int}, maxI ns = some m → m ∈ ns ∧ ∀ y ∈ ns, y ≤ m
  | [], _, e => by cases e
  | [x], m, e => by
    cases e
    exact ⟨List.mem_singleton.mpr rfl, fun y hy => by rw [List.mem_singleton.mp hy]; exact Int.le_refl _⟩
  | x :: y :: xs, m, e => by
    simp only [maxI] at e
    cases q : maxI (y :: xs) with
    | none => rw [show (maxI (y :: xs)) = none from q] at e; cases e
    | some k =>
      have e : (maxI (y :: xs)).map (fun m => if m < x then x else m) = some m := e
      rw [q] at e
      obtain ⟨h1, h2⟩ := maxI_ok q
      cases e
      show (if k < x then x else k) ∈ x :: y :: xs ∧ ∀ z ∈ x :: y :: xs, z ≤ (if k < x then x else k)
      by_cases hk : k < x
      · rw [if_pos hk]
        exact ⟨List.mem_cons_self, fun z hz => (List.mem_cons.mp hz).elim (fun e => by rw [e]; exact Int.le_refl _) fun hz => Int.le_trans (h2 z hz) (Int.le_of_lt hk)⟩
      · rw [if_neg hk]
        exact ⟨List.mem_cons_of_mem _ h1, fun z hz => (List.mem_cons.mp hz).elim (fun e => by rw [e]; omega) fun hz => h2 z hz⟩
def maxD (ds : List D) (_ : Store) : Option D := match ds with
  | [.lst xs] => ((intsOf xs).bind maxI).map .int
  | _ => none
def allD (ds : List D) (_ : Store) : Option D := match ds with
  | [.lst xs] => (blsOf xs).map fun ns => .bl (ns.all id)
  | _ => none
def anyD (ds : List D) (_ : Store) : Option D := match ds with
  | [.lst xs] => (blsOf xs).map fun ns => .bl (ns.any id)
  | _ => none
def tupD (ds : List D) (S : Store) : Option D := match ds with
  | [.lst xs] => some (.tup xs)
  | [.tup xs] => some (.tup xs)
  | [.loc n] => match S[n]? with
    | some (.lst xs) => some (.tup xs)
    | _ => none
  | _ => none
def lstD (ds : List D) (S : Store) : Option D := match ds with
  | [.lst xs] => some (.lst xs)
  | [.tup xs] => some (.lst xs)
  | [.loc n] => match S[n]? with
    | some (.lst xs) => some (.lst xs)
    | _ => none
  | _ => none
section
variable {X : Cx} {K : PySem.W.Frag} {mg : Str → Option Value}
theorem RepL.one {T : Tb} {H : Hp} {vs : List V} {d : D} (h : RepL K T H vs [d]) : ∃ v, vs = [v] ∧ Rep K T H v d := by
  cases h with
  | cons r q =>
    cases q
    exact ⟨_, rfl, r⟩
theorem pok_len : POk K mg (fun xs H Q => ∃ x n, xs = [x] ∧ LenV K x H n ∧ Q (.int n) H) lenD := fun T S H vs ds d Q sim rep e k => by
  unfold lenD at e
  split at e
  · rename_i xs
    cases e
    obtain ⟨v, rfl, r⟩ := rep.one
    cases r with
    | lst h n q => exact ⟨_, _, rfl, .inl ⟨_, SqL.of h, q.length.symm⟩, k H _ (Step.refl T H) sim (.int _)⟩
  · rename_i xs
    cases e
    obtain ⟨v, rfl, r⟩ := rep.one
    cases r with
    | tup h n q => exact ⟨_, _, rfl, .inr ⟨_, SqT.of h, q.length.symm⟩, k H _ (Step.refl T H) sim (.int _)⟩
  · rename_i xs
    cases e
    obtain ⟨v, rfl, r⟩ := rep.one
    cases r with
    | scr h => exact ⟨_, _, rfl, .inl ⟨_, h.sq, (List.length_map ..).symm⟩, k H _ (Step.refl T H) sim (.int _)⟩
  · rename_i x
    obtain ⟨v, rfl, r⟩ := rep.one
    split at e
    · rename_i hz
      cases e
      cases r
      exact ⟨_, _, rfl, ⟨sz5 hz, rfl⟩, k H _ (Step.refl T H) sim (.int _)⟩
    · cases e
  · rename_i n
    obtain ⟨v, rfl, r⟩ := rep.one
    split at e
    · rename_i xs q
      cases e
      cases r with
      | loc hn =>
        obtain ⟨ys, q1, q2⟩ := sim.obj _ _ _ hn q
        exact ⟨_, _, rfl, .inl ⟨_, SqL.of q1, q2.length.symm⟩, k H _ (Step.refl T H) sim (.int _)⟩
    · cases e
  · cases e
theorem pok_abs : POk K mg (fun xs H Q => ∃ i, xs = [.int i] ∧ Q (.int (if i < 0 then -i else i)) H) absD := fun T S H vs ds d Q sim rep e k => by
  unfold absD at e
  split at e
  · cases e
    obtain ⟨v, rfl, r⟩ := rep.one
    exact ⟨_, by rw [r.int_of], k H _ (Step.refl T H) sim (.int _)⟩
  · cases e
theorem pok_int : POk K mg (fun xs H Q => (∃ i, xs = [.int i] ∧ Q (.int i) H) ∨ ∃ k, xs = [.bl k] ∧ Q (.int (if k then 1 else 0)) H) intD := fun T S H vs ds d Q sim rep e k => by
  unfold intD at e
  split at e
  · cases e
    obtain ⟨v, rfl, r⟩ := rep.one
    exact .inl ⟨_, by rw [r.int_of], k H _ (Step.refl T H) sim (.int _)⟩
  · cases e
    obtain ⟨v, rfl, r⟩ := rep.one
    exact .inr ⟨_, by rw [r.bl_of], k H _ (Step.refl T H) sim (.int _)⟩
  · cases e
theorem pok_max : POk K mg (rMax K) maxD := fun T S H vs ds d Q sim rep e k => by
  unfold maxD at e
  split at e
  · rename_i xs
    obtain ⟨v, rfl, r⟩ := rep.one
    cases q : intsOf xs with
    | none => rw [q] at e; cases e
    | some ns =>
      rw [q] at e
      have e : (maxI ns).map D.int = some d := e
      cases q2 : maxI ns with
      | none => rw [q2] at e; cases e
      | some m =>
        rw [q2] at e
        cases e
        have e3 := intsOf_some q
        subst e3
        obtain ⟨h1, h2⟩ := maxI_ok q2
        cases r with
        | lst h n r =>
          rw [r.of_ints] at h
          refine ⟨_, ns, rfl, SqL.of h, List.length_pos_of_mem h1, fun m' h3 h4 => ?_⟩
          have e5 : m' = m := Int.le_antisymm (h2 m' h3) (h4 m h1)
          subst e5
          exact k H _ (Step.refl T H) sim (.int _)
  · cases e
theorem pok_all : POk K mg (rAll K) allD := fun T S H vs ds d Q sim rep e k => by
  unfold allD at e
  split at e
  · rename_i xs
    obtain ⟨v, rfl, r⟩ := rep.one
    cases q : blsOf xs with
    | none => rw [q] at e; cases e
    | some ns =>
      rw [q] at e
      cases e
      have e3 := blsOf_some q
      subst e3
      cases r with
      | lst h n r =>
        rw [r.of_bls] at h
        exact ⟨_, ns, rfl, SqL.of h, k H _ (Step.refl T H) sim (.bl _)⟩
  · cases e
theorem pok_any : POk K mg (rAny K) anyD := fun T S H vs ds d Q sim rep e k => by
  unfold anyD at e
  split at e
  · rename_i xs
    obtain ⟨v, rfl, r⟩ := rep.one
    cases q : blsOf xs with
    | none => rw [q] at e; cases e
    | some ns =>
      rw [q] at e
      cases e
      have e3 := blsOf_some q
      subst e3
      cases r with
      | lst h n r =>
        rw [r.of_bls] at h
        exact ⟨_, ns, rfl, SqL.of h, k H _ (Step.refl T H) sim (.bl _)⟩
  · cases e
theorem pok_tup : POk K mg (fun xs H Q => ∃ p ys, xs = [.ref p] ∧ ((SqL K H p ys ∧ ∀ l, H l = none → Q (.ref l) (upd H l (.tup ys))) ∨ (SqT K H p ys ∧ Q (.ref p) H))) tupD := fun T S H vs ds d Q sim rep e k => by
  have mk : ∀ {a : Addr} {xs : List V} {es : List D}, H a = some (.lst xs) → RepL K T H xs es → d = .tup es → ∃ p ys, [V.ref a] = [.ref p] ∧ ((SqL K H p ys ∧ ∀ l, H l = none → Q (.ref l) (upd H l (.tup ys))) ∨ (SqT K H p ys ∧ Q (.ref p) H)) := fun {a xs es} h r ed => by
    subst ed
    refine ⟨a, xs, rfl, .inl ⟨SqL.of h, fun p hp => ?_⟩⟩
    have st := sim.stepNew (o := .tup xs) hp
    exact k _ _ st (sim.new hp (hlen_tup sim.hl (sim.hl _ _ (.inl (.inl h))))) (.tup upd_same (sim.off hp) (r.step st))
  unfold tupD at e
  split at e
  · cases e
    obtain ⟨v, rfl, r⟩ := rep.one
    cases r with
    | lst h n r => exact mk h r rfl
  · cases e
    obtain ⟨v, rfl, r⟩ := rep.one
    cases r with
    | tup h n r => exact ⟨_, _, rfl, .inr ⟨SqT.of h, k H _ (Step.refl T H) sim (.tup h n r)⟩⟩
  · obtain ⟨v, rfl, r⟩ := rep.one
    split at e
    · rename_i xs q
      cases e
      cases r with
      | loc hn =>
        obtain ⟨ys, q1, q2⟩ := sim.obj _ _ _ hn q
        exact mk q1 q2 rfl
    · cases e
  · cases e
theorem pok_lst : POk K mg (fun xs H Q => ∃ p ys, xs = [.ref p] ∧ (SqL K H p ys ∨ SqT K H p ys) ∧ ∀ l, H l = none → Q (.ref l) (upd H l (.lst ys))) lstD := fun T S H vs ds d Q sim rep e k => by
  have mk : ∀ {xs : List V} {es : List D}, xs.length ≤ sizeLine → RepL K T H xs es → d = .lst es → ∀ l, H l = none → Q (.ref l) (upd H l (.lst xs)) := fun {xs es} hz r ed p hp => by
    subst ed
    have st := sim.stepNew (o := .lst xs) hp
    exact k _ _ st (sim.new hp (hlen_lst sim.hl hz)) (.lst upd_same (sim.off hp) (r.step st))
  unfold lstD at e
  split at e
  · cases e
    obtain ⟨v, rfl, r⟩ := rep.one
    cases r with
    | lst h n r => exact ⟨_, _, rfl, .inl (SqL.of h), mk (sim.hl _ _ (.inl (.inl h))) r rfl⟩
  · cases e
    obtain ⟨v, rfl, r⟩ := rep.one
    cases r with
    | tup h n r => exact ⟨_, _, rfl, .inr (SqT.of h), mk (sim.hl _ _ (.inr (.inl h))) r rfl⟩
  · obtain ⟨v, rfl, r⟩ := rep.one
    split at e
    · rename_i xs q
      cases e
      cases r with
      | loc hn =>
        obtain ⟨ys, q1, q2⟩ := sim.obj _ _ _ hn q
        exact ⟨_, _, rfl, .inl (SqL.of q1), mk (sim.hl _ _ (.inl (.inl q1))) q2 rfl⟩
    · cases e
  · cases e
end
def tyN (d : D) : Option String := match d with
  | .non => some "NoneType"
  | .bl _ => some "bool"
  | .int _ => some "int"
  | .str _ => some "str"
  | .tup _ => some "tuple"
  | .lst _ => some "list"
  | _ => none
def isiD (ds : List D) (_ : Store) : Option D := match ds with
  | [d, .ty n] => ((tyN d).bind fun t => kitB t n).map .bl
  | _ => none
section
variable {X : Cx} {K : PySem.W.Frag} {mg : Str → Option Value} {Wx : WX}
theorem Rep.tyx {T : Tb} {H : Hp} {v : V} {d : D} {t : String} (h : Rep K T H v d) (e : tyN d = some t) : TyX K H v (.type t) := by
  cases h <;> cases e
  · exact .base .non
  · exact .base (.bl _)
  · exact .base (.int _)
  · exact .base (.str _)
  · rename_i h n r
    exact .base (.tup h)
  · rename_i h n r
    exact .base (.lst h)
theorem pok_isi : POk K mg (rIsi K) isiD := fun T S H vs ds d Q sim rep e k => by
  unfold isiD at e
  split at e
  · rename_i x n
    cases rep with
    | cons r1 q =>
      cases q with
      | cons r2 q =>
        cases q
        cases q1 : tyN x with
        | none => rw [q1] at e; cases e
        | some t =>
          rw [q1] at e
          have e : (kitB t n).map D.bl = some d := e
          cases q2 : kitB t n with
          | none => rw [q2] at e; cases e
          | some b =>
            rw [q2] at e
            cases e
            cases r2
            exact ⟨_, _, _, _, b, rfl, .ty n, r1.tyx q1, kit_ty q2, k H _ (Step.refl T H) sim (.bl _)⟩
  · cases e
theorem j_ty {x : Str} {n : String} {pos : Pos} (hg : Gl X x) (hm : X.mg x = none) (hv : bootBuiltins x = some (.type n)) (hn : x ≠ "__name__" := by decide) (hd : (x == ("__debug__" : Str)) = false := by decide) : PE X (.Name x pos) (tD X.K X.mg Wx (mC (.ty n))) :=
  j_c (pe_bltn (v := .ty n) hg hm hv rfl hn hd) fun _ _ => .ty n
end
def ixD (a b : D) (S : Store) : Option D := match a, b with
  | .lst xs, .int i => atI xs i
  | .tup xs, .int i => atI xs i
  | .scr ns, .int i => (atI ns i).map .int
  | .str x, .int i => if x.length ≤ 100000 then (atI x.cps.toList i).map chD else none
  | .loc n, .int i => match S[n]? with
    | some (.lst xs) => atI xs i
    | _ => none
  | _, _ => none
section
variable {X : Cx} {K : PySem.W.Frag} {mg : Str → Option Value} {Wx : WX}
theorem atI_rep {T : Tb} {H : Hp} {vs : List V} {ds : List D} {i : Int} {d : D} (h : RepL K T H vs ds) (e : atI ds i = some d) : ∃ v, atI vs i = some v ∧ Rep K T H v d := by
  unfold atI at e ⊢
  rw [h.length]
  cases q : ixN ds.length i with
  | none => rw [q] at e; cases e
  | some j =>
    rw [q] at e
    exact h.get e
theorem atI_map {α β : Type} (f : α → β) (xs : List α) (i : Int) : atI (xs.map f) i = (atI xs i).map f := by
  unfold atI
  rw [List.length_map]
  cases ixN xs.length i with
  | none => rfl
  | some j => exact List.getElem?_map
theorem pok_ix : POk2 K mg (rIx K) ixD := fun T S H x y a b d Q sim rx ry e k => by
  cases ry <;> try (cases a <;> cases e)
  rename_i i
  cases rx <;> try cases e
  · rename_i x
    simp only [ixD] at e
    split at e
    · rename_i hz
      cases q : atI x.cps.toList i with
      | none => rw [q] at e; cases e
      | some c =>
        rw [q] at e
        cases e
        exact .inr (.inr ⟨x, i, c, rfl, rfl, sz5 hz, q, k H _ (Step.refl T H) sim (.str _)⟩)
    · cases e
  · rename_i a xs ds h n r
    obtain ⟨v, h1, h2⟩ := atI_rep r e
    exact .inr (.inl ⟨a, xs, i, v, rfl, rfl, SqT.of h, h1, k H _ (Step.refl T H) sim h2⟩)
  · rename_i a xs ds h n r
    obtain ⟨v, h1, h2⟩ := atI_rep r e
    exact .inl ⟨a, xs, i, v, rfl, rfl, SqL.of h, h1, k H _ (Step.refl T H) sim h2⟩
  · rename_i a ns h
    simp only [ixD] at e
    cases q : atI ns i with
    | none => rw [q] at e; cases e
    | some c =>
      rw [q] at e
      cases e
      exact .inl ⟨a, _, i, .int c, rfl, rfl, h.sq, by rw [atI_map, q]; rfl, k H _ (Step.refl T H) sim (.int _)⟩
  · rename_i a n hn
    simp only [ixD] at e
    split at e
    · rename_i xs q
      obtain ⟨ys, q1, q2⟩ := sim.obj _ _ _ hn q
      obtain ⟨v, h1, h2⟩ := atI_rep q2 e
      exact .inl ⟨a, ys, i, v, rfl, rfl, SqL.of q1, h1, k H _ (Step.refl T H) sim h2⟩
    · cases e
end
abbrev OM := Env → Store → R (Option Int)
def mNoP : OM := fun _ S => .ok none S
def mP (m : EM) : OM := fun r S => (m r S).bind fun d S1 => match d with
  | .int i => .ok (some i) S1
  | _ => .bad
def cutL {α : Type} (xs : List α) (lo hi : Option Int) : List α := (xs.drop (HT.sIx xs.length 0 lo)).take (HT.sIx xs.length xs.length hi - HT.sIx xs.length 0 lo)
def slD (d : D) (lo hi : Option Int) (S : Store) : Option D := match d with
  | .lst xs => some (.lst (cutL xs lo hi))
  | .tup xs => some (.tup (cutL xs lo hi))
  | .loc n => match S[n]? with
    | some (.lst xs) => some (.lst (cutL xs lo hi))
    | _ => none
  | _ => none
def mSl (m : EM) (ml mh : OM) : EM := fun r S => (m r S).bind fun d S1 => (ml r S1).bind fun lo S2 => (mh r S2).bind fun hi S3 => ofO (slD d lo hi S3) S3
def tDO (K : PySem.W.Frag) (mg : Str → Option Value) (Wx : WX) (m : OM) : TO := fun g H Q => ∃ T r S, RepSt K T H r g ∧ Sim K mg T S H ∧ Out K mg Wx (fun _ _ v d => v = d) T g H (m r S) Q
section
variable {X : Cx} {K : PySem.W.Frag} {mg : Str → Option Value} {Wx : WX} {e : Expr} {m : EM} {ml mh : OM} {pos p2 : Pos} {lo hi : Option Expr}
theorem po_imp {e : Option Expr} {t t' : TO} (h : PO X e t) (i : ∀ g H Q, t' g H Q → t g H Q) : PO X e t' := ⟨fun pins s g H Q I w => h.run pins s g H Q I (i g H Q w)⟩
theorem jo_none : PO X none (tDO X.K X.mg Wx mNoP) := po_imp po_none fun g H Q h => by
  obtain ⟨T, r, S, rs, sim, h⟩ := h
  exact h T H none (Step.refl T H) sim rfl
theorem jo_some (h : PE X e (tD X.K X.mg Wx m)) : PO X (some e) (tDO X.K X.mg Wx (mP m)) := po_imp (po_some h) fun g H Q h => by
  obtain ⟨T, r, S, rs, sim, h⟩ := h
  refine ⟨T, r, S, rs, sim, Out.bind h fun d S1 T1 H1 v st sim1 rel h1 => ?_⟩
  cases d with
  | int i =>
    rw [rel.int_of]
    exact ⟨i, rfl, h1 T1 H1 _ (Step.refl T1 H1) sim1 rfl⟩
  | _ => exact h1.elim
theorem cut_rep {T : Tb} {H : Hp} {vs : List V} {ds : List D} (lo hi : Option Int) (h : RepL K T H vs ds) : RepL K T H (cutV vs lo hi) (cutL ds lo hi) := by
  unfold cutV cutL
  rw [h.length]
  exact (h.drop _).take _
theorem cut_whole {α : Type} {xs : List α} {lo hi : Option Int} (h : HT.sIx xs.length 0 lo = 0 ∧ HT.sIx xs.length xs.length hi = xs.length) : cutL xs lo hi = xs := by
  unfold cutL
  rw [h.1, h.2, Nat.sub_zero, List.drop_zero, List.take_length]
def rSlB (K : PySem.W.Frag) : V → Option Int → Option Int → Hp → VK → Prop := fun x lo hi H Q => rSlL K x lo hi H Q ∨ rSlA K x lo hi H Q
theorem sl_B : SlR X (rSlB X.K) := sl_list.or sl_tupA
theorem sl_ok {T : Tb} {S : Store} {H : Hp} {v : V} {d d' : D} {lo hi : Option Int} {Q : VK} (sim : Sim K mg T S H) (h : Rep K T H v d) (e : slD d lo hi S = some d') (k : ∀ H' v, Step T H T H' → Sim K mg T S H' → Rep K T H' v d' → Q v H') : rSlB K v lo hi H Q := by
  have mk : ∀ {a : Addr} {xs : List V} {es : List D}, H a = some (.lst xs) → RepL K T H xs es → d' = .lst (cutL es lo hi) → rSlB K (.ref a) lo hi H Q := fun {a xs es} h r ed => by
    subst ed
    refine .inl ⟨a, xs, rfl, SqL.of h, fun p hp => ?_⟩
    have st := sim.stepNew (o := .lst (cutV xs lo hi)) hp
    exact k _ _ st (sim.new hp (hlen_lst sim.hl (Nat.le_trans (cutV_length _ _ _) (sim.hl _ _ (.inl (.inl h)))))) (.lst upd_same (sim.off hp) ((cut_rep lo hi r).step st))
  cases h <;> try cases e
  · rename_i a xs ds h n r
    refine .inr ⟨a, xs, rfl, SqT.of h, fun q => ?_, fun q p hp => ?_⟩
    · refine k H _ (Step.refl T H) sim ?_
      rw [r.length] at q
      rw [cut_whole q]
      exact .tup h n r
    · have st := sim.stepNew (o := .tup (cutV xs lo hi)) hp
      exact k _ _ st (sim.new hp (hlen_tup sim.hl (Nat.le_trans (cutV_length _ _ _) (sim.hl _ _ (.inr (.inl h)))))) (.tup upd_same (sim.off hp) ((cut_rep lo hi r).step st))
  · rename_i a xs ds h n r
    exact mk h r rfl
  · rename_i a n hn
    simp only [slD] at e
    split at e
    · rename_i xs q
      cases e
      obtain ⟨ys, q1, q2⟩ := sim.obj _ _ _ hn q
      exact mk q1 q2 rfl
    · cases e
theorem j_slice (he : PE X e (tD X.K X.mg Wx m)) (hl : PO X lo (tDO X.K X.mg Wx ml)) (hu : PO X hi (tDO X.K X.mg Wx mh)) : PE X (.Subscript e (.Slice lo hi none p2) pos) (tD X.K X.mg Wx (mSl m ml mh)) :=
  pe_imp (pe_slice sl_B he hl hu) fun g H Q h => by
    obtain ⟨T, r, S, rs, sim, h⟩ := h
    refine ⟨T, r, S, rs, sim, Out.bind h fun d S1 T1 H1 v st sim1 rel h1 => ?_⟩
    refine ⟨T1, r, S1, rs.step st, sim1, Out.bind h1 fun l S2 T2 H2 lv st2 sim2 rel2 h2 => ?_⟩
    subst rel2
    refine ⟨T2, r, S2, (rs.step st).step st2, sim2, Out.bind h2 fun u S3 T3 H3 uv st3 sim3 rel3 h3 => ?_⟩
    subst rel3
    exact Out.use h3 fun d' e k => sl_ok sim3 (rel.step (st2.trans st3)) e fun H' v' s' => k T3 H' v' s'
end
def isLoc (o : D) (S : Store) : Bool := match o with
  | .loc n => match S[n]? with
    | some (.lst _) => true
    | _ => false
  | _ => false
def appD (o d : D) (S : Store) : R D := match o with
  | .loc n => match S[n]? with
    | some (.lst xs) => if xs.length < 100000 then .ok .non (S.set n (.lst (xs ++ [d]))) else .bad
    | _ => .bad
  | _ => .bad
def mAppend (mo m : EM) : EM := fun r S => (mo r S).bind fun o S1 => if isLoc o S1 = true then (m r S1).bind fun d S2 => appD o d S2 else .bad
def putD (o i d : D) (r : Env) (S : Store) : Z := match o, i with
  | .loc n, .int k => match S[n]? with
    | some (.lst xs) => match ixN xs.length k with
      | some j => .ok .next r (S.set n (.lst (xs.set j d)))
      | none => .bad
    | _ => .bad
  | _, _ => .bad
def sSetIx (mo mi m : EM) : SM := fun r S => bindS (m r S) r fun d S1 => bindS (mo r S1) r fun o S2 => bindS (mi r S2) r fun i S3 => putD o i d r S3
section
variable {X : Cx} {Wx : WX} {o e i : Expr} {mo mi m : EM} {pos apos tpos : Pos} {K : PySem.W.Frag} {mg : Str → Option Value}
theorem loc_of {T : Tb} {S : Store} {H : Hp} {v : V} {n : Nat} {o : O} (sim : Sim K mg T S H) (h : Rep K T H v (.loc n)) (e : S[n]? = some o) : ∃ a, v = .ref a ∧ T.loc[n]? = some a ∧ ORep K mg T H a o := by
  cases h with
  | loc hn => exact ⟨_, rfl, hn, sim.obj _ _ _ hn e⟩
theorem lst_set {T : Tb} {S : Store} {H : Hp} {a : Addr} {n : Nat} {xs : List V} {ds : List D} (sim : Sim K mg T S H) (hn : T.loc[n]? = some a) (hz : xs.length ≤ sizeLine) (r : RepL K T H xs ds) :
    Step T H T (upd H a (.lst xs)) ∧ Sim K mg T (S.set n (.lst ds)) (upd H a (.lst xs)) := by
  have st := sim.stepSet (u := .lst xs) (List.mem_of_getElem? hn)
  exact ⟨st, sim.set hn (hlen_lst sim.hl hz) ⟨xs, upd_same, r.step st⟩⟩
theorem isLoc_ty {T : Tb} {S : Store} {H : Hp} {v : V} {d : D} (sim : Sim K mg T S H) (h : Rep K T H v d) (e : isLoc d S = true) : tyV K "list" v H := by
  unfold isLoc at e
  split at e
  · rename_i n
    split at e
    · rename_i xs q
      obtain ⟨a, rfl, hn, ys, q1, q2⟩ := loc_of sim h q
      exact .inl ⟨rfl, ys, SqL.of q1⟩
    · cases e
  · cases e
theorem j_append (ho : PE X o (tD X.K X.mg Wx mo)) (ha : PE X e (tD X.K X.mg Wx m)) (hbase : attributeBase o "append" X.env (eval o X.env) = eval o X.env := by rfl)
    (hfew : ((backTo pos (starEach [e] X.env)).all (fun x => !x.1) && (backToKw pos (keywordEach [] X.env)).all (fun x => x.1.isSome) && decide (([e] : List Expr).length + ([] : List Keyword).length + (if ([] : List Keyword).isEmpty then 0 else 1) < 30)) = true := by rfl)
    (hline : (apos.endLine == pos.line) = true := by rfl) (hs : starEach [e] X.env = (false, eval e X.env) :: starEach [] X.env := by rfl) (hplain : (backTo pos (starEach [] X.env)).any (·.1) = false := by rfl) :
    PE X (.Call (.Attribute o "append" apos) [e] [] pos) (tD X.K X.mg Wx (mAppend mo m)) :=
  pe_imp (pe_bm PySem.F.plainAttrs_list PySem.F.slot_list_append PySem.F.type_list_append mt_append ho (pa_cons ha pa_nil hs) hbase hfew hline hs hplain) fun g H Q h => by
    obtain ⟨T, r, S, rs, sim, h⟩ := h
    refine ⟨T, r, S, rs, sim, Out.bind h fun d S1 T1 H1 v st sim1 rel h1 => ?_⟩
    split at h1
    · rename_i hl
      refine ⟨isLoc_ty sim1 rel hl, T1, r, S1, rs.step st, sim1, Out.bind h1 fun y S2 T2 H2 w st2 sim2 rel2 h2 => ?_⟩
      unfold appD at h2
      split at h2
      · rename_i n
        split at h2
        · rename_i xs q
          split at h2
          · rename_i hz
            obtain ⟨a, rfl, hn, ys, q1, q2⟩ := loc_of sim2 (rel.step st2) q
            have hl' : ys.length < sizeLine := by rw [q2.length]; exact Nat.lt_of_lt_of_le hz (by decide)
            obtain ⟨st3, sim3⟩ := lst_set (xs := ys ++ [w]) (ds := xs ++ [y]) sim2 hn (by rw [List.length_append, List.length_singleton]; omega) (RepL.append q2 (.cons rel2 .nil))
            exact ⟨a, ys, w, rfl, rfl, q1, hl', h2 T2 _ _ st3 sim3 .non⟩
          · exact h2.elim
        · exact h2.elim
      · exact h2.elim
    · exact h1.elim
theorem putD_ok {T : Tb} {S : Store} {H : Hp} {r : Env} {E : Ends} {g : St} {ov iv v : V} {o i d : D} (sim : Sim K mg T S H) (rs : RepSt K T H r g) (h1 : Rep K T H ov o) (h2 : Rep K T H iv i) (h3 : Rep K T H v d) (h : ZOut K mg Wx T H (putD o i d r S) E) :
    rSetL ov iv v H fun H4 => E.nx g H4 := by
  unfold putD at h
  split at h
  · rename_i n k
    split at h
    · rename_i xs q
      split at h
      · rename_i j ej
        obtain ⟨a, rfl, hn, ys, q1, q2⟩ := loc_of sim h1 q
        obtain ⟨st3, sim3⟩ := lst_set sim hn (by rw [List.length_set]; exact sim.hl a ys (.inl (.inl q1))) (q2.set h3 j)
        exact ⟨a, ys, k, j, rfl, h2.int_of, q1, by rw [q2.length]; exact ej, h T _ g st3 sim3 (rs.step st3)⟩
      · exact h.elim
    · exact h.elim
  · exact h.elim
theorem js_setIx {hv : Expr} {mv : EM} (he : PE X hv (tD X.K X.mg Wx mv)) (ho : PE X o (tD X.K X.mg Wx mo)) (hi : PE X i (tD X.K X.mg Wx mi))
    (ha : ∀ v, assign (.Subscript o i tpos) X.env v = (do
      let ov ← holding [v] (eval o X.env)
      let iv ← holding [v, ov] (eval i X.env)
      standAt tpos
      holding [v, ov, iv] (setItem ov iv v)
      release [v, ov, iv] []) := by intro _; rfl)
    (hs : swapsWithSole [.Subscript o i tpos] hv pos.line X.env = pure false := by rfl) (hw : swappedStores [.Subscript o i tpos] hv X.env = pure none := by rfl)
    (h1 : (assignEach [.Subscript o i tpos] X.env).map (·.2) = [assign (.Subscript o i tpos) X.env] := by rfl) : PS X (.Assign [.Subscript o i tpos] hv pos) (tDS X.K X.mg Wx (sSetIx mo mi mv)) :=
  ps_imp (ps_asg he (pg_sub ho hi set_list ha) hs hw h1) fun E g H h => by
    obtain ⟨T, r, S, rs, sim, h⟩ := h
    refine ⟨T, r, S, rs, sim, ZOut.bind h rs fun d S1 T1 H1 v st sim1 rel rs1 h1 => ?_⟩
    refine ⟨T1, r, S1, rs1, sim1, ZOut.bind h1 rs1 fun ov S2 T2 H2 x st2 sim2 rel2 rs2 h2 => ?_⟩
    refine ⟨T2, r, S2, rs2, sim2, ZOut.bind h2 rs2 fun iv S3 T3 H3 y st3 sim3 rel3 rs3 h3 => ?_⟩
    exact putD_ok sim3 rs3 (rel2.step st3) rel3 (rel.step (st2.trans st3)) h3
end
end Dv
namespace Dv
open PySem L2
section
variable {K : PySem.W.Frag} {mg : Str → Option Value} {T : Tb} {H : Hp}
end
section
variable {X : Cx} {Wx : WX} {o e : Expr} {c f : Str} {C : Addr} {mo m : EM} {pos pos' tpos : Pos}
end
section
variable {X : Cx} {Wx : WX} {o e : Expr} {es : List Expr} {c mth : Str} {C f : Addr} {mo : EM} {ms : AM} {pos apos p : Pos} {k n : Nat} {fd : FuncData} {ps : List Str} {Fn : List D → Store → R D} {x : Str}
end
end Dv
set_option maxHeartbeats 1000000
namespace Dv
open PySem L2
section
variable {α : Type}
def insL (lt : α → α → Bool) (x : α) : List α → List α
  | [] => [x]
  | y :: ys => if lt y x = true then y :: insL lt x ys else x :: y :: ys
def sortL (lt : α → α → Bool) : List α → List α
  | [] => []
  | x :: xs => insL lt x (sortL lt xs)
variable {lt : α → α → Bool}
theorem insL_perm (x : α) : ∀ l : List α, (insL lt x l).Perm (x :: l)
  | [] => List.Perm.refl _
  | y :: ys => by
    unfold insL
    split
    · exact ((insL_perm x ys).cons y).trans (List.Perm.swap x y ys)
    · exact List.Perm.refl _
theorem sortL_perm : ∀ l : List α, (sortL lt l).Perm l
  | [] => List.Perm.refl _
  | x :: xs => (insL_perm x _).trans ((sortL_perm xs).cons x)
theorem insL_srtd (O : SrtO.Swo lt) (x : α) : ∀ {l : List α}, SrtO.Srtd lt l → SrtO.Srtd lt (insL lt x l)
  | [], _ => List.pairwise_singleton _ _
  | y :: ys, h => by
    unfold insL
    split
    · rename_i hy
      refine List.pairwise_cons.mpr ⟨fun z hz => ?_, insL_srtd O x (List.pairwise_cons.mp h).2⟩
      rcases List.mem_cons.mp ((insL_perm x ys).mem_iff.mp hz) with e | e
      · rw [e]
        exact O.asym _ _ hy
      · exact (List.pairwise_cons.mp h).1 z e
    · rename_i hy
      refine List.pairwise_cons.mpr ⟨fun z hz => ?_, h⟩
      have hy : lt y x = false := by simpa using hy
      rcases List.mem_cons.mp hz with e | e
      · rw [e]
        exact hy
      · exact O.tr x y z hy ((List.pairwise_cons.mp h).1 z e)
theorem sortL_srtd (O : SrtO.Swo lt) : ∀ l : List α, SrtO.Srtd lt (sortL lt l)
  | [] => List.Pairwise.nil
  | x :: xs => insL_srtd O x (sortL_srtd O xs)
end
def ltI (a b : Int) : Bool := decide (a < b)
theorem ltI_swo : SrtO.Swo ltI := ⟨fun x y h => decide_eq_false (by have := of_decide_eq_true h; omega), fun x y z h1 h2 => decide_eq_false (by have := of_decide_eq_false h1; have := of_decide_eq_false h2; omega)⟩
abbrev ltR : List Int → List Int → Bool := HT.lexLt
section
variable {prog : Program} {w : World} {A : Around} {s : Shared} {Q : Bool → Shared → Prop}
end
section
variable {X : Cx} {K : PySem.W.Frag} {mg : Str → Option Value}
end
theorem room65 {k : Nat} {A : Around} (r : Room k A) : A.units + 65 < cLine := by
  have := r.un
  omega
end Dv
namespace Dv
open PySem L2
theorem hlen_of {P : Program} {w : World} {H : Hp} {h : Heap} (x : HOk P w H h) : HLen H := fun a xs q => by
  rcases q with q | q
  · obtain ⟨z, _⟩ := q.ok x
    exact z
  · obtain ⟨z, _⟩ := q.ok x
    exact z
def spLaw (K : PySem.W.Frag) : Sp := fun vs H Q _ => ∃ (a : Addr) (ns : List Int), vs = [.ref a] ∧ SqL K H a (ns.map V.int) ∧ ns.length ≤ 63 ∧ ∀ H', Q (.bl true) H'
theorem law_fn {P : Program} {w : World} {K : PySem.W.Frag} {mg : Str → Option Value} {base : Heap} {CX : CXT} {k : Nat} {f : Addr} {fd : FuncData} {F : Nat → List D → Store → R D} (h : ∀ fu, FnOk P w K mg base CX k f fd ["script"] (spD K mg 1 (F fu)))
    (ht : ∀ ns : List Int, ns.length ≤ 63 → ∃ fu S, F fu [.scr ns] [] = .ok (.bl true) S) : FnOk P w K mg base CX k f fd ["script"] (spLaw K) := by
  refine ⟨fun vs H Q E q => ?_, fun A outer s H args us vs Q E hr he hb hv hs => ?_⟩
  · obtain ⟨a, ns, rfl, _⟩ := q
    rfl
  · obtain ⟨a, ns, rfl, hq, hl, q⟩ := hs
    obtain ⟨fu, S', e⟩ := ht ns hl
    refine (h fu).run A outer s H args us _ Q E hr he hb hv ⟨rfl, ⟨[], []⟩, [], [.scr ns], .cons (.scr ?_) .nil, ⟨rfl, List.nodup_nil, fun i a o h1 => ?_, fun a h1 => ?_, hlen_of he.hok⟩, ?_⟩
    · rcases hq with hq | hq
      · exact .inl ⟨hq, (by intro z; cases z), (by intro z; cases z)⟩
      · exact .inr (.inr hq)
    · cases h1
    · cases h1
    · rw [e]
      intro T' H' v _ _ r
      rw [r.bl_of]
      exact q H'
theorem sp_start {K : PySem.W.Frag} {H : Hp} {a : Addr} {ns : List Int} (hl : ns.length ≤ 63) (hS : SqL K H a (ns.map V.int)) : spLaw K [.ref a] H (fun v _ => v = .bl true) fun _ _ _ => False := ⟨a, ns, rfl, hS, hl, fun _ => rfl⟩
theorem no_exc {P : Program} {w : World} {l : List PySem.Env} {H : Hp} {s : Shared} {e : Value} {s' : Shared} (h : L2.CX P w l H s (fun _ _ _ => False) e s') : False := by
  obtain ⟨_, _, _, _, _, _, _, _, _, _, _, _, z⟩ := h
  exact z
end Dv
namespace Dv
open PySem L2
section
variable {r : Env} {S : Store} {ma mb mc m mo mi : EM} {ms : AM} {ta tb : BM} {sa sb : SM}
@[simp] theorem rb_ok {α β : Type} (a : α) (S : Store) (f : α → Store → R β) : (R.ok a S).bind f = f a S := rfl
@[simp] theorem rb_exc {α β : Type} (n : Str) (S : Store) (f : α → Store → R β) : (R.exc n S : R α).bind f = .exc n S := rfl
@[simp] theorem rb_bad {α β : Type} (f : α → Store → R β) : (R.bad : R α).bind f = .bad := rfl
@[simp] theorem ofO_some {α : Type} (a : α) : ofO (some a) S = .ok a S := rfl
@[simp] theorem ofO_none {α : Type} : ofO (none : Option α) S = .bad := rfl
@[simp] theorem mVar_ap (i : Nat) : mVar i r S = (match r[i]? with | some (some d) => .ok d S | _ => .bad) := rfl
@[simp] theorem mC_ap (d : D) : mC d r S = .ok d S := rfl
@[simp] theorem mNil_ap : mNil r S = .ok [] S := rfl
@[simp] theorem mCons_ap : mCons m ms r S = (m r S).bind fun d S1 => (ms r S1).bind fun ds S2 => .ok (d :: ds) S2 := rfl
@[simp] theorem mTup_ap : mTup ms r S = (ms r S).bind fun ds S1 => if ds.length ≤ 100000 then .ok (.tup ds) S1 else .bad := rfl
@[simp] theorem mLst_ap : mLst ms r S = (ms r S).bind fun ds S1 => if ds.length ≤ 100000 then .ok (.lst ds) S1 else .bad := rfl
@[simp] theorem mNewL_ap : mNewL ms r S = (ms r S).bind fun ds S1 => if ds.length ≤ 100000 then .ok (.loc S1.length) (S1 ++ [.lst ds]) else .bad := rfl
@[simp] theorem mBin_ap (f : D → D → Store → Option D) : mBin f ma mb r S = (ma r S).bind fun a S1 => (mb r S1).bind fun b S2 => ofO (f a b S2) S2 := rfl
@[simp] theorem mUn_ap (f : D → Store → Option D) : mUn f ma r S = (ma r S).bind fun a S1 => ofO (f a S1) S1 := rfl
@[simp] theorem mCall_ap (f : List D → Store → Option D) : mCall f ms r S = (ms r S).bind fun ds S1 => ofO (f ds S1) S1 := rfl
@[simp] theorem mT_ap : mT m r S = (m r S).bind fun d S1 => ofO (asB d) S1 := rfl
@[simp] theorem asB_bl (b : Bool) : asB (.bl b) = some b := rfl
@[simp] theorem mTru_ap : mTru m r S = (m r S).bind fun d S1 => ofO (truD d S1) S1 := rfl
@[simp] theorem mNotT_ap : mNotT ta r S = (ta r S).bind fun b S1 => .ok (!b) S1 := rfl
@[simp] theorem mAndT_ap : mAndT ta tb r S = (ta r S).bind fun b S1 => if b = true then tb r S1 else .ok false S1 := rfl
@[simp] theorem mOrT_ap : mOrT ta tb r S = (ta r S).bind fun b S1 => if b = true then .ok true S1 else tb r S1 := rfl
@[simp] theorem mAnd_ap : mAnd ma mb r S = (ma r S).bind fun d S1 => match d with
  | .bl true => mb r S1
  | .bl false => .ok (.bl false) S1
  | _ => .bad := rfl
@[simp] theorem mOr_ap : mOr ma mb r S = (ma r S).bind fun d S1 => match d with
  | .bl true => .ok (.bl true) S1
  | .bl false => mb r S1
  | _ => .bad := rfl
@[simp] theorem mNot_ap : mNot ma r S = (ma r S).bind fun d S1 => match d with
  | .bl b => .ok (.bl (!b)) S1
  | _ => .bad := rfl
@[simp] theorem mIf_ap : mIf ta ma mb r S = (ta r S).bind fun b S1 => if b = true then ma r S1 else mb r S1 := rfl
@[simp] theorem mChain_ap (f f' : D → D → Store → Option D) : mChain f f' ma mb mc r S = (ma r S).bind fun a S1 => (mb r S1).bind fun b S2 => (ofO (f a b S2) S2).bind fun d S3 => match d with
  | .bl true => (mc r S3).bind fun c S4 => ofO (f' b c S4) S4
  | .bl false => .ok (.bl false) S3
  | _ => .bad := rfl
@[simp] theorem bs_ok {α : Type} (a : α) (f : α → Store → Z) : bindS (.ok a S) r f = f a S := rfl
@[simp] theorem bs_exc {α : Type} (n : Str) (f : α → Store → Z) : bindS (.exc n S : R α) r f = .exc n r S := rfl
@[simp] theorem bs_bad {α : Type} (f : α → Store → Z) : bindS (.bad : R α) r f = .bad := rfl
@[simp] theorem sNil_ap : sNil r S = .ok .next r S := rfl
@[simp] theorem sSeq_ap : sSeq sa sb r S = (match sa r S with | .ok .next r1 S1 => sb r1 S1 | z => z) := rfl
@[simp] theorem sSet_ap (i : Nat) : sSet i m r S = bindS (m r S) r fun d S1 => .ok .next (r.set i (some d)) S1 := rfl
@[simp] theorem sDrop_ap : sDrop m r S = bindS (m r S) r fun _ S1 => .ok .next r S1 := rfl
@[simp] theorem sRet_ap : sRet m r S = bindS (m r S) r fun d S1 => .ok (.ret d) r S1 := rfl
@[simp] theorem sIf_ap : sIf ta sa sb r S = bindS (ta r S) r fun k S1 => if k = true then sa r S1 else sb r S1 := rfl
@[simp] theorem sBrk_ap : sBrk r S = .ok .brk r S := rfl
@[simp] theorem sAug_ap (i : Nat) (f : Int → Int → Int) : sAug i f m r S = (match r[i]? with
  | some (some (.int a)) => bindS (m r S) r fun d S1 => match d with
    | .int b => .ok .next (r.set i (some (.int (f a b)))) S1
    | _ => .bad
  | _ => .bad) := rfl
@[simp] theorem sPar_ap (i j : Nat) : sPar i j ms r S = bindS (ms r S) r fun ds S1 => match ds with
  | [a, b] => .ok .next ((r.set i (some a)).set j (some b)) S1
  | _ => .bad := rfl
@[simp] theorem tgN_ap (i : Nat) (d : D) : tgN i d r = some (r.set i (some d)) := rfl
@[simp] theorem tgsNil_ap : tgsNil [] r = some r := rfl
@[simp] theorem tgsCons_ap (a : D → Env → Option Env) (b : List D → Env → Option Env) (d : D) (ds : List D) : tgsCons a b (d :: ds) r = (a d r).bind fun r1 => b ds r1 := rfl
@[simp] theorem tgT_ap (n : Nat) (b : List D → Env → Option Env) (ds : List D) : tgT n b (.tup ds) r = if ds.length = n then b ds r else none := rfl
@[simp] theorem sAsg_ap (gm : D → Env → Option Env) : sAsg m gm r S = bindS (m r S) r fun d S1 => match gm d r with
  | some r1 => .ok .next r1 S1
  | none => .bad := rfl
@[simp] theorem sFor_ap (im : IM) (gm : D → Env → Option Env) : sFor im gm sb r S = bindS (im r S) r fun ds S1 => sLoop gm sb ds r S1 := rfl
@[simp] theorem mIter_ap : mIter m r S = (m r S).bind fun d S1 => ofO (seqD d) S1 := rfl
@[simp] theorem mRng1_ap : mRng1 ms r S = (ms r S).bind fun ds S1 => ofO (rng1 ds) S1 := rfl
@[simp] theorem mZip_ap : mZip ms r S = (ms r S).bind fun ds S1 => ofO (zipD ds) S1 := rfl
@[simp] theorem mLc_ap (im : IM) (vs : List Nat) (gm : D → Env → Option Env) (te : EM) : mLc im vs gm ta te r S = (im r S).bind fun ds S1 => (lcL gm ta te (wipeE r vs) ds S1).bind fun ys S2 => .ok (.lst ys) S2 := rfl
@[simp] theorem mYes_ap : mYes r S = .ok true S := rfl
@[simp] theorem nox_ok {α : Type} (a : α) : nox (.ok a S) = .ok a S := rfl
@[simp] theorem mApp_ap (n : Nat) (F : List D → Store → R D) : mApp n F ms r S = (ms r S).bind fun ds S1 => if ds.length = n then F ds S1 else .bad := rfl
@[simp] theorem mNoP_ap : mNoP r S = .ok none S := rfl
@[simp] theorem mP_ap : mP m r S = (m r S).bind fun d S1 => match d with
  | .int i => .ok (some i) S1
  | _ => .bad := rfl
@[simp] theorem mSl_ap (ml mh : OM) : mSl m ml mh r S = (m r S).bind fun d S1 => (ml r S1).bind fun lo S2 => (mh r S2).bind fun hi S3 => ofO (slD d lo hi S3) S3 := rfl
@[simp] theorem mAppend_ap : mAppend mo m r S = (mo r S).bind fun o S1 => if isLoc o S1 = true then (m r S1).bind fun d S2 => appD o d S2 else .bad := rfl
@[simp] theorem isLoc_ap (n : Nat) : isLoc (.loc n) S = (match S[n]? with | some (.lst _) => true | _ => false) := rfl
@[simp] theorem appD_ap (n : Nat) (d : D) : appD (.loc n) d S = (match S[n]? with
    | some (.lst xs) => if xs.length < 100000 then .ok .non (S.set n (.lst (xs ++ [d]))) else .bad
    | _ => .bad) := rfl
@[simp] theorem sSetIx_ap : sSetIx mo mi m r S = bindS (m r S) r fun d S1 => bindS (mo r S1) r fun o S2 => bindS (mi r S2) r fun i S3 => putD o i d r S3 := rfl
@[simp] theorem putD_ap (n : Nat) (k : Int) (d : D) : putD (.loc n) (.int k) d r S = (match S[n]? with
    | some (.lst xs) => match ixN xs.length k with
      | some j => .ok .next r (S.set n (.lst (xs.set j d)))
      | none => .bad
    | _ => .bad) := rfl
@[simp] theorem sLoop_nil (gm : D → Env → Option Env) : sLoop gm sb [] r S = .ok .next r S := rfl
@[simp] theorem subD_int (i j : Int) : subD (.int i) (.int j) S = some (.int (i - j)) := rfl
@[simp] theorem addD_int (i j : Int) : addD (.int i) (.int j) S = some (.int (i + j)) := rfl
@[simp] theorem addD_lst (xs ys : List D) : addD (.lst xs) (.lst ys) S = if xs.length + ys.length ≤ 100000 then some (.lst (xs ++ ys)) else none := rfl
@[simp] theorem addD_tup (xs ys : List D) : addD (.tup xs) (.tup ys) S = if xs.length + ys.length ≤ 100000 then some (.tup (xs ++ ys)) else none := rfl
@[simp] theorem fdivD_int (i j : Int) : fdivD (.int i) (.int j) S = if 0 < j ∧ j < 1073741824 then some (.int (i / j)) else none := rfl
@[simp] theorem modD_int (i j : Int) : modD (.int i) (.int j) S = if 0 < j then some (.int (i % j)) else none := rfl
@[simp] theorem negD_int (i : Int) : negD (.int i) S = some (.int (-i)) := rfl
@[simp] theorem mulD_int (i j : Int) : mulD (.int i) (.int j) S = if (-(2 ^ 64) < i ∧ i < 2 ^ 64) ∨ (-(2 ^ 64) < j ∧ j < 2 ^ 64) then some (.int (i * j)) else none := rfl
@[simp] theorem mulD_lst (xs : List D) (k : Int) : mulD (.lst xs) (.int k) S = if -100000 ≤ k ∧ k ≤ 100000 ∧ xs.length * k.toNat ≤ 100000 then some (.lst (List.replicate k.toNat xs).flatten) else none := rfl
@[simp] theorem ltD_int (i j : Int) : ltD (.int i) (.int j) S = some (.bl (decide (i < j))) := rfl
@[simp] theorem leD_int (i j : Int) : leD (.int i) (.int j) S = some (.bl (decide (i ≤ j))) := rfl
@[simp] theorem gtD_int (i j : Int) : gtD (.int i) (.int j) S = some (.bl (decide (j < i))) := rfl
@[simp] theorem eqD_int (i j : Int) : eqD (.int i) (.int j) S = some (.bl (decide (i = j))) := rfl
@[simp] theorem neD_int (i j : Int) : neD (.int i) (.int j) S = some (.bl (!decide (i = j))) := rfl
@[simp] theorem lenD_lst (xs : List D) : lenD [.lst xs] S = some (.int xs.length) := rfl
@[simp] theorem lenD_tup (xs : List D) : lenD [.tup xs] S = some (.int xs.length) := rfl
@[simp] theorem lenD_scr (xs : List Int) : lenD [.scr xs] S = some (.int xs.length) := rfl
@[simp] theorem lenD_loc (n : Nat) : lenD [.loc n] S = (match S[n]? with
    | some (.lst xs) => some (.int xs.length)
    | _ => none) := rfl
@[simp] theorem absD_int (i : Int) : absD [.int i] S = some (.int (if i < 0 then -i else i)) := rfl
@[simp] theorem intD_bl (b : Bool) : intD [.bl b] S = some (.int (if b = true then 1 else 0)) := rfl
@[simp] theorem tupD_lst (xs : List D) : tupD [.lst xs] S = some (.tup xs) := rfl
@[simp] theorem tupD_loc (n : Nat) : tupD [.loc n] S = (match S[n]? with
    | some (.lst xs) => some (.tup xs)
    | _ => none) := rfl
@[simp] theorem maxD_ints (ns : List Int) : maxD [.lst (ns.map D.int)] S = (maxI ns).map D.int := by
  show ((intsOf (ns.map D.int)).bind maxI).map D.int = _
  rw [intsOf_map]
  rfl
@[simp] theorem allD_bls (bs : List Bool) : allD [.lst (bs.map D.bl)] S = some (.bl (bs.all id)) := by
  show (blsOf (bs.map D.bl)).map _ = _
  rw [blsOf_map]
  rfl
@[simp] theorem truD_bl (b : Bool) : truD (.bl b) S = some b := rfl
@[simp] theorem truD_int (i : Int) : truD (.int i) S = some (i != 0) := rfl
@[simp] theorem truD_tup (xs : List D) : truD (.tup xs) S = some (!xs.isEmpty) := rfl
@[simp] theorem truD_lst (xs : List D) : truD (.lst xs) S = some (!xs.isEmpty) := rfl
@[simp] theorem truD_scr (xs : List Int) : truD (.scr xs) S = some (!xs.isEmpty) := rfl
@[simp] theorem truD_loc (n : Nat) : truD (.loc n) S = (match S[n]? with
    | some (.lst xs) => some (!xs.isEmpty)
    | _ => none) := rfl
@[simp] theorem ixD_lst (xs : List D) (i : Int) : ixD (.lst xs) (.int i) S = atI xs i := rfl
@[simp] theorem ixD_tup (xs : List D) (i : Int) : ixD (.tup xs) (.int i) S = atI xs i := rfl
@[simp] theorem ixD_scr (xs : List Int) (i : Int) : ixD (.scr xs) (.int i) S = (atI xs i).map .int := rfl
@[simp] theorem ixD_loc (n : Nat) (i : Int) : ixD (.loc n) (.int i) S = (match S[n]? with
    | some (.lst xs) => atI xs i
    | _ => none) := rfl
@[simp] theorem seqD_lst (xs : List D) : seqD (.lst xs) = some xs := rfl
@[simp] theorem seqD_tup (xs : List D) : seqD (.tup xs) = some xs := rfl
@[simp] theorem seqD_scr (xs : List Int) : seqD (.scr xs) = some (xs.map D.int) := rfl
@[simp] theorem rng1_int (j : Int) : rng1 [.int j] = if -100000 ≤ j ∧ j ≤ 100000 then some (rng 0 j.toNat) else none := rfl
@[simp] theorem slD_lst (xs : List D) (lo hi : Option Int) : slD (.lst xs) lo hi S = some (.lst (cutL xs lo hi)) := rfl
@[simp] theorem slD_tup (xs : List D) (lo hi : Option Int) : slD (.tup xs) lo hi S = some (.tup (cutL xs lo hi)) := rfl
@[simp] theorem wipeE_nil : wipeE r [] = r := rfl
@[simp] theorem wipeE_cons (v : Nat) (vs : List Nat) : wipeE r (v :: vs) = (wipeE r vs).set v none := rfl
@[simp] theorem isND_non : isND .non .non S = some (.bl true) := rfl
end
theorem atI_zero {α : Type} (x : α) (xs : List α) : atI (x :: xs) 0 = some x := atI_nat (j := 0) rfl
theorem ixN_nat {n j : Nat} (h : j < n) : ixN n (j : Int) = some j := by
  unfold ixN
  rw [if_pos (by omega), if_pos (by omega)]
  simp
theorem ixN_zero {n : Nat} (h : 0 < n) : ixN n 0 = some 0 := ixN_nat (j := 0) h
end Dv
namespace Dv
open PySem L2
def mDraw2 : SM :=
    (sSeq (sDrop (mAppend (mVar 1) (mC (.int 0))))
    (sSeq (sSet 3 (mCall lenD (mCons (mVar 1) mNil)))
    (sSeq (sSet 4 (mIf (mTru (mVar 0)) (mBin ixD (mVar 0) (mBin modD (mVar 3) (mCall lenD (mCons (mVar 0) mNil)))) (mC (.int 0))))
    (sSeq (sSet 5 (mBin modD (mBin ixD (mVar 1) (mC (.int 0))) (mC (.int 65536))))
    (sSeq (sSetIx (mVar 1) (mC (.int 0)) (mBin fdivD (mBin ixD (mVar 1) (mC (.int 0))) (mC (.int 65536))))
    (sSeq (sSet 6 (mBin modD (mBin addD (mBin addD (mVar 4) (mBin mulD (mC (.int 40503)) (mVar 5))) (mBin mulD (mC (.int 104729)) (mVar 3))) (mC (.int 4294967291))))
    (sSeq (sSet 6 (mBin modD (mBin mulD (mBin modD (mBin mulD (mVar 6) (mVar 6)) (mC (.int 4294967279))) (mC (.int 48271))) (mC (.int 4294967291))))
    (sSeq (sSet 7 (mBin modD (mBin mulD (mBin modD (mBin mulD (mVar 6) (mVar 6)) (mC (.int 4294967279))) (mC (.int 69621))) (mC (.int 4294967291))))
    (sRet (mBin modD (mBin addD (mBin mulD (mBin fdivD (mVar 6) (mC (.int 64))) (mC (.int 67108864))) (mBin fdivD (mVar 7) (mC (.int 64)))) (mVar 2)))))))))))
def mDraw : SM :=
    (sSeq (sIf (mNotT (mTru (mVar 1))) (sDrop (mAppend (mVar 1) (mCall maxD (mCons (mBin addD (mLc (mIter (mVar 0)) [4] (tgN 4) mYes (mCall absD (mCons (mVar 4) mNil))) (mLst (mCons (mC (.int 0)) mNil))) mNil)))) sNil)
    mDraw2)
def FDraw : List D → Store → R D := runT 8 mDraw
def absI (i : Int) : Int := if i < 0 then -i else i
theorem lc_abs (r0 : Env) (h4 : 4 < r0.length) (S : Store) : ∀ ns : List Int, lcL (tgN 4) mYes (mCall absD (mCons (mVar 4) mNil)) r0 (ns.map D.int) S = .ok ((ns.map absI).map D.int) S
  | [] => rfl
  | n :: ns => by
    have e : (r0.set 4 (some (D.int n)))[4]? = some (some (D.int n)) := List.getElem?_set_self h4
    rw [List.map_cons, lcL]
    simp [lc_abs r0 h4 S ns, absI, h4]
theorem maxI_cons : ∀ (x : Int) (xs : List Int), ∃ m, maxI (x :: xs) = some m
  | x, [] => ⟨x, rfl⟩
  | x, y :: ys => by
    obtain ⟨m, e⟩ := maxI_cons y ys
    show ∃ m, (maxI (y :: ys)).map (fun m => if m < x then x else m) = some m
    rw [e]
    exact ⟨_, rfl⟩
theorem maxI_app : ∀ (xs : List Int) (x : Int), ∃ m, maxI (xs ++ [x]) = some m
  | [], x => ⟨x, rfl⟩
  | y :: ys, x => maxI_cons y (ys ++ [x])
theorem atI_mod {α : Type} (x : α) (xs : List α) (k : Int) : ∃ y, atI (x :: xs) (k % ((xs.length : Int) + 1)) = some y := by
  have h1 : 0 ≤ k % ((xs.length : Int) + 1) := Int.emod_nonneg _ (by omega)
  have h2 : k % ((xs.length : Int) + 1) < xs.length + 1 := Int.emod_lt_of_pos _ (by omega)
  obtain ⟨j, ej⟩ : ∃ j : Nat, k % ((xs.length : Int) + 1) = j := ⟨_, (Int.toNat_of_nonneg h1).symm⟩
  rw [ej] at h2 ⊢
  have h3 : j < (x :: xs).length := by rw [List.length_cons]; omega
  exact ⟨(x :: xs)[j], atI_nat (List.getElem?_eq_getElem h3)⟩
theorem gs {S : Store} {t : Nat} {o : O} (h : S[t]? = some o) (o' : O) : (List.set S t o')[t]? = some o' := List.getElem?_set_self (List.getElem?_eq_some_iff.mp h).1
theorem draw_tail (ns ts : List Int) (t0 many : Int) (S : Store) (t : Nat) (hS : S[t]? = some (.lst ((t0 :: ts).map D.int))) (hl : ts.length < 99990) (hm : 0 < many) (y4 : Option D) : ∃ (r : Int) (ts' : List Int) (rho : Env), 0 ≤ r ∧ r < many ∧ ts'.length = ts.length + 2 ∧
    mDraw2 [some (.scr ns), some (.loc t), some (.int many), none, y4, none, none, none] S =
      .ok (.ret (.int r)) rho (S.set t (.lst (ts'.map D.int))) := by
  have ht : t < S.length := (List.getElem?_eq_some_iff.mp hS).1
  obtain ⟨c, hc⟩ : ∃ c, ∀ S' : Store, (mIf (mTru (mVar 0)) (mBin ixD (mVar 0) (mBin modD (mVar 3) (mCall lenD (mCons (mVar 0) mNil)))) (mC (.int 0))) [some (.scr ns), some (.loc t), some (.int many), some (.int ((ts.length : Int) + 1 + 1)), y4, none, none, none] S' = .ok (.int c) S' := by
    cases ns with
    | nil => exact ⟨0, fun _ => rfl⟩
    | cons n ns =>
      obtain ⟨x, ex⟩ := atI_mod n ns ((ts.length : Int) + 1 + 1)
      refine ⟨x, fun S' => ?_⟩
      have hp : (0 : Int) < (ns.length : Int) + 1 := by omega
      simp [hp, ex]
  have hlt : ts.length + 1 < 100000 := by omega
  have e1 : atI (D.int t0 :: (List.map D.int ts ++ [D.int 0])) 0 = some (D.int t0) := atI_zero _ _
  have e2 : ixN (ts.length + 1 + 1) 0 = some 0 := ixN_zero (by omega)
  have sm : ∀ a : Int, (-18446744073709551616 < a % 4294967291 ∧ a % 4294967291 < 18446744073709551616) := fun a => by omega
  have h : ∃ (a : Int) (rho : Env), mDraw2 [some (.scr ns), some (.loc t), some (.int many), none, y4, none, none, none] S = .ok (.ret (.int (a % many))) rho (S.set t (.lst (((t0 / 65536) :: (ts ++ [0])).map D.int))) := by
    unfold mDraw2
    simp [hS, gs hS, hlt, hc, e1, e2, sm, hm, -mIf_ap]
    exact ⟨_, rfl⟩
  obtain ⟨a, rho, e⟩ := h
  exact ⟨a % many, _, rho, Int.emod_nonneg _ (by omega), Int.emod_lt_of_pos _ hm, by simp, e⟩
theorem start_draw (ns : List Int) (t : Nat) (many : Int) : frame 8 [.scr ns, .loc t, .int many] = [some (.scr ns), some (.loc t), some (.int many), none, none, none, none, none] := rfl
section
variable {S S1 : Store} {rho : Env} {d d' : D}
open Classical in
theorem finT_ret (tr : Tr S S1) (e : fzD S.length S1 d = some d') : finT S (.ok (.ret d) rho S1) = .ok d' (S1.take S.length) := by
  have e' : fzE S.length S1 d = some d' := by unfold fzE; rw [e]
  simp only [finT, if_pos tr, e']
open Classical in
theorem finT_retE (tr : Tr S S1) (e : fzE S.length S1 d = some d') : finT S (.ok (.ret d) rho S1) = .ok d' (S1.take S.length) := by
  simp only [finT, if_pos tr, e]
theorem take_app (E : Store) : (S ++ E).take S.length = S := by simp
theorem fz_clo (h : clo S.length d = true) : fzD S.length S1 d = some d := by
  cases d with
  | loc m =>
    have : m < S.length := of_decide_eq_true h
    show (if m < S.length then _ else _) = _
    rw [if_pos this]
  | _ => exact (if_pos h : (if clo S.length _ = true then some _ else none) = some _)
theorem fin_ret0 (h : clo S.length d = true) : finT S (.ok (.ret d) rho S) = .ok d S := by
  have t := Tr.app S []
  rw [List.append_nil] at t
  rw [finT_ret t (fz_clo h), List.take_length]
theorem fin_ret_app (E : Store) (h : fzD S.length (S ++ E) d = some d') : finT S (.ok (.ret d) rho (S ++ E)) = .ok d' S := by
  rw [finT_ret (Tr.app S E) h, take_app]
theorem fin_ret_set (n : Nat) (o : O) (ho : cloO S.length o = true) (h : clo S.length d = true) : finT S (.ok (.ret d) rho (List.set S n o)) = .ok d (List.set S n o) := by
  have t := Tr.set S [] n o ho
  rw [List.append_nil] at t
  rw [finT_ret t (fz_clo h), List.take_of_length_le (by rw [List.length_set]; exact Nat.le_refl _)]
end
theorem draw_ok (ns ts : List Int) (many : Int) (S : Store) (t : Nat) (hS : S[t]? = some (.lst (ts.map D.int))) (h63 : ns.length ≤ 63) (hl : ts.length < 99990) (hm : 0 < many) : ∃ (r : Int) (ts' : List Int), 0 ≤ r ∧ r < many ∧ ts'.length ≤ ts.length + 2 ∧
    FDraw [.scr ns, .loc t, .int many] S = .ok (.int r) (S.set t (.lst (ts'.map D.int))) := by
  have ht : t < S.length := (List.getElem?_eq_some_iff.mp hS).1
  obtain ⟨r, ts', rho, h0, h1, h2, e⟩ : ∃ (r : Int) (ts' : List Int) (rho : Env), 0 ≤ r ∧ r < many ∧ ts'.length ≤ ts.length + 2 ∧ mDraw (frame 8 [.scr ns, .loc t, .int many]) S = .ok (.ret (.int r)) rho (S.set t (.lst (ts'.map D.int))) := by
    rw [start_draw]
    unfold mDraw
    cases ts with
    | nil =>
      obtain ⟨m, em⟩ := maxI_app (ns.map absI) 0
      have hS' : (S.set t (.lst ([m].map D.int)))[t]? = some (.lst ([m].map D.int)) := gs hS _
      obtain ⟨r, ts', rho, h0, h1, h2, e⟩ := draw_tail ns [] m many (S.set t (.lst ([m].map D.int))) t hS' (by simp) hm none
      refine ⟨r, ts', rho, h0, h1, by simp at h2; simp [h2], ?_⟩
      rw [List.set_set] at e
      have hx : ns.length + 1 ≤ 100000 := by omega
      have em' : maxD [D.lst (List.map D.int (List.map absI ns) ++ [D.int 0])] S = some (.int m) := by
        rw [show List.map D.int (List.map absI ns) ++ [D.int 0] = (ns.map absI ++ [0]).map D.int by simp, maxD_ints, em]
        rfl
      rw [← e]
      simp only [List.map_nil] at hS
      have hlc := lc_abs [some (D.scr ns), some (D.loc t), some (D.int many), none, none, none, none, none] (by simp) S ns
      simp [hS, hlc, hx, em', -List.map_map]
    | cons t0 ts =>
      obtain ⟨r, ts', rho, h0, h1, h2, e⟩ := draw_tail ns ts t0 many S t hS (by simp at hl; omega) hm none
      refine ⟨r, ts', rho, h0, h1, by simp [h2], ?_⟩
      rw [← e]
      simp only [List.map_cons] at hS
      simp [hS]
  refine ⟨r, ts', h0, h1, h2, ?_⟩
  show finT S (mDraw (frame 8 _) S) = _
  rw [e]
  exact fin_ret_set t _ (cloL_ints _ _) rfl
end Dv
namespace Dv
open PySem L2
noncomputable instance : DecidableEq D := fun a b => Classical.propDecidable (a = b)
def pl : Nat → D → Bool
  | _, .non => true
  | _, .int _ => true
  | _, .str x => PyData.strOk x
  | k + 1, .tup xs => xs.all (pl k)
  | k + 1, .lst xs => xs.all (pl k)
  | _, _ => false
theorem pl_dat : ∀ (k : Nat) (d : D), pl k d = true → dat d = true ∧ (pyD d).canLay0 = true ∧ (pyD d).depth ≤ k
  | _, .non, _ => ⟨rfl, rfl, Nat.zero_le _⟩
  | _, .int _, _ => ⟨rfl, rfl, Nat.zero_le _⟩
  | _, .str x, h => ⟨rfl, by cases ‹Nat› <;> exact h, Nat.zero_le _⟩
  | 0, .tup _, h => by cases h
  | 0, .lst _, h => by cases h
  | 0, .bl _, h => by cases h
  | _ + 1, .bl _, h => by cases h
  | 0, .scr _, h => by cases h
  | _ + 1, .scr _, h => by cases h
  | 0, .dct _, h => by cases h
  | _ + 1, .dct _, h => by cases h
  | 0, .dtt _, h => by cases h
  | _ + 1, .dtt _, h => by cases h
  | 0, .dpr _ _, h => by cases h
  | _ + 1, .dpr _ _, h => by cases h
  | 0, .adr _, h => by cases h
  | _ + 1, .adr _, h => by cases h
  | 0, .loc _, h => by cases h
  | _ + 1, .loc _, h => by cases h
  | 0, .ty _, h => by cases h
  | _ + 1, .ty _, h => by cases h
  | 0, .tux _, h => by cases h
  | _ + 1, .tux _, h => by cases h
  | k + 1, .tup xs, h => by
    have h : xs.all (pl k) = true := h
    have r : ∀ ys : List D, ys.all (pl k) = true → dats ys = true ∧ PyData.canLayAll0 (pyDs ys) = true ∧ PyData.depthAll (pyDs ys) ≤ k := fun ys => by
      induction ys with
      | nil => exact fun _ => ⟨rfl, rfl, Nat.zero_le _⟩
      | cons y ys ih =>
        intro h
        rw [List.all_cons, Bool.and_eq_true] at h
        obtain ⟨a, b, c⟩ := pl_dat k y h.1
        obtain ⟨a', b', c'⟩ := ih h.2
        refine ⟨by show (dat y && dats ys) = true; rw [a, a']; rfl, by show (PyData.canLay0 (pyD y) && PyData.canLayAll0 (pyDs ys)) = true; rw [b, b']; rfl, ?_⟩
        show max (PyData.depth (pyD y)) (PyData.depthAll (pyDs ys)) ≤ k
        omega
    obtain ⟨a, b, c⟩ := r xs h
    exact ⟨a, b, by show PyData.depthAll (pyDs xs) + 1 ≤ _; omega⟩
  | k + 1, .lst xs, h => by
    have h : xs.all (pl k) = true := h
    have r : ∀ ys : List D, ys.all (pl k) = true → dats ys = true ∧ PyData.canLayAll0 (pyDs ys) = true ∧ PyData.depthAll (pyDs ys) ≤ k := fun ys => by
      induction ys with
      | nil => exact fun _ => ⟨rfl, rfl, Nat.zero_le _⟩
      | cons y ys ih =>
        intro h
        rw [List.all_cons, Bool.and_eq_true] at h
        obtain ⟨a, b, c⟩ := pl_dat k y h.1
        obtain ⟨a', b', c'⟩ := ih h.2
        refine ⟨by show (dat y && dats ys) = true; rw [a, a']; rfl, by show (PyData.canLay0 (pyD y) && PyData.canLayAll0 (pyDs ys)) = true; rw [b, b']; rfl, ?_⟩
        show max (PyData.depth (pyD y)) (PyData.depthAll (pyDs ys)) ≤ k
        omega
    obtain ⟨a, b, c⟩ := r xs h
    exact ⟨a, b, by show PyData.depthAll (pyDs xs) + 1 ≤ _; omega⟩
theorem pl_ok {k : Nat} {d : D} (h : pl k d = true) (hk : k ≤ 64) : okD d = true := by
  obtain ⟨a, b, c⟩ := pl_dat k d h
  unfold okD SeqAt.shaped
  rw [a, b, decide_eq_true (show (pyD d).depth ≤ 64 by omega)]
  rfl
theorem pl_all_eqv (k : Nat) (ih : ∀ a b : D, pl k a = true → pl k b = true → (PyData.eqv (pyD a) (pyD b) = true ↔ a = b)) : ∀ xs ys : List D, xs.all (pl k) = true → ys.all (pl k) = true → (PyData.eqvAll (pyDs xs) (pyDs ys) = true ↔ xs = ys)
  | [], [], _, _ => ⟨fun _ => rfl, fun _ => rfl⟩
  | [], y :: ys, _, _ => ⟨(by intro h; cases h), (by intro h; cases h)⟩
  | x :: xs, [], _, _ => ⟨(by intro h; cases h), (by intro h; cases h)⟩
  | x :: xs, y :: ys, h1, h2 => by
    rw [List.all_cons, Bool.and_eq_true] at h1 h2
    show (PyData.eqv (pyD x) (pyD y) && PyData.eqvAll (pyDs xs) (pyDs ys)) = true ↔ _
    rw [Bool.and_eq_true, ih x y h1.1 h2.1, pl_all_eqv k ih xs ys h1.2 h2.2, List.cons.injEq]
theorem pl_eqv : ∀ (k : Nat) (a b : D), pl k a = true → pl k b = true → (PyData.eqv (pyD a) (pyD b) = true ↔ a = b) := fun k => by
  induction k with
  | zero =>
    intro a b ha hb
    cases a <;> cases b <;> first | (simp [pl] at ha; done) | (simp [pl] at hb; done) | simp [pyD, PyData.eqv]
  | succ k ih =>
    intro a b ha hb
    cases a <;> cases b <;> first | (simp [pl] at ha; done) | (simp [pl] at hb; done) | simp [pyD, PyData.eqv]
    · exact pl_all_eqv k ih _ _ ha hb
    · exact pl_all_eqv k ih _ _ ha hb
theorem pl_eqvD {k : Nat} {a b : D} (ha : pl k a = true) (hb : pl k b = true) : eqvD a b = decide (a = b) := by
  by_cases h : a = b
  · rw [decide_eq_true h]
    exact (pl_eqv k a b ha hb).mpr h
  · rw [decide_eq_false h]
    cases q : eqvD a b with
    | false => rfl
    | true => exact absurd ((pl_eqv k a b ha hb).mp q) h
theorem eqO_pl {k : Nat} {a b : D} (ha : pl k a = true) (hb : pl k b = true) (hk : k ≤ 64) : eqO a b = some (decide (a = b)) := by
  have h : (if okD a = true ∧ okD b = true then some (eqvD a b) else none) = some (decide (a = b)) := by
    rw [if_pos ⟨pl_ok ha hk, pl_ok hb hk⟩, pl_eqvD ha hb]
  unfold eqO
  split
  · congr 1
    simp
  · congr 1
    simp
  · congr 1
    simp
  · exact h
theorem eqD_pl {k : Nat} {a b : D} {S : Store} (ha : pl k (now a S) = true) (hb : pl k (now b S) = true) (hk : k ≤ 64) : eqD a b S = some (.bl (decide (now a S = now b S))) := by
  unfold eqD
  rw [eqO_pl ha hb hk]
  rfl
theorem neD_pl {k : Nat} {a b : D} {S : Store} (ha : pl k (now a S) = true) (hb : pl k (now b S) = true) (hk : k ≤ 64) : neD a b S = some (.bl (!decide (now a S = now b S))) := by
  unfold neD
  rw [eqO_pl ha hb hk]
  rfl
theorem any_pl {k : Nat} {a : D} (ha : pl k a = true) : ∀ xs : List D, xs.all (pl k) = true → (xs.any fun z => eqvD z a) = decide (a ∈ xs)
  | [], _ => by simp
  | x :: xs, h => by
    rw [List.all_cons, Bool.and_eq_true] at h
    rw [List.any_cons, any_pl ha xs h.2, pl_eqvD h.1 ha]
    by_cases e : a = x
    · subst e; simp
    · have : ¬ x = a := fun z => e z.symm
      simp [e, this]
theorem inO_pl {k : Nat} {a : D} {xs : List D} (ha : pl k a = true) (hb : xs.all (pl k) = true) (hk : k + 1 ≤ 64) : inO a (.lst xs) = some (decide (a ∈ xs)) := by
  show (if okD a = true ∧ okD (.lst xs) = true then some (xs.any fun z => eqvD z a) else none) = _
  rw [if_pos ⟨pl_ok ha (by omega), pl_ok (k := k + 1) hb hk⟩, any_pl ha xs hb]
end Dv
namespace Dv
open PySem L2
theorem sLoop_cons (gm : D → Env → Option Env) (b : SM) (d : D) (ds : List D) (r : Env) (S : Store) : sLoop gm b (d :: ds) r S = (match gm d r with
    | none => .bad
    | some r1 => match b r1 S with
      | .ok .next r2 S2 => sLoop gm b ds r2 S2
      | .ok .cont r2 S2 => sLoop gm b ds r2 S2
      | .ok .brk r2 S2 => .ok .next r2 S2
      | .ok (.ret d) r2 S2 => .ok (.ret d) r2 S2
      | .exc x r2 S2 => .exc x r2 S2
      | .bad => .bad) := rfl
theorem loop_inv {gm : D → Env → Option Env} {b : SM} (I : Nat → Env → Store → Prop) : ∀ (ds : List D) (k : Nat) (r : Env) (S : Store),
    (∀ i d r S, ds[i]? = some d → I (k + i) r S → ∃ r1 r2 S2, gm d r = some r1 ∧ (b r1 S = .ok .next r2 S2 ∨ b r1 S = .ok .cont r2 S2) ∧ I (k + i + 1) r2 S2) →
    I k r S → ∃ r' S', sLoop gm b ds r S = .ok .next r' S' ∧ I (k + ds.length) r' S'
  | [], k, r, S, _, h => ⟨r, S, rfl, h⟩
  | d :: ds, k, r, S, st, h => by
    obtain ⟨r1, r2, S2, e1, e2, h2⟩ := st 0 d r S rfl h
    obtain ⟨r', S', e3, h3⟩ := loop_inv I ds (k + 1) r2 S2 (fun i d' r S q h => by
      have := st (i + 1) d' r S q
      rw [show k + (i + 1) = k + 1 + i by omega] at this
      exact this h) h2
    refine ⟨r', S', ?_, by rw [List.length_cons, show k + (ds.length + 1) = k + 1 + ds.length by omega]; exact h3⟩
    rw [sLoop_cons, e1]
    rcases e2 with e2 | e2 <;> simp only [e2] <;> exact e3
theorem lcL_cons (gm : D → Env → Option Env) (tt : BM) (te : EM) (r0 : Env) (d : D) (ds : List D) (S : Store) : lcL gm tt te r0 (d :: ds) S = (match gm d r0 with
    | none => .bad
    | some r1 => (nox (tt r1 S)).bind fun b S1 => if b = true then (nox (te r1 S1)).bind fun y S2 => (lcL gm tt te r0 ds S2).bind fun ys S3 => .ok (y :: ys) S3 else lcL gm tt te r0 ds S1) := rfl
theorem lc_pure {gm : D → Env → Option Env} {tt : BM} {te : EM} {r0 : Env} {S : Store} (p : D → Bool) (f : D → D) : ∀ ds : List D,
    (∀ d ∈ ds, ∃ r1, gm d r0 = some r1 ∧ tt r1 S = .ok (p d) S ∧ (p d = true → te r1 S = .ok (f d) S)) → lcL gm tt te r0 ds S = .ok ((ds.filter p).map f) S
  | [], _ => rfl
  | d :: ds, h => by
    obtain ⟨r1, e1, e2, e3⟩ := h d List.mem_cons_self
    have ih := lc_pure p f ds fun d h' => h d (List.mem_cons_of_mem _ h')
    rw [lcL_cons, e1]
    cases q : p d with
    | false => simp [e2, q, ih]
    | true => simp [e2, q, e3 q, ih]
theorem lc_map {gm : D → Env → Option Env} {te : EM} {r0 : Env} {S : Store} (f : D → D) (ds : List D)
    (h : ∀ d ∈ ds, ∃ r1, gm d r0 = some r1 ∧ te r1 S = .ok (f d) S) : lcL gm mYes te r0 ds S = .ok (ds.map f) S := by
  have := lc_pure (gm := gm) (tt := mYes) (te := te) (r0 := r0) (S := S) (fun _ => true) f ds fun d hd => by
    obtain ⟨r1, a, b⟩ := h d hd
    exact ⟨r1, a, rfl, fun _ => b⟩
  rw [this, List.filter_eq_self.mpr fun _ _ => rfl]
theorem rng_get {lo : Int} {n i : Nat} {d : D} (h : (rng lo n)[i]? = some d) : i < n ∧ d = .int (lo + i) := by
  unfold rng at h
  rw [List.getElem?_map] at h
  by_cases hi : i < n
  · rw [List.getElem?_range hi] at h
    cases h
    exact ⟨hi, rfl⟩
  · rw [List.getElem?_eq_none (by rw [List.length_range]; omega)] at h
    cases h
theorem rng0_get {n i : Nat} {d : D} (h : (rng 0 n)[i]? = some d) : i < n ∧ d = .int i := by
  obtain ⟨a, b⟩ := rng_get h
  exact ⟨a, by rw [b, Int.zero_add]⟩
def Twn (t n : Nat) (S : Store) : Prop := ∃ ts : List Int, ts.length ≤ n ∧ S[t]? = some (.lst (ts.map D.int))
def Dif (t : Nat) (S S' : Store) : Prop := ∃ ts : List Int, S' = List.set S t (.lst (ts.map D.int))
theorem Twn.mono {t n m : Nat} {S : Store} (h : Twn t n S) (hm : n ≤ m) : Twn t m S := by
  obtain ⟨ts, a, b⟩ := h
  exact ⟨ts, by omega, b⟩
theorem Dif.trans {t : Nat} {S S' S'' : Store} (h : Dif t S S') (h' : Dif t S' S'') : Dif t S S'' := by
  obtain ⟨a, rfl⟩ := h
  obtain ⟨b, rfl⟩ := h'
  exact ⟨b, by rw [List.set_set]⟩
theorem Twn.dif {t n : Nat} {S : Store} (h : Twn t n S) : Dif t S S := by
  obtain ⟨ts, _, b⟩ := h
  refine ⟨ts, ?_⟩
  obtain ⟨h1, h2⟩ := List.getElem?_eq_some_iff.mp b
  rw [← h2, List.set_getElem_self]
theorem Dif.len {t : Nat} {S S' : Store} (h : Dif t S S') : S'.length = S.length := by
  obtain ⟨a, rfl⟩ := h
  exact List.length_set
theorem Dif.other {t i : Nat} {S S' : Store} (h : Dif t S S') (hi : i ≠ t) : S'[i]? = S[i]? := by
  obtain ⟨a, rfl⟩ := h
  exact List.getElem?_set_ne (fun e => hi e.symm)
theorem Dif.fin {t : Nat} {S S' : Store} {rho : Env} {d : D} (h : Dif t S S') (hd : clo S.length d = true) : finT S (.ok (.ret d) rho S') = .ok d S' := by
  obtain ⟨a, rfl⟩ := h
  exact fin_ret_set t _ (cloL_ints _ _) hd
theorem draw_tw {ns : List Int} {many : Int} {S : Store} {t n : Nat} (h63 : ns.length ≤ 63) (h : Twn t n S) (hn : n < 99990) (hm : 0 < many) : ∃ (r : Nat) (S' : Store), (r : Int) < many ∧ Twn t (n + 2) S' ∧ Dif t S S' ∧ FDraw [.scr ns, .loc t, .int many] S = .ok (.int r) S' := by
  obtain ⟨ts, h1, h2⟩ := h
  obtain ⟨r, ts', a, b, c, e⟩ := draw_ok ns ts many S t h2 h63 (by omega) hm
  refine ⟨r.toNat, _, ?_, ⟨ts', ?_, ?_⟩, ⟨ts', rfl⟩, ?_⟩
  · omega
  · omega
  · exact gs h2 _
  · rw [Int.toNat_of_nonneg a]
    exact e
theorem sortL_strict {α : Type} {lt : α → α → Bool} (O : SrtO.Swo lt) (tri : ∀ a b, lt a b = false → lt b a = false → a = b) {l : List α} (nd : l.Nodup) : (sortL lt l).Pairwise fun a b => lt a b = true := by
  have h1 : (sortL lt l).Pairwise fun a b => lt b a = false := sortL_srtd O l
  have h2 : (sortL lt l).Nodup := (sortL_perm l).nodup_iff.mpr nd
  refine (h1.and h2).imp fun {a b} h => ?_
  cases q : lt a b with
  | true => rfl
  | false => exact absurd (tri a b q h.1) h.2
def Row (width : Nat) (far : Int) (r : List Int) : Prop := r.length = width ∧ ∀ x ∈ r, 0 ≤ x ∧ x < far
end Dv
namespace Dv
open PySem L2
end Dv
namespace Dv
open PySem L2
section
variable {S : Store} {l v : Nat} {rows : List (List Int)} {lv : List (Nat × Nat × Nat)} {m : Int}
end
end Dv
set_option maxHeartbeats 4000000
namespace Dv
open PySem PySem.Spec PyProof.Rows L2
abbrev nset (w : World) : Obj := { cls := .type "set", dict := none, data := .set #[] 0 (.fresh 0 0 (!w.params.followText "set-order")) }
abbrev liter (l : Addr) : Obj := { cls := .type "list_iterator", data := .fields #[.ref l, .int 0 0] }
section
variable {P : Program} {w : World} {A : Around} {E : Value → Shared → Prop} {s : Shared}
theorem set_of_list {l : Addr} {xs : Array Value} {Q : Value → Shared → Prop} (G : Heap → Prop) (hl : s.heap.IsList l xs)
    (lp : ∀ R : Result → Shared → Prop, (∀ h' tk, G h' → (∀ b o, s.heap.get? b = some o → h'.get? b = some o) → R (.ok (.ret .none)) { s with heap := h', toks := tk }) →
      ((s.heap.push (nset w)).push (liter l)).IsList l xs → codeAny (model P w) A.in1.in1 (.builtin "set.update.loop" ⟨[.ref s.heap.objs.size, .ref (s.heap.objs.size + 1)], []⟩) R { s with heap := (s.heap.push (nset w)).push (liter l) })
    (fin : ∀ h' tk, G h' → (∀ b o, s.heap.get? b = some o → h'.get? b = some o) → Q (.ref s.heap.objs.size) { s with heap := h', toks := tk }) : wpAny (model P w) A (call (.type "set") [.ref l]) Q E s := by
  obtain ⟨cc, tt, hmro⟩ := F.called_set.mro
  have k1 := F.called_set.made
  have k2 := F.called_set.sub
  refine wpAny_call (codeAny_of_tree ?_)
  show wpAny _ _ (callAny (.type "set") _) _ _ _
  refine wpAny_pure ⟨Code.quiet_builtin _ (by decide +kernel), codeAny_builtin F.entry_type_call ?_⟩
  rw [Around.under_plain (weight_type_call_type "set" [.ref l] []) rfl]
  have k3 := F.called_set.notType
  have k4 := F.called_set.canCreate
  have k5 := F.typeCall_set_1 (.ref l)
  repeat (any_goals (first | assumption | wp_step))
  have e0 : (s.heap.push (nset w)).get? s.heap.objs.size = some (nset w) := Heap.get?_push_size _ rfl
  refine codeAny_mono (code_set_led1 (.ref l) (E := E) (Q₁ := fun v u => v = .ref s.heap.objs.size ∧ u = { s with heap := s.heap.push (nset w) }) ⟨rfl, rfl⟩) fun r u hr => ?_
  cases r with
  | error e => exact hr
  | ok fl =>
    cases fl with
    | ret obj =>
      obtain ⟨rfl, rfl⟩ := hr
      have ty : Shared.TypeIs { s with heap := s.heap.push (nset w) } (.ref s.heap.objs.size) "set" := ⟨_, e0, rfl⟩
      have k6 := F.called_set.init.lookup
      have k7 := F.called_set.init.bind (.ref s.heap.objs.size)
      repeat (any_goals (first | assumption | wp_step))
      refine codeAny_mono (codeAny_call_builtin (R := wants (fun r u => r = .none ∧ ∃ h' tk, u = { s with heap := h', toks := tk } ∧ G h' ∧ ∀ b o, s.heap.get? b = some o → h'.get? b = some o) E) F.called_set.init.plain F.entry_set_init (check_set_init_1 ty ?_)) fun r2 u2 hr2 => ?_
      · obtain ⟨ol, hol, hcl, nl, hdl⟩ := hl
        obtain ⟨ocls, odict, odata, oslots⟩ := ol
        simp only at hcl hdl
        subst hcl; subst hdl
        have there : (s.heap.push (nset w)).get? l = some { cls := .type "list", dict := odict, data := .seq xs nl, slots := oslots } := Heap.get?_push_of_some _ hol
        have k8 := F.sub_list_set
        have k9 := F.sub_list_frozenset
        have k10 : (Value.type "list" == Value.type "dict") = false := by decide
        have isl : (s.heap.push (nset w)).IsList l xs := ⟨_, there, rfl, nl, rfl⟩
        unfold Builtin.«set.__init__» noKeywords Builtin.Frozenset.updateFrom
        generalize hPI : pyIter = PI
        wp_walk
        subst hPI
        refine wpAny_pyIter_list isl ?_
        refine wpAny_bind (wpAny_runValue ?_)
        have sz : (s.heap.push (nset w)).objs.size = s.heap.objs.size + 1 := Heap.size_push ..
        rw [sz]
        refine lp _ (fun h' tk g k => ?_) (isl.push _)
        show wpAny _ _ _ _ _ _
        refine wpAny_pure ?_
        show wpAny _ _ (ret Value.none) _ _ _
        exact wpAny_pure ⟨rfl, h', tk, rfl, g, k⟩
      · cases r2 with
        | error e => exact hr2
        | ok f2 =>
          cases f2 with
          | ret r =>
            obtain ⟨rfl, h', tk, rfl, g, k⟩ := hr2
            repeat (any_goals (first | assumption | wp_step))
            exact fin h' tk g k
          | _ => exact hr2.elim
    | _ => exact hr.elim
theorem set_of_ints {l : Addr} {xs : Array Value} (ns : List Int) {Q : Value → Shared → Prop} (hh : A.handled = none) (hl : s.heap.IsList l xs) (hi : IntsAre xs.toList ns) (hb : ns.length + 1 < scanBound)
    (fin : ∀ h' tk c, SetR w h' s.heap.objs.size (fun j => decide (j ∈ ns)) c → c ≤ ns.length → (∀ b o, s.heap.get? b = some o → h'.get? b = some o) → Q (.ref s.heap.objs.size) { s with heap := h', toks := tk }) : wpAny (model P w) A (call (.type "set") [.ref l]) Q E s := by
  have hsz : xs.size = ns.length := by
    have q := IntsAre.length hi
    rw [Array.length_toList] at q
    exact q
  have hlS : l < s.heap.objs.size := by
    obtain ⟨o, ho, _⟩ := hl
    exact Heap.lt_size ho
  refine set_of_list (fun h' => ∃ c, SetR w h' s.heap.objs.size (fun j => decide (j ∈ ns)) c ∧ c ≤ ns.length) hl (fun R hR isl => ?_) fun h' tk ⟨c, h1, h2⟩ k => fin h' tk c h1 h2 k
  have sz : (s.heap.push (nset w)).objs.size = s.heap.objs.size + 1 := Heap.size_push ..
  have hne : l ≠ s.heap.objs.size + 1 := Nat.ne_of_lt (Nat.lt_succ_of_lt hlS)
  have hnf : s.heap.objs.size ∉ [s.heap.objs.size + 1, l] := by
    simp only [List.mem_cons, List.not_mem_nil, or_false, not_or]
    exact ⟨Nat.ne_of_lt (Nat.lt_succ_self _), Nat.ne_of_gt hlS⟩
  have vals : ∀ (i : Nat) (v : Value), xs[i]? = some v → ∃ k t, ns[i]? = some k ∧ v = .int k t := fun i v hv => by
    have h1 : i < ns.length := by rw [← hsz]; exact (Array.getElem?_eq_some_iff.mp hv).1
    obtain ⟨t, e⟩ := PyProof.Rows.IntsAre.int_at hi i v (by rw [Array.getElem?_toList]; exact hv)
    refine ⟨ns[i], t, List.getElem?_eq_getElem h1, ?_⟩
    rw [e, List.getD_eq_getElem?_getD, List.getElem?_eq_getElem h1] <;> rfl
  have h3 : A.in1.in1.in1.handled = none := by simp [hh]
  have git : ((s.heap.push (nset w)).push (liter l)).get? (s.heap.objs.size + 1) = some (liter l) := by
    rw [← sz]
    exact Heap.get?_push_size _ rfl
  refine set_update_ints ((Walks.list h3 (s.heap.objs.size + 1) l hne xs).toS) s.heap.objs.size hnf ns hsz hb vals (xs.size - 0) 0 _ (by omega) (Nat.zero_le _) ⟨⟨_, git, rfl, rfl⟩, isl⟩ ⟨0, Nat.le_refl 0, setR_new_at (Heap.get?_push_of_some _ (Heap.get?_push_size _ rfl))⟩ fun s' c hm hc hS => ?_
  obtain ⟨h', g2, d', tk', os'⟩ := s'
  have eg : g2 = s.gens := hm.gens
  have ed : d' = s.drawn := hm.drawn
  have eo : os' = s.os := hm.os
  subst eg; subst ed; subst eo
  refine hR h' tk' ⟨c, hS, by omega⟩ fun b o e => ?_
  have hb0 : b < s.heap.objs.size := Heap.lt_size e
  exact hm.heap b o (by simp only [List.mem_cons, List.not_mem_nil, or_false, not_or]; exact ⟨Nat.ne_of_lt hb0, Nat.ne_of_lt (Nat.lt_succ_of_lt hb0)⟩) (Heap.get?_push_of_some _ (Heap.get?_push_of_some _ e))
end
end Dv
namespace Dv
open PySem PySem.Spec PyProof.Rows L2
section
variable {X : Cx}
def rSetI (K : PySem.W.Frag) (w : World) : List V → Hp → VK → Prop := fun vs H Q => ∃ (l : Addr) (ns : List Int), vs = [.ref l] ∧ SqL K H l (ns.map V.int) ∧ ns.length ≤ 1000 ∧ ∀ (a : Addr) (c : Nat), H a = none → c ≤ ns.length → Q (.ref a) (upd H a (SetO w a (fun j => decide (j ∈ ns)) c))
theorem cr_setI (hc : X.calm = true) : CallR X (.type "set") (rSetI X.K X.w) := by
  intro pins s σ H vs us Q I r h
  obtain ⟨l, ns, rfl, hl, hz, q⟩ := h
  rw [Vals.ref1 r]
  obtain ⟨its, rv, pl, _⟩ := I.list hl
  have hn : H s.heap.objs.size = none := I.hok.fresh (Nat.le_refl _)
  refine set_of_ints (P := X.prog) (w := X.w) ns (I.ok.hd hc) pl.isList (by simpa using ints_of_vals rv) (by unfold scanBound; omega) fun h' tk c R hcn k => ?_
  exact ⟨.ref s.heap.objs.size, upd H s.heap.objs.size (SetO X.w s.heap.objs.size (fun j => decide (j ∈ ns)) c), I.laid (t' := tk) k (Nat.le_refl _) (setO_new R), rfl, q _ c hn hcn⟩
theorem j_callBT {Wx : WX} {ms : AM} {es : List Expr} {x y : Str} {p p' pos pos' : Pos} {e : Expr} {id id' : String} {r r' : List V → Hp → VK → Prop} {f : List D → Store → Option D} (hc' : CallR X (.builtin id') r') (hc : CallR X (.type id) r)
    (hf : POk X.K X.mg (fun vs H Q => r vs H fun v H1 => r' [v] H1 Q) f) (hg' : Gl X y) (hm' : X.mg y = none) (hv' : bootBuiltins y = some (.builtin id')) (hg : Gl X x) (hm : X.mg x = none) (hv : bootBuiltins x = some (.type id)) (ha : PA X (e :: es) (tDA X.K X.mg Wx ms))
    (hn' : y ≠ "__name__" := by decide) (hdb' : (y == ("__debug__" : Str)) = false := by decide) (hn : x ≠ "__name__" := by decide) (hdb : (x == ("__debug__" : Str)) = false := by decide)
    (he : starEach (e :: es) X.env = (false, eval e X.env) :: starEach es X.env := by rfl) (hpl : (backTo pos (starEach es X.env)).any (·.1) = false := by rfl) :
    PE X (.Call (.Name y p') [.Call (.Name x p) (e :: es) [] pos] [] pos') (tD X.K X.mg Wx (mCall f ms)) :=
  pe_imp (pe_callB hc' hg' hm' hv' (pa_cons (pe_callTy hc hg hm hv ha hn hdb he hpl) pa_nil) hn' hdb') fun g H Q h => tCB_of hf g H Q h
end
theorem strict_ext {α : Type} {lt : α → α → Bool} (O : SrtO.Swo lt) : ∀ {a b : List α}, (a.Pairwise fun x y => lt x y = true) → (b.Pairwise fun x y => lt x y = true) → (∀ x, x ∈ a ↔ x ∈ b) → a = b
  | [], [], _, _, _ => rfl
  | [], y :: ys, _, _, h => absurd ((h y).mpr List.mem_cons_self) (by intro h; cases h)
  | x :: xs, [], _, _, h => absurd ((h x).mp List.mem_cons_self) (by intro h; cases h)
  | x :: xs, y :: ys, h1, h2, h => by
    rw [List.pairwise_cons] at h1 h2
    have e : x = y := by
      have hx := (h x).mp List.mem_cons_self
      have hy := (h y).mpr List.mem_cons_self
      rcases List.mem_cons.mp hx with e | e
      · exact e
      · rcases List.mem_cons.mp hy with e2 | e2
        · exact e2.symm
        · have q1 := h2.1 x e
          have q2 := h1.1 y e2
          rw [O.asym _ _ q1] at q2
          cases q2
    subst e
    have nx : x ∉ xs := fun m => by
      have q := h1.1 x m
      rw [O.refl x] at q
      cases q
    have ny : x ∉ ys := fun m => by
      have q := h2.1 x m
      rw [O.refl x] at q
      cases q
    refine congrArg (x :: ·) (strict_ext O h1.2 h2.2 fun z => ?_)
    constructor
    · intro m
      rcases List.mem_cons.mp ((h z).mp (List.mem_cons_of_mem _ m)) with e | e
      · subst e
        exact absurd m nx
      · exact e
    · intro m
      rcases List.mem_cons.mp ((h z).mpr (List.mem_cons_of_mem _ m)) with e | e
      · subst e
        exact absurd m ny
      · exact e
theorem ltI_tri (a b : Int) (h1 : ltI a b = false) (h2 : ltI b a = false) : a = b := by
  have := of_decide_eq_false h1
  have := of_decide_eq_false h2
  omega
def dedL {α : Type} [DecidableEq α] : List α → List α
  | [] => []
  | x :: xs => if x ∈ dedL xs then dedL xs else x :: dedL xs
theorem mem_dedL {α : Type} [DecidableEq α] (z : α) : ∀ xs : List α, z ∈ dedL xs ↔ z ∈ xs
  | [] => Iff.rfl
  | x :: xs => by
    have ih := mem_dedL z xs
    unfold dedL
    split
    · rename_i h
      rw [ih, List.mem_cons]
      refine ⟨.inr, fun q => ?_⟩
      rcases q with rfl | q
      · exact (mem_dedL z xs).mp h
      · exact q
    · rw [List.mem_cons, List.mem_cons, ih]
theorem nodup_dedL {α : Type} [DecidableEq α] : ∀ xs : List α, (dedL xs).Nodup
  | [] => List.nodup_nil
  | x :: xs => by
    unfold dedL
    split
    · exact nodup_dedL xs
    · rename_i h
      exact List.nodup_cons.mpr ⟨h, nodup_dedL xs⟩
def ssI (ns : List Int) : List Int := sortL ltI (dedL ns)
theorem mem_ssI {z : Int} {ns : List Int} : z ∈ ssI ns ↔ z ∈ ns := by
  unfold ssI
  rw [(sortL_perm _).mem_iff, mem_dedL]
theorem ssI_ext {a ns : List Int} (h : a.Pairwise (· < ·)) (m : ∀ z, z ∈ a ↔ z ∈ ns) : a = ssI ns :=
  strict_ext ltI_swo (h.imp fun {x y} h => decide_eq_true h) (sortL_strict ltI_swo ltI_tri (nodup_dedL ns)) fun z => by
    rw [m z]
    exact mem_ssI.symm
def sortSetD (ds : List D) (S : Store) : Option D := match ds with
  | [.lst xs] => match intsOf xs with
    | some ns => if ns.length < 64 then some (.lst ((ssI ns).map D.int)) else none
    | none => none
  | _ => none
theorem pok_sortSet {K : PySem.W.Frag} {mg : Str → Option Value} {w : World} : POk K mg (fun vs H Q => rSetI K w vs H fun v H1 => rSortedSet w [v] H1 Q) sortSetD := fun T S H vs ds d Q sim rep e k => by
  unfold sortSetD at e
  split at e
  · rename_i xs
    split at e
    · rename_i ns hi
      split at e
      · rename_i h64
        cases e
        have hx := intsOf_some hi
        subst hx
        cases rep with
        | cons r1 rt =>
          cases rt
          cases r1 with
          | @lst a vs' _ hH off rl =>
            have hv := rl.of_ints
            subst hv
            refine ⟨a, ns, rfl, .inl (.inl hH), by omega, fun p c hp hc => ⟨p, _, c, rfl, upd_same .., by omega, fun ms q hs hm hl hq => ?_⟩⟩
            have em : ms = ssI ns := ssI_ext hs fun z => by rw [hm z, decide_eq_true_eq]
            subst em
            have st1 := sim.stepNew (o := SetO w p (fun j => decide (j ∈ ns)) c) hp
            have sim1 := sim.new (o := SetO w p (fun j => decide (j ∈ ns)) c) hp (hlen_oth sim.hl fun xs => ⟨(by intro z; cases z), (by intro z; cases z), (by intro x z; cases z), (by intro x z; cases z)⟩)
            have hlen : (List.map V.int (ssI ns)).length ≤ sizeLine := by rw [List.length_map, hl, sizeLine_eq]; omega
            exact k _ (.ref q) (st1.trans (sim1.stepNew hq)) (sim1.new hq (hlen_lst sim1.hl hlen)) (.lst (upd_same ..) (sim1.off hq) (RepL.ints _))
      · cases e
    · cases e
  · cases e
end Dv
namespace Dv
open PySem L2
section
variable (K : PySem.W.Frag) (mg : Str → Option Value)
def POkN (r : List V → Hp → VK → Prop) (f : List D → Store → Option (List D)) : Prop := ∀ T S H xs es ds (Q : VK), Sim K mg T S H → RepL K T H xs es → f es S = some ds →
  (∀ vs p, RepL K T H vs ds → vs.length ≤ sizeLine → H p = none → Q (.ref p) (upd H p (.lst vs))) → r xs H Q
end
def newO (o : Option (List D)) (S : Store) : R D := match o with
  | some ds => .ok (.loc S.length) (S ++ [.lst ds])
  | none => .bad
def mCallN (f : List D → Store → Option (List D)) (ms : AM) : EM := fun r S => (ms r S).bind fun ds S1 => newO (f ds S1) S1
@[simp] theorem newO_some (ds : List D) (S : Store) : newO (some ds) S = .ok (.loc S.length) (S ++ [.lst ds]) := rfl
@[simp] theorem mCallN_ap {f : List D → Store → Option (List D)} {ms : AM} {r : Env} {S : Store} : mCallN f ms r S = (ms r S).bind fun ds S1 => newO (f ds S1) S1 := rfl
section
variable {X : Cx} {Wx : WX} {a b : Expr} {es : List Expr} {pos : Pos} {ma mb : EM} {ms : AM}
theorem newO_use {K : PySem.W.Frag} {mg : Str → Option Value} {T : Tb} {S : Store} {H : Hp} {g : St} {o : Option (List D)} {Q : VK} (sim : Sim K mg T S H) (h : Out K mg Wx (Rep K) T g H (newO o S) Q) : ∃ ds, o = some ds ∧ ∀ vs p, RepL K T H vs ds → vs.length ≤ sizeLine → H p = none → Q (.ref p) (upd H p (.lst vs)) := by
  cases o with
  | none => exact h.elim
  | some ds =>
    refine ⟨ds, rfl, fun vs p rl hz hp => ?_⟩
    have st : Step T H (T.add p) (upd H p (.lst vs)) := sim.stepAlloc hp
    exact h (T.add p) _ _ st (sim.alloc hp (hlen_lst sim.hl hz) ⟨vs, upd_same, rl.step st⟩) (.loc sim.newGet)
theorem j_callTN {x : Str} {p : Pos} {e : Expr} {id : String} {r : List V → Hp → VK → Prop} {f : List D → Store → Option (List D)} (hc : CallR X (.type id) r) (hf : POkN X.K X.mg r f) (hg : Gl X x) (hm : X.mg x = none) (hv : bootBuiltins x = some (.type id)) (ha : PA X (e :: es) (tDA X.K X.mg Wx ms))
    (hn : x ≠ "__name__" := by decide) (hdb : (x == ("__debug__" : Str)) = false := by decide) (he : starEach (e :: es) X.env = (false, eval e X.env) :: starEach es X.env := by rfl) (hpl : (backTo pos (starEach es X.env)).any (·.1) = false := by rfl) :
    PE X (.Call (.Name x p) (e :: es) [] pos) (tD X.K X.mg Wx (mCallN f ms)) := pe_imp (pe_callTy hc hg hm hv ha hn hdb he hpl) fun g H Q h => by
  obtain ⟨T, r, S, rs, sim, h⟩ := h
  refine ⟨T, r, S, rs, sim, Out.bind h fun x S1 T1 H1 v st sim1 rel h1 => ?_⟩
  obtain ⟨ds, e, k⟩ := newO_use sim1 h1
  exact hf T1 S1 H1 v x ds Q sim1 rel e k
end
def lstAt (d : D) (S : Store) : Option (List D) := match d with
  | .lst xs => some xs
  | .loc n => match S[n]? with
    | some (.lst xs) => some xs
    | _ => none
  | _ => none
@[simp] theorem lstAt_lst (xs : List D) (S : Store) : lstAt (.lst xs) S = some xs := rfl
@[simp] theorem lstAt_loc (n : Nat) (S : Store) : lstAt (.loc n) S = (match S[n]? with
    | some (.lst xs) => some xs
    | _ => none) := rfl
section
variable {K : PySem.W.Frag} {mg : Str → Option Value} {T : Tb} {S : Store} {H : Hp}
theorem lstAt_rep {v : V} {d : D} {ds : List D} (sim : Sim K mg T S H) (r : Rep K T H v d) (e : lstAt d S = some ds) : ∃ a xs, v = .ref a ∧ H a = some (.lst xs) ∧ RepL K T H xs ds ∧ xs.length ≤ sizeLine := by
  cases r with
  | lst h n r =>
    cases e
    exact ⟨_, _, rfl, h, r, sim.hl _ _ (.inl (.inl h))⟩
  | @loc a n h =>
    simp only [lstAt] at e
    split at e
    · rename_i ys hs
      cases e
      obtain ⟨xs, h1, h2⟩ := sim.obj n a _ h hs
      exact ⟨a, xs, rfl, h1, h2, sim.hl _ _ (.inl (.inl h1))⟩
    · cases e
  | _ => cases e
end
section
variable {K : PySem.W.Frag} {mg : Str → Option Value}
def lstN (ds : List D) (S : Store) : Option (List D) := match ds with
  | [.tup xs] => some xs
  | [d] => lstAt d S
  | _ => none
theorem pok_lstN : POkN K mg (fun xs H Q => ∃ p ys, xs = [.ref p] ∧ (SqL K H p ys ∨ SqT K H p ys) ∧ ∀ l, H l = none → Q (.ref l) (upd H l (.lst ys))) lstN := fun T S H vs es ds Q sim rep e k => by
  unfold lstN at e
  split at e
  · cases e
    obtain ⟨v, rfl, r⟩ := rep.one
    cases r with
    | tup h n r => exact ⟨_, _, rfl, .inr (SqT.of h), fun l hl => k _ l r (sim.hl _ _ (.inr (.inl h))) hl⟩
  · obtain ⟨v, rfl, r⟩ := rep.one
    obtain ⟨p, us, rfl, hp, r1, hz⟩ := lstAt_rep sim r e
    exact ⟨p, us, rfl, .inl (SqL.of hp), fun l hl => k _ l r1 hz hl⟩
  · cases e
theorem fn_bad {P : Program} {w : World} {base : Heap} {CX : CXT} {k : Nat} {f : Addr} {fd : FuncData} {ps : List Str} : FnOk P w K mg base CX k f fd ps (spD K mg ps.length fun _ _ => .bad) := by
  refine ⟨fun vs H Q E q => q.1, fun A outer s H args us vs Q E hr he hb hv hs => ?_⟩
  obtain ⟨hl, T, S, ds, rep, sim, out⟩ := hs
  exact out.elim
end
end Dv
namespace Dv
open PySem L2
def tk (rows : List (List Int)) (d i : Nat) : List Int := (rows.getD i []).take d
def cl (rows : List (List Int)) (k i : Nat) : Int := (rows.getD i []).getD k 0
section
variable {rows : List (List Int)} {w : Nat}
structure Blk (rows : List (List Int)) (k lo far : Nat) : Prop where
  lt : lo < far
  le : far ≤ rows.length
  iff : ∀ i, i < rows.length → (tk rows k i = tk rows k lo ↔ lo ≤ i ∧ i < far)
structure St (rows : List (List Int)) (k : Nat) (x : Nat × Nat × Nat) : Prop where
  blk : Blk rows k x.1 x.2.1
  lo : x.1 ≤ x.2.2
  hi : x.2.2 ≤ x.2.1
  gs : x.2.2 < x.2.1 → ∀ i, x.1 ≤ i → i < x.2.2 → cl rows k i < cl rows k x.2.2
end
end Dv
namespace Dv
open PySem L2
section
variable {S : Store} {l v : Nat} {rows : List (List Int)} {lv : List (Nat × Nat × Nat)} {m : Int} {w : Nat}
end
end Dv
namespace Dv
open PySem L2
section
variable {S S1 : Store} {l v : Nat} {rows : List (List Int)} {lv : List (Nat × Nat × Nat)} {m : Int} {w : Nat}
end
end Dv
namespace Dv
open PySem L2
def mSame (self : List D → Store → R D) : SM :=
    (sSeq (sIf (mT (mBin isND (mVar 1) (mC .non))) (sRet (mBin isND (mVar 0) (mC .non))) sNil)
    (sSeq (sIf (mTru (mCall isiD (mCons (mVar 1) (mCons (mC (.ty "bool")) mNil)))) (sRet (mAnd (mCall isiD (mCons (mVar 0) (mCons (mC (.ty "bool")) mNil))) (mBin eqD (mVar 0) (mVar 1)))) sNil)
    (sSeq (sIf (mTru (mCall isiD (mCons (mVar 1) (mCons (mC (.ty "tuple")) mNil)))) (sSeq (sIf (mOrT (mNotT (mTru (mCall isiD (mCons (mVar 0) (mCons (mC (.ty "tuple")) mNil))))) (mT (mBin neD (mCall lenD (mCons (mVar 0) mNil)) (mCall lenD (mCons (mVar 1) mNil))))) (sRet (mC (.bl false))) sNil)
    (sRet (mCall allD (mCons (mLc (mZip (mCons (mVar 0) (mCons (mVar 1) mNil))) [2, 3] (tgT 2 (tgsCons (tgN 2) (tgsCons (tgN 3) tgsNil))) mYes (mApp 2 self (mCons (mVar 2) (mCons (mVar 3) mNil)))) mNil)))) sNil)
    (sSeq (sIf (mTru (mCall isiD (mCons (mVar 1) (mCons (mC (.ty "str")) mNil)))) (sRet (mAnd (mCall isiD (mCons (mVar 0) (mCons (mC (.ty "str")) mNil))) (mBin eqD (mVar 0) (mVar 1)))) sNil)
    (sRet (mAnd (mCall isiD (mCons (mVar 0) (mCons (mC (.ty "int")) mNil))) (mAnd (mNot (mCall isiD (mCons (mVar 0) (mCons (mC (.ty "bool")) mNil)))) (mBin eqD (mVar 0) (mVar 1)))))))))
def FSame : Nat → List D → Store → R D
  | 0 => fun _ _ => .bad
  | n + 1 => runT 4 (mSame (FSame n))
def pt : Nat → D → Bool
  | _, .non => true
  | _, .bl _ => true
  | _, .int _ => true
  | _, .str _ => true
  | k + 1, .tup xs => xs.all (pt k)
  | _, _ => false
theorem same_zip {S : Store} (f : List D → Store → R D) (k : Nat) (ih : ∀ a b, pt k a = true → pt k b = true → f [a, b] S = .ok (.bl (decide (a = b))) S) (r0 : Env) (h0 : r0.length = 4) : ∀ xs ys : List D, xs.all (pt k) = true → ys.all (pt k) = true →
    lcL (tgT 2 (tgsCons (tgN 2) (tgsCons (tgN 3) tgsNil))) mYes (mApp 2 f (mCons (mVar 2) (mCons (mVar 3) mNil))) r0 (List.zipWith (fun a b => D.tup [a, b]) xs ys) S = .ok ((List.zipWith (fun a b => decide (a = b)) xs ys).map D.bl) S
  | [], _, _, _ => by simp [lcL]
  | x :: xs, [], _, _ => by simp [lcL]
  | x :: xs, y :: ys, h1, h2 => by
    rw [List.all_cons, Bool.and_eq_true] at h1 h2
    rw [List.zipWith_cons_cons, lcL_cons]
    have e := same_zip f k ih r0 h0 xs ys h1.2 h2.2
    have e2 := ih x y h1.1 h2.1
    simp [h0, e, e2]
theorem zip_all : ∀ xs ys : List D, xs.length = ys.length → ((List.zipWith (fun a b => decide (a = b)) xs ys).all id) = decide (xs = ys)
  | [], [], _ => by simp
  | x :: xs, y :: ys, h => by
    rw [List.zipWith_cons_cons, List.all_cons, zip_all xs ys (by simpa using h)]
    by_cases e : x = y
    · subst e; simp
    · simp [e]
theorem same_ok {S : Store} : ∀ (n k : Nat), k < n → ∀ a b, pt k a = true → pt k b = true → FSame n [a, b] S = .ok (.bl (decide (a = b))) S
  | 0, k, h, _, _, _, _ => absurd h (Nat.not_lt_zero _)
  | n + 1, k, h, a, b, ha, hb => by
    have eb : ∃ rho, mSame (FSame n) (frame 4 [a, b]) S = .ok (.ret (.bl (decide (a = b)))) rho S := by
      rw [show frame 4 [a, b] = [some a, some b, none, none] from rfl]
      unfold mSame
      have i1 : ∀ d, pt k d = true → ∀ S, isiD [d, .ty "bool"] S = some (.bl (match d with | .bl _ => true | _ => false)) := fun d hd S => by
        cases d <;> first | rfl | (cases k <;> cases hd)
      have i2 : ∀ d, pt k d = true → ∀ S, isiD [d, .ty "tuple"] S = some (.bl (match d with | .tup _ => true | _ => false)) := fun d hd S => by
        cases d <;> first | rfl | (cases k <;> cases hd)
      have i3 : ∀ d, pt k d = true → ∀ S, isiD [d, .ty "str"] S = some (.bl (match d with | .str _ => true | _ => false)) := fun d hd S => by
        cases d <;> first | rfl | (cases k <;> cases hd)
      have i4 : ∀ d, pt k d = true → ∀ S, isiD [d, .ty "int"] S = some (.bl (match d with | .int _ => true | .bl _ => true | _ => false)) := fun d hd S => by
        cases d <;> first | rfl | (cases k <;> cases hd)
      have j1 : ∀ d, pt k d = true → ∀ S, isND d .non S = some (.bl (match d with | .non => true | _ => false)) := fun d hd S => by
        cases d <;> rfl
      have q1 : ∀ x y : Bool, ∀ S, eqD (.bl x) (.bl y) S = some (.bl (decide (x = y))) := fun _ _ _ => rfl
      have q2 : ∀ x y : Str, ∀ S, eqD (.str x) (.str y) S = some (.bl (decide (x = y))) := fun _ _ _ => rfl
      cases b with
      | tup ys =>
        cases a with
        | tup xs =>
          cases k with
          | zero => cases ha
          | succ k =>
            have z := same_zip (S := S) (FSame n) k (fun a b h1 h2 => same_ok n k (by omega) a b h1 h2) [some (.tup xs), some (.tup ys), none, none] rfl xs ys ha hb
            by_cases hl : xs.length = ys.length
            · have hz := zip_all xs ys hl
              have e1 : ((xs.length : Int) = (ys.length : Int)) := by rw [hl]
              have e2 : zipD [.tup xs, .tup ys] = some (List.zipWith (fun a b => D.tup [a, b]) xs ys) := rfl
              have e3 := allD_bls (S := S) (List.zipWith (fun a b => decide (a = b)) xs ys)
              simp [i1 _ ha, i1 _ hb, i2 _ ha, i2 _ hb, j1 _ hb, e1, e2, z, e3, hz, -List.map_zipWith]
            · have e1 : ¬ ((xs.length : Int) = (ys.length : Int)) := by omega
              have e2 : ¬ xs = ys := fun e => hl (by rw [e])
              simp [i1 _ ha, i1 _ hb, i2 _ ha, i2 _ hb, j1 _ hb, e1, e2]
        | _ => simp [i1 _ ha, i1 _ hb, i2 _ ha, i2 _ hb, j1 _ hb]
      | _ => cases a <;> simp [i1 _ ha, i1 _ hb, i2 _ ha, i2 _ hb, i3 _ ha, i3 _ hb, i4 _ ha, j1 _ hb, j1 _ ha, q1, q2] <;> (first | done | (cases k <;> cases hb) | (cases k <;> cases ha))
    obtain ⟨rho, eb⟩ := eb
    show finT S (mSame (FSame n) (frame 4 _) S) = _
    rw [eb]
    exact fin_ret0 rfl
end Dv
namespace Dv
open PySem L2
def mPick : SM := (sRet (mBin ixD (mVar 2) (mApp 3 FDraw (mCons (mVar 0) (mCons (mVar 1) (mCons (mCall lenD (mCons (mVar 2) mNil)) mNil))))))
def FPick : List D → Store → R D := runT 3 mPick
theorem pick_tw {ns : List Int} {S : Store} {t n : Nat} {seq : D} {xs : List D} (h63 : ns.length ≤ 63) (h : Twn t n S) (hn : n < 99990) (hs : seq = .lst xs ∨ seq = .tup xs) (hne : xs ≠ []) (hc : ∀ m, cloL m xs = true) : ∃ (i : Nat) (d : D) (S' : Store), xs[i]? = some d ∧ Twn t (n + 2) S' ∧ Dif t S S' ∧ FPick [.scr ns, .loc t, seq] S = .ok d S' := by
  have hl : 0 < xs.length := List.length_pos_iff.mpr hne
  obtain ⟨r, S', a, b, c, e⟩ := draw_tw (many := (xs.length : Int)) h63 h hn (by omega)
  have hr : r < xs.length := by omega
  refine ⟨r, xs[r], S', List.getElem?_eq_getElem hr, b, c, ?_⟩
  have eb : ∃ rho, mPick (frame 3 [.scr ns, .loc t, seq]) S = .ok (.ret xs[r]) rho S' := by
    rw [show frame 3 [.scr ns, .loc t, seq] = [some (.scr ns), some (.loc t), some seq] from rfl]
    unfold mPick
    have ea : atI xs (r : Int) = some xs[r] := atI_nat (List.getElem?_eq_getElem hr)
    rcases hs with rfl | rfl
    · simp [e, ea]
    · simp [e, ea]
  obtain ⟨rho, eb⟩ := eb
  show finT S (mPick (frame 3 _) S) = _
  rw [eb]
  exact c.fin ((cloL_iff _ _).mp (hc _) _ (List.getElem_mem hr))
end Dv
namespace Dv
open PySem L2
def lcL2 (gm : D → Env → Option Env) (tt : BM) (mi1 : IM) (vs1 : List Nat) (gm1 : D → Env → Option Env) (tt1 : BM) (te : EM) (r0 : Env) : List D → Store → R (List D)
  | [], S => .ok [] S
  | d :: ds, S => match gm d r0 with
    | none => .bad
    | some r1 => (nox (tt r1 S)).bind fun b S1 => if b = true then (nox (mi1 r1 S1)).bind fun es S2 => (lcL gm1 tt1 te (wipeE r1 vs1) es S2).bind fun ys S3 => (lcL2 gm tt mi1 vs1 gm1 tt1 te r0 ds S3).bind fun zs S4 => .ok (ys ++ zs) S4
      else lcL2 gm tt mi1 vs1 gm1 tt1 te r0 ds S1
def lcFin (zs : List D) (S : Store) : R D := if zs.length ≤ 100000 then .ok (.lst zs) S else .bad
def mLc2 (mi : IM) (vs : List Nat) (gm : D → Env → Option Env) (tt : BM) (mi1 : IM) (vs1 : List Nat) (gm1 : D → Env → Option Env) (tt1 : BM) (te : EM) : EM := fun r S => (mi r S).bind fun ds S1 => (lcL2 gm tt mi1 vs1 gm1 tt1 te (wipeE r vs) ds S1).bind fun ys S2 => lcFin ys S2
def noE {α : Type} (x : R α) : Prop := ∀ n S, x ≠ .exc n S
theorem noE_nox {α : Type} (x : R α) : noE (nox x) := by
  cases x <;> intro n S h <;> cases h
theorem noE_bind {α β : Type} {x : R α} {f : α → Store → R β} (hx : noE x) (hf : ∀ a S, noE (f a S)) : noE (x.bind f) := by
  cases x with
  | ok a S => exact hf a S
  | exc n S => exact absurd rfl (hx n S)
  | bad => intro n S h; cases h
theorem noE_ok {α : Type} (a : α) (S : Store) : noE (R.ok a S) := fun n S h => by cases h
theorem noE_lcL {gm : D → Env → Option Env} {tt : BM} {te : EM} {r0 : Env} : ∀ (ds : List D) (S : Store), noE (lcL gm tt te r0 ds S)
  | [], S => noE_ok _ _
  | d :: ds, S => by
    rw [lcL_cons]
    split
    · intro n S h; cases h
    · refine noE_bind (noE_nox _) fun b S1 => ?_
      split
      · exact noE_bind (noE_nox _) fun y S2 => noE_bind (noE_lcL ds S2) fun _ _ => noE_ok _ _
      · exact noE_lcL ds S1
theorem lcL2_cons {gm : D → Env → Option Env} {tt : BM} {mi1 : IM} {vs1 : List Nat} {gm1 : D → Env → Option Env} {tt1 : BM} {te : EM} {r0 : Env} (d : D) (ds : List D) (S : Store) : lcL2 gm tt mi1 vs1 gm1 tt1 te r0 (d :: ds) S = (match gm d r0 with
    | none => .bad
    | some r1 => (nox (tt r1 S)).bind fun b S1 => if b = true then (nox (mi1 r1 S1)).bind fun es S2 => (lcL gm1 tt1 te (wipeE r1 vs1) es S2).bind fun ys S3 => (lcL2 gm tt mi1 vs1 gm1 tt1 te r0 ds S3).bind fun zs S4 => .ok (ys ++ zs) S4
      else lcL2 gm tt mi1 vs1 gm1 tt1 te r0 ds S1) := rfl
theorem noE_lcL2 {gm : D → Env → Option Env} {tt : BM} {mi1 : IM} {vs1 : List Nat} {gm1 : D → Env → Option Env} {tt1 : BM} {te : EM} {r0 : Env} : ∀ (ds : List D) (S : Store), noE (lcL2 gm tt mi1 vs1 gm1 tt1 te r0 ds S)
  | [], S => noE_ok _ _
  | d :: ds, S => by
    rw [lcL2_cons]
    split
    · intro n S h; cases h
    · refine noE_bind (noE_nox _) fun b S1 => ?_
      split
      · exact noE_bind (noE_nox _) fun es S2 => noE_bind (noE_lcL es S2) fun _ S3 => noE_bind (noE_lcL2 ds S3) fun _ _ => noE_ok _ _
      · exact noE_lcL2 ds S1
section
variable {K : PySem.W.Frag} {mg : Str → Option Value} {Wx : WX} {T : Tb} {H : Hp} {g : L2.St}
theorem fin_bound {x : R (List D)} {ys : List D} {Q : VK} (hx : noE x) (h : Out K mg Wx (Rep K) T g H (x.bind fun zs S2 => lcFin (ys ++ zs) S2) Q) : ∃ zs S2, x = .ok zs S2 ∧ ys.length + zs.length ≤ 100000 := by
  cases x with
  | bad => exact h.elim
  | exc n S => exact absurd rfl (hx n S)
  | ok zs S =>
    refine ⟨zs, S, rfl, ?_⟩
    by_cases q : (ys ++ zs).length ≤ 100000
    · rw [List.length_append] at q
      exact q
    · have h : Out K mg Wx (Rep K) T g H (lcFin (ys ++ zs) S) Q := h
      unfold lcFin at h
      rw [if_neg q] at h
      exact h.elim
end
section
variable {X : Cx} {Wx : WX} {elt tg iter tg1 iter1 : Expr} {ifs ifs1 : List Expr} {scope : Scope} {own : List (Str × Nat)} {pos : Pos} {mi mi1 : IM} {sl sl1 vs1 : List Nat} {gm gm1 : D → Env → Option Env} {tt tt1 : BM} {te : EM}
theorem tLc2_of {K : PySem.W.Frag} {mg : Str → Option Value} {vs : List Nat} (hsl : ∀ i ∈ sl, i ∈ vs) (hsl1 : ∀ i ∈ sl1, i ∈ vs1) : ∀ g H Q, tD K mg Wx (mLc2 mi vs gm tt mi1 vs1 gm1 tt1 te) g H Q →
    tLc2 (iD K mg Wx mi) (gD K mg sl gm) (tDT K mg W0 tt) (iD K mg W0 mi1) (gD K mg sl1 gm1) (tDT K mg W0 tt1) (tD K mg W0 te) vs vs1 g H Q := by
  intro g H Q h
  obtain ⟨T, r, S, rs, sim, h⟩ := h
  refine ⟨T, r, S, rs, sim, Out.bind h fun ds S1 T1 H1 J st sim1 rel h1 => ?_⟩
  obtain ⟨wk, hz⟩ := rel
  intro Dl hD
  have hl0 : HLen (upd H1 Dl (.lst [])) := hlen_lst sim1.hl (Nat.zero_le _)
  obtain ⟨kp0, simh⟩ := sim1.hide (u := .lst []) hD hl0
  have rs1 := rs.step st
  -- steps of the hidden table are steps of the open one
  have opn : ∀ {Ta Tb : Tb} {Ha Hb : Hp}, Ta.hid = Dl :: T1.hid → Step T1 H1 ⟨Ta.loc, T1.hid⟩ Ha → Step Ta Ha Tb Hb → Tb.hid = Dl :: T1.hid ∧ Step T1 H1 ⟨Tb.loc, T1.hid⟩ Hb := fun {Ta Tb Ha Hb} e1 s1 s2 => by
    refine ⟨s2.hid.trans e1, s1.trans ⟨s2.ext, rfl, fun b hb => s2.hkeep b (by rw [e1]; exact List.mem_cons_of_mem _ hb), fun b u n q => ?_, s2.new⟩⟩
    by_cases hb : b = Dl
    · subst hb
      rw [s2.hkeep b (by rw [e1]; exact List.mem_cons_self)]
      exact q
    · exact s2.keep b u ⟨n.1, fun z => by
        rw [e1] at z
        exact (List.mem_cons.mp z).elim hb n.2⟩ q
  have kpO : ∀ {T2 : Tb} {H2 : Hp}, T2.hid = Dl :: T1.hid → Step T1 H1 ⟨T2.loc, T1.hid⟩ H2 → Kf T1 H1 T2 H2 := fun {T2 H2} eh st2 => by
    have off2 : ∀ b, T1.off b → H1 b ≠ none → T2.off b := fun b n q => ⟨(st2.out q n).1, fun z => by
      rw [eh] at z
      rcases List.mem_cons.mp z with z | z
      · exact q (by rw [z]; exact hD)
      · exact n.2 z⟩
    exact ⟨⟨fun b u k n q => ⟨st2.keep b u n q, off2 b n (some_ne q)⟩, fun b u n q => ⟨st2.rd q n, off2 b n (rd_some q)⟩, fun n a q => st2.get q⟩, fun b o u n q => ⟨st2.keep b _ n q, off2 b n (some_ne q)⟩⟩
  refine ⟨fun i m H => ∃ T S acc ys, m = ds.length - i ∧ i ≤ ds.length ∧ T.hid = Dl :: T1.hid ∧ Step T1 H1 ⟨T.loc, T1.hid⟩ H ∧ Sim K mg T S H ∧ H Dl = some (.lst acc) ∧ RepL K T H acc ys ∧
    Out K mg Wx (Rep K) T1 g H1 ((lcL2 gm tt mi1 vs1 gm1 tt1 te (wipeE r vs) (ds.drop i) S).bind fun zs S2 => lcFin (ys ++ zs) S2) Q, ⟨ds.length, T1.hide Dl, S1, [], [], by simp, Nat.zero_le _, rfl, sim1.stepNew hD, simh, upd_same, .nil, by simpa using h1⟩, ?_⟩
  rintro i m H2 ⟨T2, S2, acc, ys, rfl, hi, eh, st2, sim2, hD2, ra, ho⟩
  have kf2 : Kf T1 H1 T2 H2 := kpO eh st2
  have kp2 := kf2.toKp
  obtain ⟨stop, go⟩ := wk T2 S2 H2 kf2 sim2
  by_cases hlt : i < ds.length
  · have ed : ds.drop i = ds[i] :: ds.drop (i + 1) := List.drop_eq_getElem_cons hlt
    rw [ed] at ho
    obtain ⟨g1, yl⟩ := go i ds[i] (List.getElem?_eq_getElem hlt)
    refine .inr ⟨g1, fun H => ∃ T S acc ys, T.hid = Dl :: T1.hid ∧ Step T1 H1 ⟨T.loc, T1.hid⟩ H ∧ Sim K mg T S H ∧ H Dl = some (.lst acc) ∧ RepL K T H acc ys ∧
      Out K mg Wx (Rep K) T1 g H1 ((lcL2 gm tt mi1 vs1 gm1 tt1 te (wipeE r vs) (ds.drop (i + 1)) S).bind fun zs S2 => lcFin (ys ++ zs) S2) Q, fun H3 q => ?_, fun x H3 y => ?_⟩
    · obtain ⟨T3, S3, acc3, ys3, q1, q2, q3, q4, q5, q7⟩ := q
      exact ⟨ds.length - (i + 1), by omega, T3, S3, acc3, ys3, rfl, hlt, q1, q2, q3, q4, q5, q7⟩
    · obtain ⟨st3, sim3, rep3⟩ := yl x H3 y
      simp only [lcL2] at ho
      obtain ⟨eh3, op3⟩ := opn eh st2 st3
      have hid3 : Dl ∈ T2.hid := by rw [eh]; exact List.mem_cons_self
      split at ho
      · exact ho.elim
      · rename_i r1 eg
        refine ⟨T2, wipeE r vs, S2, ds[i], r1, ((rs1.wipe vs).kp kp2).step st3, sim3, rep3, eg, fun g4 rs4 lg kg => ⟨wipe_same hsl (by rw [lg, wipe_length]) kg, T2, r1, S2, rs4, sim3, ?_⟩⟩
        rw [R.bind_assoc] at ho
        refine lc_bind ho fun b S4 T4 H4 v st4 sim4 rel4 ho4 => ?_
        subst rel4
        obtain ⟨eh4, op4⟩ := opn eh3 op3 st4
        have hid4 : Dl ∈ T4.hid := by rw [eh4]; exact List.mem_cons_self
        have hD4 : H4 Dl = some (.lst acc) := (st4.hkeep Dl hid3).trans ((st3.hkeep Dl hid3).trans hD2)
        cases v with
        | false =>
          rw [if_neg Bool.false_ne_true] at ho4 ⊢
          exact ⟨T4, S4, acc, ys, eh4, op4, sim4, hD4, ra.step (st3.trans st4), ho4⟩
        | true =>
          rw [if_pos rfl, R.bind_assoc] at ho4
          rw [if_pos rfl]
          -- the inner for
          refine ⟨T4, r1, S4, rs4.step st4, sim4, lc_bind ho4 fun es S5 T5 H5 J1 st5 sim5 rel5 ho5 => ?_⟩
          obtain ⟨wk1, hz1⟩ := rel5
          obtain ⟨eh5, op5⟩ := opn eh4 op4 st5
          have rs5 : RepSt K T5 H5 r1 g4 := (rs4.step st4).step st5
          refine ⟨fun j k H => ∃ T S acc ys, k = es.length - j ∧ j ≤ es.length ∧ T.hid = Dl :: T1.hid ∧ Step T1 H1 ⟨T.loc, T1.hid⟩ H ∧ Kf T5 H5 T H ∧ Sim K mg T S H ∧ H Dl = some (.lst acc) ∧ RepL K T H acc ys ∧
            Out K mg Wx (Rep K) T1 g H1 (((lcL gm1 tt1 te (wipeE r1 vs1) (es.drop j) S).bind fun ys S3 => (lcL2 gm tt mi1 vs1 gm1 tt1 te (wipeE r vs) (ds.drop (i + 1)) S3).bind fun zs S4 => .ok (ys ++ zs) S4).bind fun zs S2 => lcFin (ys ++ zs) S2) Q,
            ⟨es.length, T5, S5, acc, ys, by simp, Nat.zero_le _, eh5, op5, (Step.refl T5 H5).kf, sim5, (st5.hkeep Dl hid4).trans hD4, ra.step ((st3.trans st4).trans st5), by rw [List.drop_zero]; exact ho5⟩, ?_⟩
          rintro j k H6 ⟨T6, S6, acc6, ys6, rfl, hj, eh6, st6, kp6, sim6, hD6, ra6, ho6⟩
          obtain ⟨stop1, go1⟩ := wk1 T6 S6 H6 kp6 sim6
          by_cases hlt1 : j < es.length
          · have ed1 : es.drop j = es[j] :: es.drop (j + 1) := List.drop_eq_getElem_cons hlt1
            rw [ed1] at ho6
            obtain ⟨g7, yl1⟩ := go1 j es[j] (List.getElem?_eq_getElem hlt1)
            refine .inr ⟨g7, fun H => ∃ T S acc ys, T.hid = Dl :: T1.hid ∧ Step T1 H1 ⟨T.loc, T1.hid⟩ H ∧ Kf T5 H5 T H ∧ Sim K mg T S H ∧ H Dl = some (.lst acc) ∧ RepL K T H acc ys ∧
              Out K mg Wx (Rep K) T1 g H1 (((lcL gm1 tt1 te (wipeE r1 vs1) (es.drop (j + 1)) S).bind fun ys S3 => (lcL2 gm tt mi1 vs1 gm1 tt1 te (wipeE r vs) (ds.drop (i + 1)) S3).bind fun zs S4 => .ok (ys ++ zs) S4).bind fun zs S2 => lcFin (ys ++ zs) S2) Q, fun H7 q => ?_, fun x7 H7 y7 => ?_⟩
            · obtain ⟨T8, S8, acc8, ys8, q1, q2, q3, q4, q5, q6, q7⟩ := q
              exact ⟨es.length - (j + 1), by omega, T8, S8, acc8, ys8, rfl, hlt1, q1, q2, q3, q4, q5, q6, q7⟩
            · obtain ⟨st7, sim7, rep7⟩ := yl1 x7 H7 y7
              have noe := noE_bind (noE_lcL (gm := gm1) (tt := tt1) (te := te) (r0 := wipeE r1 vs1) (es[j] :: es.drop (j + 1)) S6) fun ys S3 => noE_bind (noE_lcL2 (gm := gm) (tt := tt) (mi1 := mi1) (vs1 := vs1) (gm1 := gm1) (tt1 := tt1) (te := te) (r0 := wipeE r vs) (ds.drop (i + 1)) S3) fun zs S4 => noE_ok (ys ++ zs) S4
              obtain ⟨zz, Sz, ez, hzz⟩ := fin_bound noe ho6
              simp only [lcL] at ho6 ez
              obtain ⟨eh7, op7⟩ := opn eh6 st6 st7
              have hid7 : Dl ∈ T6.hid := by rw [eh6]; exact List.mem_cons_self
              split at ho6
              · exact ho6.elim
              · rename_i r8 eg8
                rw [eg8] at ez
                simp only at ez
                refine ⟨T6, wipeE r1 vs1, S6, es[j], r8, ((rs5.wipe vs1).kp kp6.toKp).step st7, sim7, rep7, eg8, fun g9 rs9 lg9 kg9 => ⟨wipe_same hsl1 (by rw [lg9, wipe_length]) kg9, T6, r8, S6, rs9, sim7, ?_⟩⟩
                rw [R.bind_assoc, R.bind_assoc] at ho6
                refine lc_bind (x := tt1 r8 S6) ho6 fun b S9 T9 H9 v st9 sim9 rel9 ho9 => ?_
                subst rel9
                obtain ⟨eh9, op9⟩ := opn eh7 op7 st9
                have hid9 : Dl ∈ T9.hid := by rw [eh9]; exact List.mem_cons_self
                have hD9 : H9 Dl = some (.lst acc6) := (st9.hkeep Dl hid7).trans ((st7.hkeep Dl hid7).trans hD6)
                cases v with
                | false =>
                  rw [if_neg Bool.false_ne_true] at ho9 ⊢
                  exact ⟨T9, S9, acc6, ys6, eh9, op9, kp6.trans (st7.trans st9).kf, sim9, hD9, ra6.step (st7.trans st9), by rw [R.bind_assoc]; exact ho9⟩
                | true =>
                  rw [if_pos rfl, R.bind_assoc] at ho9
                  rw [if_pos rfl]
                  refine ⟨T9, r8, S9, rs9.step st9, sim9, lc_bind ho9 fun yd Sa Ta Ha yv sta sima rela hoa => ?_⟩
                  obtain ⟨eha, opa⟩ := opn eh9 op9 sta
                  have hida : Dl ∈ Ta.hid := by rw [eha]; exact List.mem_cons_self
                  have raa : RepL K Ta Ha acc6 ys6 := ra6.step ((st7.trans st9).trans sta)
                  have e5 : (fun zs S2 => lcFin (ys6 ++ [yd] ++ zs) S2) = fun zs S2 => (R.ok (yd :: zs) S2).bind fun zs S2 => lcFin (ys6 ++ zs) S2 := by
                    funext zs S2
                    show _ = lcFin (ys6 ++ (yd :: zs)) S2
                    rw [List.append_assoc]
                    rfl
                  have hoa' : Out K mg Wx (Rep K) T1 g H1 (((lcL gm1 tt1 te (wipeE r1 vs1) (es.drop (j + 1)) Sa).bind fun ys S3 => (lcL2 gm tt mi1 vs1 gm1 tt1 te (wipeE r vs) (ds.drop (i + 1)) S3).bind fun zs S4 => .ok (ys ++ zs) S4).bind fun zs S2 => lcFin (ys6 ++ [yd] ++ zs) S2) Q := by
                    have e6 : ((lcL gm1 tt1 te (wipeE r1 vs1) (es.drop (j + 1)) Sa).bind fun ys S3 => (lcL2 gm tt mi1 vs1 gm1 tt1 te (wipeE r vs) (ds.drop (i + 1)) S3).bind fun zs S4 => R.ok (ys ++ zs) S4).bind (fun zs S2 => lcFin (ys6 ++ [yd] ++ zs) S2) =
                        ((lcL gm1 tt1 te (wipeE r1 vs1) (es.drop (j + 1)) Sa).bind fun ys S3 => R.ok (yd :: ys) S3).bind fun a S => ((lcL2 gm tt mi1 vs1 gm1 tt1 te (wipeE r vs) (ds.drop (i + 1)) S).bind fun zs S4 => R.ok (a ++ zs) S4).bind fun zs S2 => lcFin (ys6 ++ zs) S2 := by
                      cases lcL gm1 tt1 te (wipeE r1 vs1) (es.drop (j + 1)) Sa with
                      | bad => rfl
                      | exc n S => rfl
                      | ok q Sq =>
                        show (((lcL2 gm tt mi1 vs1 gm1 tt1 te (wipeE r vs) (ds.drop (i + 1)) Sq).bind fun zs S4 => R.ok (q ++ zs) S4).bind fun zs S2 => lcFin (ys6 ++ [yd] ++ zs) S2) = (((lcL2 gm tt mi1 vs1 gm1 tt1 te (wipeE r vs) (ds.drop (i + 1)) Sq).bind fun zs S4 => R.ok (yd :: q ++ zs) S4).bind fun zs S2 => lcFin (ys6 ++ zs) S2)
                        cases lcL2 gm tt mi1 vs1 gm1 tt1 te (wipeE r vs) (ds.drop (i + 1)) Sq with
                        | bad => rfl
                        | exc n S => rfl
                        | ok q2 Sq2 =>
                          show lcFin (ys6 ++ [yd] ++ (q ++ q2)) Sq2 = lcFin (ys6 ++ (yd :: q ++ q2)) Sq2
                          simp
                    rw [e6]
                    exact hoa
                  have noea := noE_bind (noE_lcL (gm := gm1) (tt := tt1) (te := te) (r0 := wipeE r1 vs1) (es.drop (j + 1)) Sa) fun ys S3 => noE_bind (noE_lcL2 (gm := gm) (tt := tt) (mi1 := mi1) (vs1 := vs1) (gm1 := gm1) (tt1 := tt1) (te := te) (r0 := wipeE r vs) (ds.drop (i + 1)) S3) fun zs S4 => noE_ok (ys ++ zs) S4
                  obtain ⟨za, Sz2, _, hza⟩ := fin_bound noea hoa'
                  rw [List.length_append, List.length_singleton] at hza
                  have hal : acc6.length + 1 ≤ sizeLine := by rw [raa.length]; exact sz5 (by omega)
                  have hla : HLen (upd Ha Dl (.lst (acc6 ++ [yv]))) := hlen_lst sima.hl (by rw [List.length_append, List.length_singleton]; exact hal)
                  obtain ⟨kpa, simb⟩ := sima.setHid (u := .lst (acc6 ++ [yv])) hida hla
                  refine ⟨acc6, (sta.hkeep Dl hid9).trans hD9, hal, Ta, Sa, acc6 ++ [yv], ys6 ++ [yd], eha, ⟨opa.ext, rfl, fun b hb => ?_, fun b u n q => ?_, opa.new⟩, (kp6.trans ((st7.trans st9).trans sta).kf).trans kpa, simb, upd_same, RepL.append (raa.kp kpa.toKp) (.cons (rela.kp kpa.toKp) .nil), hoa'⟩
                  · rw [upd_ne fun e => sim1.hid b hb (by rw [e]; exact hD)]
                    exact opa.hkeep b hb
                  · rw [upd_ne (ne_of_none q hD)]
                    exact opa.keep b u n q
          · have e : j = es.length := by omega
            subst e
            rw [List.drop_length] at ho6
            refine .inl ⟨stop1, T6, S6, acc6, ys6, eh6, st6, sim6, hD6, ra6, ?_⟩
            have e7 : (lcL gm1 tt1 te (wipeE r1 vs1) [] S6).bind (fun ys S3 => (lcL2 gm tt mi1 vs1 gm1 tt1 te (wipeE r vs) (ds.drop (i + 1)) S3).bind fun zs S4 => R.ok (ys ++ zs) S4) = lcL2 gm tt mi1 vs1 gm1 tt1 te (wipeE r vs) (ds.drop (i + 1)) S6 := by
              show (lcL2 gm tt mi1 vs1 gm1 tt1 te (wipeE r vs) (ds.drop (i + 1)) S6).bind (fun zs S4 => R.ok zs S4) = _
              cases lcL2 gm tt mi1 vs1 gm1 tt1 te (wipeE r vs) (ds.drop (i + 1)) S6 <;> rfl
            rw [e7] at ho6
            exact ho6
  · have e : i = ds.length := by omega
    subst e
    rw [List.drop_length] at ho
    have ho : Out K mg Wx (Rep K) T1 g H1 (lcFin (ys ++ []) S2) Q := ho
    unfold lcFin at ho
    split at ho
    · refine .inl ⟨stop, ho ⟨T2.loc, T1.hid⟩ H2 _ st2 ?_ ?_⟩
      · have h9 := sim2
        obtain ⟨l2, h2⟩ := T2
        cases eh
        exact h9.unhide
      · obtain ⟨l2, h2⟩ := T2
        cases eh
        rw [List.append_nil]
        refine .lst hD2 ⟨fun z => ?_, fun z => ?_⟩ (ra.kp kp_unhide)
        · exact sim2.apart z List.mem_cons_self
        · have nd := (List.nodup_append.mp sim2.nd).2.1
          exact (List.nodup_cons.mp nd).1 z
    · exact ho.elim
theorem j_lc2 (hsl : ∀ i ∈ sl, i ∈ own.map (·.2)) (hsl1 : ∀ i ∈ sl1, i ∈ vs1) (hv : ∀ i ∈ vs1, i ∈ own.map (·.2)) (hc : X.calm = true) (hN : X.N.Nodup) (hi : PI X tg iter (iD X.K X.mg Wx mi)) (ok : BlkOk X.N X.env.scope scope own)
    (hg : ∀ (s : Shared) (H : Hp) (C : Addr) (cl : List (Str × Addr)) (fp : List Addr), PG (X.blk s H scope (compEnvC scope cl C X.env) fp) tg (gD X.K X.mg sl gm)) (ht : ∀ (s : Shared) (H : Hp) (C : Addr) (cl : List (Str × Addr)) (fp : List Addr), PTs (X.blk s H scope (compEnvC scope cl C X.env) fp) ifs (tDT X.K X.mg W0 tt))
    (hi1 : ∀ (s : Shared) (H : Hp) (C : Addr) (cl : List (Str × Addr)) (fp : List Addr), PI (X.blk s H scope (compEnvC scope cl C X.env) fp) tg1 iter1 (iD X.K X.mg W0 mi1))
    (hg1 : ∀ (s : Shared) (H : Hp) (C : Addr) (cl : List (Str × Addr)) (fp : List Addr), PG (X.blk s H scope (compEnvC scope cl C X.env) fp) tg1 (gD X.K X.mg sl1 gm1)) (ht1 : ∀ (s : Shared) (H : Hp) (C : Addr) (cl : List (Str × Addr)) (fp : List Addr), PTs (X.blk s H scope (compEnvC scope cl C X.env) fp) ifs1 (tDT X.K X.mg W0 tt1))
    (he : ∀ (s : Shared) (H : Hp) (C : Addr) (cl : List (Str × Addr)) (fp : List Addr), PE (X.blk s H scope (compEnvC scope cl C X.env) fp) elt (tD X.K X.mg W0 te)) (hs : ∀ x, foldedSetIterable iter X.env x = pure x := by intro _; rfl) (hs1 : ∀ env x, foldedSetIterable iter1 env x = pure x := by intro _ _; rfl) :
    PE X (.ListComp elt [⟨tg, iter, ifs, 0⟩, ⟨tg1, iter1, ifs1, 0⟩] scope pos) (tD X.K X.mg Wx (mLc2 mi (own.map (·.2)) gm tt mi1 vs1 gm1 tt1 te)) := pe_imp (pe_lc2 hc hN hi ok hv hg ht hi1 hg1 ht1 he hs hs1) (tLc2_of hsl hsl1)
end
end Dv
namespace Dv
open PySem L2
def keyOf : D → Option Key
  | .int i => some (.inl i)
  | .str x => some (.inr x)
  | _ => none
@[simp] theorem keyOf_int (i : Int) : keyOf (.int i) = some (.inl i) := rfl
@[simp] theorem keyOf_str (x : Str) : keyOf (.str x) = some (.inr x) := rfl
def valKD (kds : List (Key × D)) (k : Key) : Option D := (kds.find? fun kv => decide (kv.1 = k)).map (·.2)
def putKD (kds : List (Key × D)) (k : Key) (d : D) : List (Key × D) :=
  if (kds.any fun kv => decide (kv.1 = k)) = true then kds.map fun kv => if kv.1 = k then (kv.1, d) else kv else kds ++ [(k, d)]
section
variable {K : PySem.W.Frag} {mg : Str → Option Value} {T : Tb} {H : Hp} {S : Store}
theorem key_rep {v : V} {d : D} {k : Key} (h : Rep K T H v d) (e : keyOf d = some k) : v = kV k := by
  cases h <;> cases e <;> rfl
def RepK (K : PySem.W.Frag) (T : Tb) (H : Hp) (kvs : List (Key × V)) (kds : List (Key × D)) : Prop := kvs.map (·.1) = kds.map (·.1) ∧ RepL K T H (kvs.map (·.2)) (kds.map (·.2))
theorem RepK.nil : RepK K T H [] [] := ⟨rfl, .nil⟩
theorem RepK.uncons {kvs : List (Key × V)} {k : Key} {d : D} {kds : List (Key × D)} (h : RepK K T H kvs ((k, d) :: kds)) : ∃ v r, kvs = (k, v) :: r ∧ Rep K T H v d ∧ RepK K T H r kds := by
  obtain ⟨h1, h2⟩ := h
  cases kvs with
  | nil => cases h1
  | cons p r =>
    obtain ⟨k', v⟩ := p
    rw [List.map_cons, List.map_cons, List.cons.injEq] at h1
    obtain ⟨rfl, h1⟩ := h1
    cases h2 with
    | cons a b => exact ⟨v, r, rfl, a, h1, b⟩
theorem RepK.cons {kvs : List (Key × V)} {k : Key} {v : V} {d : D} {kds : List (Key × D)} (a : Rep K T H v d) (h : RepK K T H kvs kds) : RepK K T H ((k, v) :: kvs) ((k, d) :: kds) := ⟨by rw [List.map_cons, List.map_cons, h.1], .cons a h.2⟩
theorem RepK.kp {T' : Tb} {H' : Hp} {kvs : List (Key × V)} {kds : List (Key × D)} (s : Kp T H T' H') (h : RepK K T H kvs kds) : RepK K T' H' kvs kds := ⟨h.1, h.2.kp s⟩
theorem RepK.step {T' : Tb} {H' : Hp} {kvs : List (Key × V)} {kds : List (Key × D)} (s : Step T H T' H') (h : RepK K T H kvs kds) : RepK K T' H' kvs kds := h.kp s.kp
theorem RepK.length {kvs : List (Key × V)} {kds : List (Key × D)} (h : RepK K T H kvs kds) : kvs.length = kds.length := by
  have := congrArg List.length h.1
  simpa using this
theorem RepK.val (k : Key) : ∀ {kds : List (Key × D)} {kvs : List (Key × V)}, RepK K T H kvs kds → (valV kvs k = none ∧ valKD kds k = none) ∨ ∃ v d, valV kvs k = some v ∧ valKD kds k = some d ∧ Rep K T H v d
  | [], kvs, h => by
    have : kvs = [] := List.eq_nil_of_length_eq_zero (by rw [h.length]; rfl)
    subst this
    exact .inl ⟨rfl, rfl⟩
  | (k', d) :: kds, kvs, h => by
    obtain ⟨v, r, rfl, a, b⟩ := h.uncons
    by_cases e : k' = k
    · refine .inr ⟨v, d, valV_pos e, ?_, a⟩
      unfold valKD
      simp [List.find?_cons, e]
    · have e2 : valKD ((k', d) :: kds) k = valKD kds k := by
        unfold valKD
        simp [List.find?_cons, e]
      rw [valV_neg (p := (k', v)) e, e2]
      exact b.val k
theorem RepK.any (k : Key) : ∀ {kds : List (Key × D)} {kvs : List (Key × V)}, RepK K T H kvs kds → (kvs.any fun kv => decide (kv.1 = k)) = kds.any fun kv => decide (kv.1 = k)
  | [], kvs, h => by
    have : kvs = [] := List.eq_nil_of_length_eq_zero (by rw [h.length]; rfl)
    subst this
    rfl
  | (k', d) :: kds, kvs, h => by
    obtain ⟨v, r, rfl, a, b⟩ := h.uncons
    rw [List.any_cons, List.any_cons, b.any k]
theorem RepK.repl {v : V} {d : D} (rv : Rep K T H v d) (k : Key) : ∀ {kds : List (Key × D)} {kvs : List (Key × V)}, RepK K T H kvs kds → RepK K T H (kvs.map fun kv => if kv.1 = k then (kv.1, v) else kv) (kds.map fun kv => if kv.1 = k then (kv.1, d) else kv)
  | [], kvs, h => by
    have : kvs = [] := List.eq_nil_of_length_eq_zero (by rw [h.length]; rfl)
    subst this
    exact .nil
  | (k', d') :: kds, kvs, h => by
    obtain ⟨v', r, rfl, a, b⟩ := h.uncons
    rw [List.map_cons, List.map_cons]
    by_cases e : k' = k
    · simp only [e, if_true]
      exact .cons rv (b.repl rv k)
    · simp only [e, if_false]
      exact .cons a (b.repl rv k)
theorem RepK.snoc {v : V} {d : D} {k : Key} {kds : List (Key × D)} {kvs : List (Key × V)} (h : RepK K T H kvs kds) (rv : Rep K T H v d) : RepK K T H (kvs ++ [(k, v)]) (kds ++ [(k, d)]) := ⟨by rw [List.map_append, List.map_append, h.1]; rfl, by
  rw [List.map_append, List.map_append]
  exact RepL.append h.2 (.cons rv .nil)⟩
theorem RepK.put {v : V} {d : D} {kds : List (Key × D)} {kvs : List (Key × V)} (h : RepK K T H kvs kds) (k : Key) (rv : Rep K T H v d) : RepK K T H (putK kvs k v) (putKD kds k d) := by
  unfold putK putKD
  rw [h.any k]
  split
  · exact h.repl rv k
  · exact h.snoc rv
def dctAt (d : D) (S : Store) : Option (List (Key × D)) := match d with
  | .dct kds => some kds
  | .loc n => match S[n]? with
    | some (.dct kds) => some kds
    | _ => none
  | _ => none
@[simp] theorem dctAt_dct (kds : List (Key × D)) (S : Store) : dctAt (.dct kds) S = some kds := rfl
@[simp] theorem dctAt_loc (n : Nat) (S : Store) : dctAt (.loc n) S = (match S[n]? with
    | some (.dct kds) => some kds
    | _ => none) := rfl
theorem dctAt_rep {v : V} {d : D} {kds : List (Key × D)} (sim : Sim K mg T S H) (r : Rep K T H v d) (e : dctAt d S = some kds) : ∃ a kvs, v = .ref a ∧ Rd H a (.dK kvs) ∧ RepK K T H kvs kds := by
  cases r with
  | dct h n e' r' =>
    cases e
    exact ⟨_, _, rfl, h, e', r'⟩
  | @loc a n h =>
    simp only [dctAt] at e
    split at e
    · rename_i ys hs
      cases e
      obtain ⟨kvs, h1, h2, h3⟩ := sim.obj n a _ h hs
      exact ⟨a, kvs, rfl, .inl h1, h2, h3⟩
    · cases e
  | _ => cases e
end
def dgetD (a b : D) (S : Store) : Option D := match dctAt a S, keyOf b with
  | some kds, some k => valKD kds k
  | _, _ => none
section
variable {X : Cx} {Wx : WX} {o i e f : Expr} {pos apos cpos : Pos} {mo mi mx : EM}
theorem j_dget (hu : X.A.units + 64 < cLine) (hs : NoSl i) (ho : PE X o (tD X.K X.mg Wx mo)) (hi : PE X i (tD X.K X.mg Wx mi)) : PE X (.Subscript o i pos) (tD X.K X.mg Wx (mBin dgetD mo mi)) := by
  refine pe_imp (pe_dget (by omega) ho hi hs) fun g H Q h => ?_
  obtain ⟨T, r, S, rs, sim, h⟩ := h
  refine ⟨T, r, S, rs, sim, Out.bind h fun x S1 T1 H1 v st sim1 rel h1 => ?_⟩
  refine ⟨T1, r, S1, rs.step st, sim1, Out.bind h1 fun y S2 T2 H2 w st2 sim2 rel2 h2 => ?_⟩
  refine Out.use h2 fun d e k => ?_
  unfold dgetD at e
  split at e
  · rename_i kds key e1 e2
    obtain ⟨a, kvs, rfl, hr, rk⟩ := dctAt_rep sim2 (rel.step st2) e1
    have ew := key_rep rel2 e2
    subst ew
    rcases rk.val key with ⟨_, z⟩ | ⟨v', d', z1, z2, z3⟩
    · rw [z] at e
      cases e
    · rw [z2] at e
      cases e
      exact ⟨a, v', rfl, .inl ⟨kvs, key, hr, rfl, z1.symm⟩, k T2 H2 v' (Step.refl T2 H2) sim2 z3⟩
  · cases e
def mDGet2 (mo mi mx : EM) : EM := fun r S => (mo r S).bind fun o S1 => if (dctAt o S1).isSome = true then (mi r S1).bind fun y S2 => (mx r S2).bind fun z S3 => match dctAt o S3, keyOf y with
  | some kds, some k => .ok ((valKD kds k).getD z) S3
  | _, _ => .bad else .bad
theorem j_dget2 (hu : X.A.units + 64 < cLine) (ho : PE X o (tD X.K X.mg Wx mo)) (he : PE X e (tD X.K X.mg Wx mi)) (hf : PE X f (tD X.K X.mg Wx mx)) (m : M2 X o "get" apos e f cpos) : PE X (.Call (.Attribute o "get" apos) [e, f] [] cpos) (tD X.K X.mg Wx (mDGet2 mo mi mx)) := by
  refine pe_imp (pe_dget2 (by omega) ho he hf m) fun g H Q h => ?_
  obtain ⟨T, r, S, rs, sim, h⟩ := h
  refine ⟨T, r, S, rs, sim, Out.bind h fun x S1 T1 H1 v st sim1 rel h1 => ?_⟩
  by_cases hd : (dctAt x S1).isSome = true
  · rw [if_pos hd] at h1
    obtain ⟨kds0, e0⟩ := Option.isSome_iff_exists.mp hd
    obtain ⟨a, kvs0, rfl, hr0, _⟩ := dctAt_rep sim1 rel e0
    refine ⟨a, rfl, .inl ⟨kvs0, hr0⟩, T1, r, S1, rs.step st, sim1, Out.bind h1 fun y S2 T2 H2 w st2 sim2 rel2 h2 => ?_⟩
    refine ⟨T2, r, S2, (rs.step st).step st2, sim2, Out.bind h2 fun z S3 T3 H3 u st3 sim3 rel3 h3 => ?_⟩
    split at h3
    · rename_i kds key e1 e2
      obtain ⟨a', kvs, ea, hr, rk⟩ := dctAt_rep sim3 ((rel.step st2).step st3) e1
      cases ea
      have ew := key_rep rel2 e2
      subst ew
      refine ⟨valV kvs key, .inl ⟨kvs, key, hr, rfl, rfl⟩, h3 T3 H3 _ (Step.refl T3 H3) sim3 ?_⟩
      rcases rk.val key with ⟨z1, z2⟩ | ⟨v', d', z1, z2, z3⟩
      · rw [z1, z2]
        exact rel3
      · rw [z1, z2]
        exact z3
    · exact h3.elim
  · rw [if_neg hd] at h1
    exact h1.elim
end
end Dv
namespace Dv
open PySem L2
def dcL (gm : D → Env → Option Env) (tt : BM) (tk tv : EM) (r0 : Env) : List D → List (Key × D) → Store → R (List (Key × D))
  | [], acc, S => .ok acc S
  | d :: ds, acc, S => match gm d r0 with
    | none => .bad
    | some r1 => (nox (tt r1 S)).bind fun b S1 => if b = true then (nox (tk r1 S1)).bind fun k S2 => (nox (tv r1 S2)).bind fun v S3 => match keyOf k with
        | some key => if acc.length < 90000 then dcL gm tt tk tv r0 ds (putKD acc key v) S3 else .bad
        | none => .bad
      else dcL gm tt tk tv r0 ds acc S1
def dFin (nw : Bool) (kds : List (Key × D)) (S : Store) : R D := match nw with
  | true => .ok (.loc S.length) (S ++ [.dct kds])
  | false => .ok (.dct kds) S
@[simp] theorem dFin_t (kds : List (Key × D)) (S : Store) : dFin true kds S = .ok (.loc S.length) (S ++ [.dct kds]) := rfl
@[simp] theorem dFin_f (kds : List (Key × D)) (S : Store) : dFin false kds S = .ok (.dct kds) S := rfl
def mDc (nw : Bool) (mi : IM) (vs : List Nat) (gm : D → Env → Option Env) (tt : BM) (tk tv : EM) : EM := fun r S => (mi r S).bind fun ds S1 => (dcL gm tt tk tv (wipeE r vs) ds [] S1).bind fun kds S2 => dFin nw kds S2
@[simp] theorem mDc_ap {nw : Bool} {mi : IM} {vs : List Nat} {gm : D → Env → Option Env} {tt : BM} {tk tv : EM} {r : Env} {S : Store} : mDc nw mi vs gm tt tk tv r S = (mi r S).bind fun ds S1 => (dcL gm tt tk tv (wipeE r vs) ds [] S1).bind fun kds S2 => dFin nw kds S2 := rfl
theorem dcL_cons {gm : D → Env → Option Env} {tt : BM} {tk tv : EM} {r0 : Env} (d : D) (ds : List D) (acc : List (Key × D)) (S : Store) : dcL gm tt tk tv r0 (d :: ds) acc S = (match gm d r0 with
    | none => .bad
    | some r1 => (nox (tt r1 S)).bind fun b S1 => if b = true then (nox (tk r1 S1)).bind fun k S2 => (nox (tv r1 S2)).bind fun v S3 => match keyOf k with
        | some key => if acc.length < 90000 then dcL gm tt tk tv r0 ds (putKD acc key v) S3 else .bad
        | none => .bad
      else dcL gm tt tk tv r0 ds acc S1) := rfl
theorem nodict {H : Hp} {p : Addr} {kvs : List (Key × V)} (h : HLen H) : HLen (upd H p (.dK kvs)) := hlen_oth h fun xs => ⟨(by intro z; cases z), (by intro z; cases z), (by intro x z; cases z), (by intro x z; cases z)⟩
section
variable {K : PySem.W.Frag} {mg : Str → Option Value} {T : Tb} {H : Hp}
theorem Sim.unhideNew {S : Store} {p : Addr} {l h : List Addr} {o : O} (s : Sim K mg ⟨l, p :: h⟩ S H) (ho : ORep K mg ⟨l ++ [p], h⟩ H p o) : Sim K mg ⟨l ++ [p], h⟩ (S ++ [o]) H := by
  have h0 := List.nodup_append.mp s.nd
  have pl : p ∉ l := fun z => h0.2.2 p z p List.mem_cons_self rfl
  have kp : Kp ⟨l, p :: h⟩ H ⟨l ++ [p], h⟩ H := by
    have off : ∀ b, (Tb.mk l (p :: h)).off b → (Tb.mk (l ++ [p]) h).off b := fun b n => ⟨fun z => by
      rcases List.mem_append.mp z with z | z
      · exact n.1 z
      · exact n.2 (by rw [List.mem_singleton.mp z]; exact List.mem_cons_self), fun z => n.2 (List.mem_cons_of_mem _ z)⟩
    refine ⟨fun b _ _ n q => ⟨q, off b n⟩, fun b _ n q => ⟨q, off b n⟩, fun n a q => ?_⟩
    have q : l[n]? = some a := q
    show (l ++ [p])[n]? = some a
    rw [List.getElem?_append_left (List.getElem?_eq_some_iff.mp q).1]
    exact q
  have hlen : l.length = S.length := s.len
  refine ⟨by show (l ++ [p]).length = _; rw [List.length_append, List.length_append, hlen]; rfl, ?_, fun i a o' h1 h2 => ?_, fun a ha => s.hid' a (List.mem_cons_of_mem _ ha), s.hl⟩
  · show ((l ++ [p]) ++ h).Nodup
    rw [List.append_assoc]
    exact s.nd
  · have h1 : (l ++ [p])[i]? = some a := h1
    by_cases hi : i < l.length
    · rw [List.getElem?_append_left hi] at h1
      rw [List.getElem?_append_left (by omega)] at h2
      exact (s.obj i a o' h1 h2).kp kp rfl
    · rw [List.getElem?_append_right (by omega)] at h1
      rw [List.getElem?_append_right (by omega)] at h2
      have e : i - l.length = 0 := by
        rcases Nat.eq_zero_or_pos (i - l.length) with z | z
        · exact z
        · rw [List.getElem?_eq_none (by simp; omega)] at h1
          cases h1
      rw [e] at h1
      rw [← hlen, e] at h2
      cases h1
      cases h2
      exact ho
end
section
variable {X : Cx} {Wx : WX} {kx vx tg iter : Expr} {ifs : List Expr} {scope : Scope} {own : List (Str × Nat)} {pos : Pos} {mi : IM} {sl : List Nat} {gm : D → Env → Option Env} {tt : BM} {tk tv : EM} {nw : Bool}
theorem dc_of {K : PySem.W.Frag} {mg : Str → Option Value} {vs : List Nat} (hsl : ∀ i ∈ sl, i ∈ vs) {T1 : Tb} {H1 : Hp} {S1 : Store} {g : L2.St} {r : Env} {J : It} {ds : List D} {Q : VK} (sim1 : Sim K mg T1 S1 H1) (rs1 : RepSt K T1 H1 r g) (wk : Walks K mg T1 H1 J ds)
    (h1 : Out K mg Wx (Rep K) T1 g H1 ((dcL gm tt tk tv (wipeE r vs) ds [] S1).bind fun kds S2 => dFin nw kds S2) Q) :
    ∀ Dl, H1 Dl = none → ∃ W : Nat → Nat → Hp → Prop, (∃ m, W 0 m (upd H1 Dl (.dK []))) ∧ ∀ i m H, W i m H →
      (J.stop i H ∧ Q (.ref Dl) H) ∨ (J.go i H ∧ ∃ Nx : Hp → Prop, (∀ H', Nx H' → ∃ m', m' < m ∧ W (i + 1) m' H') ∧ ∀ x H', J.yld i H x H' → gD K mg sl gm x (wipe g vs) H' fun σ2 H2 => wipe σ2 vs = wipe g vs ∧ tDT K mg W0 tt σ2 H2 fun b H3 =>
        if b = true then tD K mg W0 tk σ2 H3 fun y H4 => tD K mg W0 tv σ2 H4 fun z H5 => ∃ kvs k, y = kV k ∧ H5 Dl = some (.dK kvs) ∧ kvs.length < sizeLine ∧ Nx (upd H5 Dl (.dK (putK kvs k z))) else Nx H3) := by
  intro Dl hD
  obtain ⟨kp0, simh⟩ := sim1.hide (u := .dK []) hD (nodict sim1.hl)
  have opn : ∀ {Ta Tb : Tb} {Ha Hb : Hp}, Ta.hid = Dl :: T1.hid → Step T1 H1 ⟨Ta.loc, T1.hid⟩ Ha → Step Ta Ha Tb Hb → Tb.hid = Dl :: T1.hid ∧ Step T1 H1 ⟨Tb.loc, T1.hid⟩ Hb := fun {Ta Tb Ha Hb} e1 s1 s2 => by
    refine ⟨s2.hid.trans e1, s1.trans ⟨s2.ext, rfl, fun b hb => s2.hkeep b (by rw [e1]; exact List.mem_cons_of_mem _ hb), fun b u n q => ?_, s2.new⟩⟩
    by_cases hb : b = Dl
    · subst hb
      rw [s2.hkeep b (by rw [e1]; exact List.mem_cons_self)]
      exact q
    · exact s2.keep b u ⟨n.1, fun z => by
        rw [e1] at z
        exact (List.mem_cons.mp z).elim hb n.2⟩ q
  refine ⟨fun i m H => ∃ T S acc ys, m = ds.length - i ∧ i ≤ ds.length ∧ T.hid = Dl :: T1.hid ∧ Step T1 H1 ⟨T.loc, T1.hid⟩ H ∧ Sim K mg T S H ∧ H Dl = some (.dK acc) ∧ RepK K T H acc ys ∧
    Out K mg Wx (Rep K) T1 g H1 ((dcL gm tt tk tv (wipeE r vs) (ds.drop i) ys S).bind fun kds S2 => dFin nw kds S2) Q, ⟨ds.length, T1.hide Dl, S1, [], [], by simp, Nat.zero_le _, rfl, sim1.stepNew hD, simh, upd_same, .nil, h1⟩, ?_⟩
  rintro i m H2 ⟨T2, S2, acc, ys, rfl, hi, eh, st2, sim2, hD2, ra, ho⟩
  have off2 : ∀ b, T1.off b → H1 b ≠ none → T2.off b := fun b n q => ⟨(st2.out q n).1, fun z => by
    rw [eh] at z
    rcases List.mem_cons.mp z with z | z
    · exact q (by rw [z]; exact hD)
    · exact n.2 z⟩
  have kf2 : Kf T1 H1 T2 H2 := ⟨⟨fun b u k n q => ⟨st2.keep b u n q, off2 b n (some_ne q)⟩, fun b u n q => ⟨st2.rd q n, off2 b n (rd_some q)⟩, fun n a q => st2.get q⟩, fun b o u n q => ⟨st2.keep b _ n q, off2 b n (some_ne q)⟩⟩
  obtain ⟨stop, go⟩ := wk T2 S2 H2 kf2 sim2
  by_cases hlt : i < ds.length
  · have ed : ds.drop i = ds[i] :: ds.drop (i + 1) := List.drop_eq_getElem_cons hlt
    rw [ed, dcL_cons] at ho
    obtain ⟨g1, yl⟩ := go i ds[i] (List.getElem?_eq_getElem hlt)
    refine .inr ⟨g1, fun H => ∃ T S acc ys, T.hid = Dl :: T1.hid ∧ Step T1 H1 ⟨T.loc, T1.hid⟩ H ∧ Sim K mg T S H ∧ H Dl = some (.dK acc) ∧ RepK K T H acc ys ∧
      Out K mg Wx (Rep K) T1 g H1 ((dcL gm tt tk tv (wipeE r vs) (ds.drop (i + 1)) ys S).bind fun kds S2 => dFin nw kds S2) Q, fun H3 q => ?_, fun x H3 y => ?_⟩
    · obtain ⟨T3, S3, acc3, ys3, q1, q2, q3, q4, q5, q7⟩ := q
      exact ⟨ds.length - (i + 1), by omega, T3, S3, acc3, ys3, rfl, hlt, q1, q2, q3, q4, q5, q7⟩
    · obtain ⟨st3, sim3, rep3⟩ := yl x H3 y
      obtain ⟨eh3, op3⟩ := opn eh st2 st3
      have hid3 : Dl ∈ T2.hid := by rw [eh]; exact List.mem_cons_self
      split at ho
      · exact ho.elim
      · rename_i r1 eg
        refine ⟨T2, wipeE r vs, S2, ds[i], r1, ((rs1.wipe vs).kp kf2.toKp).step st3, sim3, rep3, eg, fun g4 rs4 lg kg => ⟨wipe_same hsl (by rw [lg, wipe_length]) kg, T2, r1, S2, rs4, sim3, ?_⟩⟩
        rw [R.bind_assoc] at ho
        refine lc_bind ho fun b S4 T4 H4 v st4 sim4 rel4 ho4 => ?_
        subst rel4
        obtain ⟨eh4, op4⟩ := opn eh3 op3 st4
        have hid4 : Dl ∈ T4.hid := by rw [eh4]; exact List.mem_cons_self
        have hD4 : H4 Dl = some (.dK acc) := (st4.hkeep Dl hid3).trans ((st3.hkeep Dl hid3).trans hD2)
        cases v with
        | false =>
          rw [if_neg Bool.false_ne_true] at ho4 ⊢
          exact ⟨T4, S4, acc, ys, eh4, op4, sim4, hD4, ra.step (st3.trans st4), ho4⟩
        | true =>
          rw [if_pos rfl, R.bind_assoc] at ho4
          rw [if_pos rfl]
          refine ⟨T4, r1, S4, rs4.step st4, sim4, lc_bind ho4 fun kd S5 T5 H5 kv st5 sim5 rel5 ho5 => ?_⟩
          obtain ⟨eh5, op5⟩ := opn eh4 op4 st5
          have hid5 : Dl ∈ T5.hid := by rw [eh5]; exact List.mem_cons_self
          rw [R.bind_assoc] at ho5
          refine ⟨T5, r1, S5, (rs4.step st4).step st5, sim5, lc_bind ho5 fun vd S6 T6 H6 vv st6 sim6 rel6 ho6 => ?_⟩
          obtain ⟨eh6, op6⟩ := opn eh5 op5 st6
          have hid6 : Dl ∈ T6.hid := by rw [eh6]; exact List.mem_cons_self
          split at ho6
          · rename_i key ek
            split at ho6
            · rename_i hlt6
              have ekv := key_rep (rel5.step st6) ek
              subst ekv
              have ra6 : RepK K T6 H6 acc ys := ra.step (((st3.trans st4).trans st5).trans st6)
              have hal : acc.length + 1 ≤ sizeLine := by rw [ra6.length]; exact sz5 (by omega)
              obtain ⟨kp7, sim7⟩ := sim6.setHid (u := .dK (putK acc key vv)) hid6 (nodict sim6.hl)
              refine ⟨acc, key, rfl, (st6.hkeep Dl hid5).trans ((st5.hkeep Dl hid4).trans hD4), hal, T6, S6, putK acc key vv, putKD ys key vd, eh6, ⟨op6.ext, rfl, fun b hb => ?_, fun b u n q => ?_, op6.new⟩, sim7, upd_same, (ra6.put key rel6).kp kp7.toKp, ho6⟩
              · rw [upd_ne fun e => sim1.hid b hb (by rw [e]; exact hD)]
                exact op6.hkeep b hb
              · rw [upd_ne (ne_of_none q hD)]
                exact op6.keep b u n q
            · exact ho6.elim
          · exact ho6.elim
  · have e : i = ds.length := by omega
    subst e
    rw [List.drop_length] at ho
    have ho : Out K mg Wx (Rep K) T1 g H1 (dFin nw ys S2) Q := ho
    have pl : Dl ∉ T2.loc := fun z => sim2.apart z (by rw [eh]; exact List.mem_cons_self)
    have ph : Dl ∉ T1.hid := fun z => by
      have nd := (List.nodup_append.mp sim2.nd).2.1
      rw [eh] at nd
      exact (List.nodup_cons.mp nd).1 z
    refine .inl ⟨stop, ?_⟩
    obtain ⟨l2, h2⟩ := T2
    cases eh
    cases nw with
    | false => exact ho ⟨l2, T1.hid⟩ H2 _ st2 sim2.unhide (.dct (.inl hD2) ⟨pl, ph⟩ ra.1 (ra.2.kp kp_unhide))
    | true =>
      have off : ∀ b, (Tb.mk l2 (Dl :: T1.hid)).off b → (Tb.mk (l2 ++ [Dl]) T1.hid).off b := fun b n => ⟨fun z => by
        rcases List.mem_append.mp z with z | z
        · exact n.1 z
        · exact n.2 (by rw [List.mem_singleton.mp z]; exact List.mem_cons_self), fun z => n.2 (List.mem_cons_of_mem _ z)⟩
      have kp : Kp ⟨l2, Dl :: T1.hid⟩ H2 ⟨l2 ++ [Dl], T1.hid⟩ H2 := by
        refine ⟨fun b _ _ n q => ⟨q, off b n⟩, fun b _ n q => ⟨q, off b n⟩, fun n a q => ?_⟩
        have q : l2[n]? = some a := q
        show (l2 ++ [Dl])[n]? = some a
        rw [List.getElem?_append_left (List.getElem?_eq_some_iff.mp q).1]
        exact q
      have rk := ra.kp kp
      have st3 : Step T1 H1 ⟨l2 ++ [Dl], T1.hid⟩ H2 := by
        obtain ⟨m, em⟩ := st2.ext
        refine ⟨⟨m ++ [Dl], by show l2 ++ [Dl] = _; rw [← List.append_assoc]; exact congrArg (· ++ [Dl]) em⟩, rfl, st2.hkeep, st2.keep, fun a h n => ?_⟩
        rcases List.mem_append.mp h with h | h
        · exact st2.new a h n
        · rw [List.mem_singleton.mp h]
          exact hD
      have hlen : l2.length = S2.length := sim2.len
      refine ho ⟨l2 ++ [Dl], T1.hid⟩ H2 _ st3 (sim2.unhideNew ⟨acc, hD2, rk.1, rk.2⟩) (.loc ?_)
      show (l2 ++ [Dl])[S2.length]? = some Dl
      rw [← hlen, List.getElem?_append_right (Nat.le_refl _), Nat.sub_self]
      rfl
theorem j_dc (hsl : ∀ i ∈ sl, i ∈ own.map (·.2)) (hc : X.calm = true) (hN : X.N.Nodup) (hi : PI X tg iter (iD X.K X.mg Wx mi)) (ok : BlkOk X.N X.env.scope scope own)
    (hg : ∀ (s : Shared) (H : Hp) (C : Addr) (cl : List (Str × Addr)) (fp : List Addr), PG (X.blk s H scope (compEnvC scope cl C X.env) fp) tg (gD X.K X.mg sl gm)) (ht : ∀ (s : Shared) (H : Hp) (C : Addr) (cl : List (Str × Addr)) (fp : List Addr), PTs (X.blk s H scope (compEnvC scope cl C X.env) fp) ifs (tDT X.K X.mg W0 tt))
    (hk : ∀ (s : Shared) (H : Hp) (C : Addr) (cl : List (Str × Addr)) (fp : List Addr), PE (X.blk s H scope (compEnvC scope cl C X.env) fp) kx (tD X.K X.mg W0 tk))
    (he : ∀ (s : Shared) (H : Hp) (C : Addr) (cl : List (Str × Addr)) (fp : List Addr), PE (X.blk s H scope (compEnvC scope cl C X.env) fp) vx (tD X.K X.mg W0 tv)) (hs : ∀ x, foldedSetIterable iter X.env x = pure x := by intro _; rfl) :
    PE X (.DictComp kx vx [⟨tg, iter, ifs, 0⟩] scope pos) (tD X.K X.mg Wx (mDc nw mi (own.map (·.2)) gm tt tk tv)) := pe_imp (pe_dc hc hN hi ok hg ht hk he hs) fun g H Q h => by
  obtain ⟨T, r, S, rs, sim, h⟩ := h
  refine ⟨T, r, S, rs, sim, Out.bind h fun ds S1 T1 H1 J st sim1 rel h1 => ?_⟩
  exact dc_of hsl sim1 (rs.step st) rel.1 h1
end
end Dv
namespace Dv
open PySem PySem.Spec PyProof.Rows L2
section
variable {prog : Program} {w : World} {K : Type} [DecidableEq K] {knd : KeyKind prog w K} {A : Around} {E : Value → Shared → Prop} {s : Shared}
end
section
variable {X : Cx} {o e f : Expr} {apos cpos : Pos} {td ty tx : TE}
end
section
variable {X : Cx} {Wx : WX} {o i e f : Expr} {pos apos cpos : Pos} {mo mi mx : EM}
end
end Dv
namespace Dv
open PySem L2
section
variable {K : PySem.W.Frag} {mg : Str → Option Value} {T : Tb} {H : Hp} {S : Store}
theorem Sim.swap {a : Addr} {u : HO} (s : Sim K mg T S H) (n : T.off a) (kp : Kp T H T (upd H a u)) (hl : HLen (upd H a u)) : Sim K mg T S (upd H a u) :=
  ⟨s.len, s.nd, fun i b o h1 h2 => (s.obj i b o h1 h2).kp kp (upd_ne fun e => n.1 (by rw [← e]; exact List.mem_of_getElem? h1)), fun b hb => by
    rw [upd_ne fun e => n.2 (by rw [← e]; exact hb)]
    exact s.hid' b hb, hl⟩
end
section
variable {X : Cx} {Wx : WX} {kx vx : Expr} {ifs : List Expr} {scope : Scope} {own : List (Str × Nat)} {pos apos cpos npos tpos : Pos} {elts : List Expr} {kk : Nat} {sl : List Nat} {gm : D → Env → Option Env} {tt : BM} {tk tv : EM} {nw : Bool} {i : Nat} {x : Str}
end
end Dv
namespace Dv
open PySem PySem.Spec PyProof.Rows L2
def remI (k : Int) : List Int → Option (List Int)
  | [] => none
  | n :: ns => if n = k then some ns else (remI k ns).map (n :: ·)
theorem remI_some {k : Int} : ∀ {ns ms : List Int}, remI k ns = some ms → ∃ j, ns[j]? = some k ∧ (∀ m : Nat, m < j → ns[m]? ≠ some k) ∧ ns.eraseIdx j = ms
  | [], ms, h => by cases h
  | n :: ns, ms, h => by
    unfold remI at h
    by_cases e : n = k
    · rw [if_pos e] at h
      cases h
      exact ⟨0, by rw [e]; rfl, fun m hm => absurd hm (Nat.not_lt_zero _), rfl⟩
    · rw [if_neg e] at h
      obtain ⟨r, h1, h2⟩ := Option.map_eq_some_iff.mp h
      obtain ⟨j, q1, q2, q3⟩ := remI_some h1
      refine ⟨j + 1, q1, fun m hm => ?_, by rw [← h2, ← q3]; rfl⟩
      cases m with
      | zero =>
        intro z
        exact e (Option.some.inj z)
      | succ m => exact q2 m (by omega)
def remD (o d : D) (S : Store) : R D := match o, d with
  | .loc n, .int k => match S[n]? with
    | some (.lst xs) => match (intsOf xs).bind (remI k) with
      | some ms => .ok .non (List.set S n (.lst (ms.map D.int)))
      | none => .bad
    | _ => .bad
  | _, _ => .bad
def mRemove (mo m : EM) : EM := fun r S => (mo r S).bind fun o S1 => if isLoc o S1 = true then (m r S1).bind fun d S2 => remD o d S2 else .bad
def popAtD (o d : D) (S : Store) : R D := match o, d with
  | .loc n, .int i => match S[n]? with
    | some (.lst xs) => if 0 ≤ i ∧ i < 100000 then (match xs[i.toNat]? with
      | some y => .ok y (List.set S n (.lst (xs.eraseIdx i.toNat)))
      | none => .bad) else .bad
    | _ => .bad
  | _, _ => .bad
def mPopAt (mo m : EM) : EM := fun r S => (mo r S).bind fun o S1 => if isLoc o S1 = true then (m r S1).bind fun d S2 => popAtD o d S2 else .bad
theorem RepL.eraseIdx {K : PySem.W.Frag} {T : Tb} {H : Hp} : ∀ {vs : List V} {ds : List D} (j : Nat), RepL K T H vs ds → RepL K T H (vs.eraseIdx j) (ds.eraseIdx j)
  | _, _, _, .nil => .nil
  | _, _, 0, .cons a b => b
  | _, _, j + 1, .cons a b => .cons a (RepL.eraseIdx j b)
section
variable {X : Cx} {Wx : WX} {o e : Expr} {apos pos : Pos} {mo m : EM}
theorem j_remove (ho : PE X o (tD X.K X.mg Wx mo)) (ha : PE X e (tD X.K X.mg Wx m)) (hbase : attributeBase o "remove" X.env (eval o X.env) = eval o X.env := by rfl)
    (hfew : ((backTo pos (starEach [e] X.env)).all (fun x => !x.1) && (backToKw pos (keywordEach [] X.env)).all (fun x => x.1.isSome) && decide (([e] : List Expr).length + ([] : List Keyword).length + (if ([] : List Keyword).isEmpty then 0 else 1) < 30)) = true := by rfl)
    (hline : (apos.endLine == pos.line) = true := by rfl) (hs : starEach [e] X.env = (false, eval e X.env) :: starEach [] X.env := by rfl) (hplain : (backTo pos (starEach [] X.env)).any (·.1) = false := by rfl) :
    PE X (.Call (.Attribute o "remove" apos) [e] [] pos) (tD X.K X.mg Wx (mRemove mo m)) :=
  pe_imp (pe_bm PySem.F.plainAttrs_list PySem.F.slot_list_remove PySem.F.type_list_remove mt_remove ho (pa_cons ha pa_nil hs) hbase hfew hline hs hplain) fun g H Q h => by
    obtain ⟨T, r, S, rs, sim, h⟩ := h
    refine ⟨T, r, S, rs, sim, Out.bind h fun d S1 T1 H1 v st sim1 rel h1 => ?_⟩
    split at h1
    · rename_i hl
      refine ⟨isLoc_ty sim1 rel hl, T1, r, S1, rs.step st, sim1, Out.bind h1 fun y S2 T2 H2 w st2 sim2 rel2 h2 => ?_⟩
      unfold remD at h2
      split at h2
      · rename_i n k
        split at h2
        · rename_i xs q
          split at h2
          · rename_i ms em
            obtain ⟨ns, hi, hr⟩ := Option.bind_eq_some_iff.mp em
            have hx := intsOf_some hi
            subst hx
            obtain ⟨a, rfl, hn, ys, q1, q2⟩ := loc_of sim2 (rel.step st2) q
            have hy := q2.of_ints
            subst hy
            cases rel2
            obtain ⟨j, j1, j2, j3⟩ := remI_some hr
            have hz0 := sim2.hl a _ (.inl (.inl q1))
            rw [List.length_map] at hz0
            have hz : (ms.map V.int).length ≤ sizeLine := by
              rw [List.length_map, ← j3]
              exact Nat.le_trans (List.length_eraseIdx_le ns j) hz0
            obtain ⟨st3, sim3⟩ := lst_set (xs := ms.map V.int) (ds := ms.map D.int) sim2 hn hz (RepL.ints ms)
            refine ⟨a, ns, k, j, rfl, rfl, q1, j1, j2, ?_⟩
            rw [j3]
            exact h2 T2 _ _ st3 sim3 .non
          · exact h2.elim
        · exact h2.elim
      · exact h2.elim
    · exact h1.elim
theorem j_popAt (ho : PE X o (tD X.K X.mg Wx mo)) (ha : PE X e (tD X.K X.mg Wx m)) (hbase : attributeBase o "pop" X.env (eval o X.env) = eval o X.env := by rfl)
    (hfew : ((backTo pos (starEach [e] X.env)).all (fun x => !x.1) && (backToKw pos (keywordEach [] X.env)).all (fun x => x.1.isSome) && decide (([e] : List Expr).length + ([] : List Keyword).length + (if ([] : List Keyword).isEmpty then 0 else 1) < 30)) = true := by rfl)
    (hline : (apos.endLine == pos.line) = true := by rfl) (hs : starEach [e] X.env = (false, eval e X.env) :: starEach [] X.env := by rfl) (hplain : (backTo pos (starEach [] X.env)).any (·.1) = false := by rfl) :
    PE X (.Call (.Attribute o "pop" apos) [e] [] pos) (tD X.K X.mg Wx (mPopAt mo m)) :=
  pe_imp (pe_bm PySem.F.plainAttrs_list PySem.F.slot_list_pop PySem.F.type_list_pop mt_popAt ho (pa_cons ha pa_nil hs) hbase hfew hline hs hplain) fun g H Q h => by
    obtain ⟨T, r, S, rs, sim, h⟩ := h
    refine ⟨T, r, S, rs, sim, Out.bind h fun d S1 T1 H1 v st sim1 rel h1 => ?_⟩
    split at h1
    · rename_i hl
      refine ⟨isLoc_ty sim1 rel hl, T1, r, S1, rs.step st, sim1, Out.bind h1 fun y S2 T2 H2 w st2 sim2 rel2 h2 => ?_⟩
      unfold popAtD at h2
      split at h2
      · rename_i n i
        split at h2
        · rename_i xs q
          split at h2
          · rename_i hi
            split at h2
            · rename_i y ey
              obtain ⟨a, rfl, hn, ys, q1, q2⟩ := loc_of sim2 (rel.step st2) q
              cases rel2
              obtain ⟨u, e1, e2⟩ := q2.get ey
              have hlt : i.toNat < ys.length := (List.getElem?_eq_some_iff.mp e1).1
              have hz : (ys.eraseIdx i.toNat).length ≤ sizeLine := Nat.le_trans (List.length_eraseIdx_le ys _) (sim2.hl a ys (.inl (.inl q1)))
              obtain ⟨st3, sim3⟩ := lst_set (xs := ys.eraseIdx i.toNat) (ds := xs.eraseIdx i.toNat) sim2 hn hz (q2.eraseIdx i.toNat)
              have hix : seqIndex? i ys.length = some i.toNat := (ixN_seq (by
                unfold ixN
                rw [if_pos hi.1, if_pos (by omega)])).1
              exact ⟨a, ys, i, i.toNat, u, rfl, rfl, q1, by omega, by omega, hix, e1, h2 T2 _ _ st3 sim3 (e2.step st3)⟩
            · exact h2.elim
          · exact h2.elim
        · exact h2.elim
      · exact h2.elim
    · exact h1.elim
def listRngN (ds : List D) (_ : Store) : Option (List D) := rng1 ds
end
end Dv
namespace Dv
open PySem PySem.Spec PyProof.Rows L2
section
variable {X : Cx}
def rRange1 : List V → Hp → VK → Prop := fun vs H Q => ∃ n : Int, vs = [.int n] ∧ ∀ p, H p = none → Q (.ref p) (upd H p (.rng 0 n))
theorem cr_range1 : CallR X (.type "range") rRange1 := by
  intro pins s σ H vs us Q I r h
  obtain ⟨n, rfl, q⟩ := h
  cases r with
  | cons a b =>
    cases b
    obtain ⟨t, rfl⟩ := a
    have nw : H s.heap.objs.size = none := I.hok.fresh (Nat.le_refl _)
    refine call_range_1 ⟨.ref s.heap.objs.size, _, I.laid (t' := s.toks + 1 + 1) (o := .rng 0 n) (fun b o e => Heap.get?_push_of_some _ e) (Nat.le_refl _) ⟨s.toks, t, s.toks + 1, Heap.get?_push_size _ rfl⟩, rfl, q _ nw⟩
def rLstRng : List V → Hp → VK → Prop := fun vs H Q => ∃ (a : Addr) (n : Int), vs = [.ref a] ∧ H a = some (.rng 0 n) ∧ -100000 ≤ n ∧ n ≤ 100000 ∧ ∀ p, H p = none → Q (.ref p) (upd H p (.lst (((List.range n.toNat).map fun i : Nat => (i : Int)).map V.int)))
theorem vals_rng {acc : Array Value} {n : Nat} (h : ItemsOf (fun i v => ∃ t, v = Value.int (0 + (i : Int) * 1) t) acc n) : Vals (((List.range n).map fun i : Nat => (i : Int)).map V.int) acc.toList := by
  refine vals_of_ints (ns := (List.range n).map fun i : Nat => (i : Int)) ?_
  obtain ⟨h1, h2⟩ := h
  have key : ∀ (l : List Value) (k : Nat), (∀ j v, l[j]? = some v → ∃ t, v = Value.int ((k + j : Nat) : Int) t) → IntsAre l ((List.range' k l.length).map fun i : Nat => (i : Int)) := fun l => by
    induction l with
    | nil => exact fun k _ => .nil
    | cons v l ih =>
      intro k hv
      obtain ⟨t, rfl⟩ := hv 0 v rfl
      rw [List.length_cons, List.range'_succ, List.map_cons]
      refine .cons _ t (ih (k + 1) fun j u hj => ?_)
      obtain ⟨t', e⟩ := hv (j + 1) u hj
      exact ⟨t', by rw [e, show k + (j + 1) = k + 1 + j by omega]⟩
  have := key acc.toList 0 fun j v hj => by
    obtain ⟨t, e⟩ := h2 j v (by rw [← Array.getElem?_toList]; exact hj)
    exact ⟨t, by rw [e, Int.zero_add, Int.mul_one, Nat.zero_add]⟩
  rw [Array.length_toList, h1] at this
  rw [List.range_eq_range']
  exact this
theorem cr_lstRng (hc : X.calm = true) : CallR X (.type "list") rLstRng := by
  intro pins s σ H vs us Q I r h
  obtain ⟨a, n, rfl, ha, hn0, hn, q⟩ := h
  rw [Vals.ref1 r]
  obtain ⟨t, u, v, ho⟩ := I.hok a _ ha
  have nw : H s.heap.objs.size = none := I.hok.fresh (Nat.le_refl _)
  have hsz : Builtin.Range.rangeSize 0 n 1 = (n.toNat : Nat) := by
    unfold Builtin.Range.rangeSize
    by_cases h0 : 0 < n
    · rw [if_pos (by decide), if_pos h0]
      omega
    · rw [if_pos (by decide), if_neg h0]
      omega
  refine call_list_range (n := n.toNat) (I.ok.hd hc) ho ?_ hsz (by omega) fun h' tk acc c k g items => ?_
  · exact small_one (by decide) (by decide) (by omega) (by omega)
  · have hz : (((List.range n.toNat).map fun i : Nat => (i : Int)).map V.int).length ≤ sizeLine := by
      rw [List.length_map, List.length_map, List.length_range, sizeLine_eq]
      omega
    exact ⟨.ref s.heap.objs.size, _, I.laid (t' := tk) (o := .lst (((List.range n.toNat).map fun i : Nat => (i : Int)).map V.int)) k (Nat.le_refl _) ⟨hz, acc.toList, c, vals_rng items, g⟩, rfl, q _ nw⟩
end
section
variable {K : PySem.W.Frag} {mg : Str → Option Value} {T : Tb} {H : Hp}
theorem rng_ints (n : Int) : rng 0 n.toNat = ((List.range n.toNat).map fun i : Nat => (i : Int)).map D.int := by
  unfold rng
  rw [List.map_map]
  refine List.map_congr_left fun i _ => ?_
  show D.int (0 + (i : Int)) = D.int (i : Int)
  rw [Int.zero_add]
theorem hlen_rng {p : Addr} {a b : Int} (h : HLen H) : HLen (upd H p (.rng a b)) := hlen_oth h fun xs => ⟨(by intro z; cases z), (by intro z; cases z), (by intro x z; cases z), (by intro x z; cases z)⟩
def lstRngD (ds : List D) (_ : Store) : Option D := (rng1 ds).map .lst
theorem pok_lstRng : POk K mg (fun vs H Q => rRange1 vs H fun v H1 => rLstRng [v] H1 Q) lstRngD := fun T S H vs ds d Q sim rep e k => by
  unfold lstRngD at e
  obtain ⟨xs, e1, rfl⟩ := Option.map_eq_some_iff.mp e
  unfold rng1 at e1
  split at e1
  · rename_i n
    split at e1
    · rename_i hb
      cases e1
      obtain ⟨v, rfl, r⟩ := rep.one
      cases r
      refine ⟨n, rfl, fun p hp => ⟨p, n, rfl, upd_same, hb.1, hb.2, fun q hq => ?_⟩⟩
      have st1 := sim.stepNew (o := .rng 0 n) hp
      have sim1 := sim.new (o := .rng 0 n) hp (hlen_rng sim.hl)
      rw [rng_ints] at k
      have hz : (((List.range n.toNat).map fun i : Nat => (i : Int)).map V.int).length ≤ sizeLine := by
        rw [List.length_map, List.length_map, List.length_range, sizeLine_eq]
        omega
      exact k _ (.ref q) (st1.trans (sim1.stepNew hq)) (sim1.new hq (hlen_lst sim1.hl hz)) (.lst upd_same (sim1.off hq) (RepL.ints _))
    · cases e1
  · cases e1
end
section
variable {X : Cx} {Wx : WX} {ms : AM} {es : List Expr} {x y : Str} {p p' pos pos' : Pos} {e : Expr}
theorem j_lstRng (hc : X.calm = true) (hg' : Gl X y) (hm' : X.mg y = none) (hv' : bootBuiltins y = some (.type "list")) (hg : Gl X x) (hm : X.mg x = none) (hv : bootBuiltins x = some (.type "range")) (ha : PA X (e :: es) (tDA X.K X.mg Wx ms))
    (hn' : y ≠ "__name__" := by decide) (hdb' : (y == ("__debug__" : Str)) = false := by decide) (hn : x ≠ "__name__" := by decide) (hdb : (x == ("__debug__" : Str)) = false := by decide)
    (he : starEach (e :: es) X.env = (false, eval e X.env) :: starEach es X.env := by rfl) (hpl : (backTo pos (starEach es X.env)).any (·.1) = false := by rfl) :
    PE X (.Call (.Name y p') [.Call (.Name x p) (e :: es) [] pos] [] pos') (tD X.K X.mg Wx (mCall lstRngD ms)) :=
  pe_imp (pe_callTy (cr_lstRng hc) hg' hm' hv' (pa_cons (pe_callTy cr_range1 hg hm hv ha hn hdb he hpl) pa_nil) hn' hdb') fun g H Q h => tCB_of pok_lstRng g H Q h
theorem j_newRng (hc : X.calm = true) (hg' : Gl X y) (hm' : X.mg y = none) (hv' : bootBuiltins y = some (.type "list")) (hg : Gl X x) (hm : X.mg x = none) (hv : bootBuiltins x = some (.type "range")) (ha : PA X (e :: es) (tDA X.K X.mg Wx ms))
    (hn' : y ≠ "__name__" := by decide) (hdb' : (y == ("__debug__" : Str)) = false := by decide) (hn : x ≠ "__name__" := by decide) (hdb : (x == ("__debug__" : Str)) = false := by decide)
    (he : starEach (e :: es) X.env = (false, eval e X.env) :: starEach es X.env := by rfl) (hpl : (backTo pos (starEach es X.env)).any (·.1) = false := by rfl) :
    PE X (.Call (.Name y p') [.Call (.Name x p) (e :: es) [] pos] [] pos') (tD X.K X.mg Wx (mCallN listRngN ms)) :=
  pe_imp (pe_callTy (cr_lstRng hc) hg' hm' hv' (pa_cons (pe_callTy cr_range1 hg hm hv ha hn hdb he hpl) pa_nil) hn' hdb') fun g H Q h => by
    obtain ⟨T, r, S, rs, sim, h⟩ := h
    refine ⟨T, r, S, rs, sim, Out.bind h fun ds S1 T1 H1 vs st sim1 rel h1 => ?_⟩
    cases q : listRngN ds S1 with
    | none =>
      rw [q] at h1
      exact h1.elim
    | some xs =>
      rw [q] at h1
      unfold listRngN rng1 at q
      split at q
      · rename_i n
        split at q
        · rename_i hb
          cases q
          obtain ⟨v, rfl, rv⟩ := rel.one
          cases rv
          refine ⟨n, rfl, fun a ha => ⟨a, n, rfl, upd_same, hb.1, hb.2, fun b hb' => ?_⟩⟩
          have st2 := sim1.stepNew (o := .rng 0 n) ha
          have sim2 := sim1.new (o := .rng 0 n) ha (hlen_rng sim1.hl)
          have hz : (((List.range n.toNat).map fun i : Nat => (i : Int)).map V.int).length ≤ sizeLine := by
            rw [List.length_map, List.length_map, List.length_range, sizeLine_eq]
            omega
          have st3 := sim2.stepAlloc (o := .lst (((List.range n.toNat).map fun i : Nat => (i : Int)).map V.int)) hb'
          exact h1 (T1.add b) _ _ (st2.trans st3) (sim2.alloc hb' (hlen_lst sim2.hl hz) ⟨_, upd_same, by rw [rng_ints]; exact RepL.ints _⟩) (.loc sim2.newGet)
        · cases q
      · cases q
end
end Dv
namespace Dv
open PySem L2
def flatD : D → Bool
  | .non => true
  | .bl _ => true
  | .int _ => true
  | .str _ => true
  | _ => false
def inTO (a b : D) : Option Bool := match b with
  | .tup xs => if flatD a = true ∧ xs.all flatD = true then some (xs.any fun z => eqvD z a) else none
  | b => inO a b
def inTD (a b : D) (S : Store) : Option D := (inTO (now a S) (now b S)).map .bl
def ninTD (a b : D) (S : Store) : Option D := (inTO (now a S) (now b S)).map fun k => .bl (!k)
section
variable {X : Cx} {K : PySem.W.Frag} {mg : Str → Option Value} {T : Tb} {H : Hp} {S : Store}
theorem flat_eq {v v' : V} {d d' : D} (h : Rep K T H v d) (h' : Rep K T H v' d') (f : flatD d = true) (f' : flatD d' = true) : flatV v = true ∧ eqV v v' = eqvD d d' := by
  cases h <;> first | (cases f; done) | skip
  all_goals (cases h' <;> first | (cases f'; done) | skip)
  all_goals first | exact ⟨rfl, rfl⟩ | exact ⟨rfl, by simp [eqV, eqvD, pyD, PyData.eqv]⟩
theorem flat_any {v : V} {d : D} (h : Rep K T H v d) (f : flatD d = true) : ∀ {vs : List V} {ds : List D}, RepL K T H vs ds → ds.all flatD = true → vs.all flatV = true ∧ (vs.any fun y => eqV y v) = ds.any fun z => eqvD z d
  | _, _, .nil, _ => ⟨rfl, rfl⟩
  | _, _, .cons (v := u) (d := e) a b, g => by
    rw [List.all_cons, Bool.and_eq_true] at g
    obtain ⟨q1, q2⟩ := flat_eq a h g.1 f
    obtain ⟨q3, q4⟩ := flat_any h f b g.2
    exact ⟨by rw [List.all_cons, q1, q3]; rfl, by rw [List.any_cons, List.any_cons, q2, q4]⟩
def rInT (K : PySem.W.Frag) : R2 := fun x y H Q => rInD K x y H Q ∨ rIn K false x y H Q
def rNinT (K : PySem.W.Frag) : R2 := fun x y H Q => rNotInD K x y H Q ∨ rIn K true x y H Q
theorem op_inT (hu : X.A.units + 65 < cLine) : OpR X (compareOp .In) (rInT X.K) := (op_inD hu).or op_in_seq
theorem op_ninT (hu : X.A.units + 65 < cLine) : OpR X (compareOp .NotIn) (rNinT X.K) := (op_notInD hu).or op_notIn_seq
theorem now_flat {d : D} (f : flatD (now d S) = true) : now d S = d := by
  cases d with
  | loc n =>
    simp only [now] at f ⊢
    split at f <;> cases f
  | _ => rfl
theorem now_tup {d : D} {xs : List D} (e : now d S = .tup xs) : d = .tup xs := by
  cases d with
  | loc n =>
    simp only [now] at e
    split at e <;> cases e
  | _ => exact e
theorem pok_inT : POk2 K mg (rInT K) inTD := fun T S H x y a b d Q sim rx ry e k => by
  unfold inTD at e
  obtain ⟨t, e1, rfl⟩ := Option.map_eq_some_iff.mp e
  unfold inTO at e1
  split at e1
  · rename_i xs eb
    split at e1
    · rename_i hf
      cases e1
      have h1 := now_tup eb
      subst h1
      have en := now_flat hf.1
      rw [en] at hf k
      cases ry with
      | tup h n r =>
        obtain ⟨q1, q2⟩ := flat_any rx hf.1 r hf.2
        have q0 : flatV x = true := (flat_eq rx rx hf.1 hf.1).1
        refine .inr ⟨_, _, rfl, .inr (SqT.of h), q0, q1, ?_⟩
        show Q (.bl (inV x _)) H
        unfold inV
        rw [q2]
        exact k H _ (Step.refl T H) sim (.bl _)
    · cases e1
  · have e2 : inD a b S = some (.bl t) := by
      unfold inD
      rw [e1]
      rfl
    exact .inl (pok_in T S H x y a b (.bl t) Q sim rx ry e2 k)
theorem pok_ninT : POk2 K mg (rNinT K) ninTD := fun T S H x y a b d Q sim rx ry e k => by
  unfold ninTD at e
  obtain ⟨t, e1, rfl⟩ := Option.map_eq_some_iff.mp e
  unfold inTO at e1
  split at e1
  · rename_i xs eb
    split at e1
    · rename_i hf
      cases e1
      have h1 := now_tup eb
      subst h1
      have en := now_flat hf.1
      rw [en] at hf k
      cases ry with
      | tup h n r =>
        obtain ⟨q1, q2⟩ := flat_any rx hf.1 r hf.2
        have q0 : flatV x = true := (flat_eq rx rx hf.1 hf.1).1
        refine .inr ⟨_, _, rfl, .inr (SqT.of h), q0, q1, ?_⟩
        show Q (.bl (!inV x _)) H
        unfold inV
        rw [q2]
        exact k H _ (Step.refl T H) sim (.bl _)
    · cases e1
  · have e2 : ninD a b S = some (.bl (!t)) := by
      unfold ninD
      rw [e1]
      rfl
    exact .inl (pok_nin T S H x y a b (.bl (!t)) Q sim rx ry e2 k)
end
end Dv
namespace Dv
open PySem L2
end Dv
namespace Dv
open PySem PySem.Spec PyProof.Rows L2
section
variable {prog : Program} {w : World} {A : Around}
end
section
variable {X : Cx}
end
section
variable {X : Cx} {K : PySem.W.Frag} {mg : Str → Option Value} {T : Tb} {H : Hp}
end
end Dv
namespace Dv
open PySem L2
section
variable {K : PySem.W.Frag} {mg : Str → Option Value}
end
section
variable {X : Cx} {Wx : WX} {e : Expr} {ms : AM} {pos p tpos : Pos} {elts : List Expr} {kk : Nat}
end
end Dv
namespace Dv
open PySem PySem.Spec PyProof.Rows
section
variable {prog : Program} {w : World} {A : Around} {s : Shared}
end
end Dv
namespace Dv
open PySem PySem.Spec PyProof.Rows L2 LamX
section
variable {K : PySem.W.Frag} {mg : Str → Option Value} {T : Tb} {H H1 : Hp} {S : Store} {P c' : Addr} {x q : Str} {ps : Array Value}
end
section
variable {X : Cx} {pins : List (Addr × Obj)} {σ : L2.St} {H : Hp} {s : Shared}
end
end Dv
namespace Dv
open PySem PySem.Spec PyProof.Rows L2 LamX PySem.W
section
variable {X : Cx} {Wx : WX}
end
end Dv
namespace Lp
end Lp
namespace Dv
open PySem L2
section
variable {rows : List (List Int)} {S0 : Store} {order : List Nat} {fu : Nat}
theorem two_a (x y : O) : (S0 ++ [x, y])[S0.length]? = some x := by simp
theorem two_b (x y : O) : (S0 ++ [x, y])[S0.length + 1]? = some y := by
  rw [List.getElem?_append_right (by omega)]
  simp
theorem two_sa (x y z : O) : (S0 ++ [x, y]).set S0.length z = S0 ++ [z, y] := by simp
theorem two_sb (x y z : O) : (S0 ++ [x, y]).set (S0.length + 1) z = S0 ++ [x, z] := by
  rw [List.set_append_right _ _ (by omega)]
  simp
end
end Dv
namespace Dv
open PySem L2
end Dv
namespace Dv
open PySem L2
abbrev Gd := Store → Bool
def WalksG (K : PySem.W.Frag) (mg : Str → Option Value) (T : Tb) (H : Hp) (J : It) (ds : List D) (c : Gd) : Prop := ∀ T' S' H', Kf T H T' H' → Sim K mg T' S' H' → c S' = true → J.stop ds.length H' ∧
  ∀ (i : Nat) (d : D), ds[i]? = some d → J.go i H' ∧ ∀ x H2, J.yld i H' x H2 → Step T' H' T' H2 ∧ Sim K mg T' S' H2 ∧ Rep K T' H2 x d
abbrev IG := Env → Store → R (List D × Gd)
def iG (K : PySem.W.Frag) (mg : Str → Option Value) (Wx : WX) (mi : IG) : TI := fun g H Q => ∃ T r S, RepSt K T H r g ∧ Sim K mg T S H ∧
  Out K mg Wx (fun T' H' (J : It) p => WalksG K mg T' H' J p.1 p.2 ∧ p.1.length ≤ sizeLine) T g H (mi r S) Q
def gYes : Gd := fun _ => true
def gIs (n : Nat) (xs : List D) : Gd := fun S => match S[n]? with
  | some (.lst ys) => decide (ys = xs)
  | _ => false
@[simp] theorem gYes_ap (S : Store) : gYes S = true := rfl
theorem gIs_iff {n : Nat} {xs : List D} {S : Store} : gIs n xs S = true ↔ S[n]? = some (.lst xs) := by
  unfold gIs
  split
  · rename_i ys h
    rw [h]
    simp
  · rename_i h
    constructor
    · intro q; cases q
    · intro q; exact absurd q (h xs)
@[simp] theorem gIs_ap {n : Nat} {xs : List D} {S : Store} (h : S[n]? = some (.lst xs)) : gIs n xs S = true := gIs_iff.mpr h
def seqG (d : D) (S : Store) : Option (List D × Gd) := match d with
  | .loc n => match S[n]? with
    | some (.lst xs) => some (xs, gIs n xs)
    | _ => none
  | d => (seqD d).map fun xs => (xs, gYes)
def mIterG (m : EM) : IG := fun r S => (m r S).bind fun d S1 => ofO (seqG d S1) S1
@[simp] theorem mIterG_ap {m : EM} {r : Env} {S : Store} : mIterG m r S = (m r S).bind fun d S1 => ofO (seqG d S1) S1 := rfl
section
variable {X : Cx} {Wx : WX} {tg e : Expr} {m : EM} {ms : AM} {mi : IM} {pos p tpos : Pos} {elts : List Expr} {kk : Nat}
theorem walksG_of {K : PySem.W.Frag} {mg : Str → Option Value} {T : Tb} {H : Hp} {J : It} {ds : List D} {c : Gd} (h : Walks K mg T H J ds) : WalksG K mg T H J ds c := fun T' S' H' kf sim _ => h T' S' H' kf sim
theorem walks_loc {K : PySem.W.Frag} {mg : Str → Option Value} {T : Tb} {H : Hp} {a : Addr} {n : Nat} {xs : List D} (h : T.loc[n]? = some a) : WalksG K mg T H (Itl K a) xs (gIs n xs) := fun T' S' H' kf sim hc => by
  have hT := kf.get n a h
  obtain ⟨vs, h1, h2⟩ := sim.obj n a _ hT (gIs_iff.mp hc)
  have hq : SqL K H' a vs := SqL.of h1
  refine ⟨⟨vs, hq, by rw [h2.length]; exact Nat.le_refl _⟩, fun i d e => ?_⟩
  obtain ⟨v, g1, g2⟩ := h2.get e
  refine ⟨⟨vs, v, hq, g1⟩, fun x H2 y => ?_⟩
  obtain ⟨rfl, y⟩ := y
  have e2 := (y vs hq).symm.trans g1
  cases e2
  exact ⟨Step.refl _ _, sim, g2⟩
theorem ji_seqG (h : PE X e (tD X.K X.mg Wx m)) : PI X tg e (iG X.K X.mg Wx (mIterG m)) := pi_imp (pi_sq h) fun g H Q h => by
  obtain ⟨T, r, S, rs, sim, h⟩ := h
  refine ⟨T, r, S, rs, sim, Out.bind h fun d S1 T1 H1 v st sim1 rel h1 => ?_⟩
  refine Out.use h1 fun dsc e k => ?_
  cases rel with
  | loc q =>
    rename_i a n
    unfold seqG at e
    split at e
    · rename_i n' heq
      cases heq
      split at e
      · rename_i xs hS
        cases e
        obtain ⟨vs, h1, h2⟩ := sim1.obj n a _ q hS
        exact .inl ⟨_, _, rfl, SqL.of h1, k T1 H1 _ (Step.refl T1 H1) sim1 ⟨walks_loc q, by rw [← h2.length]; exact sim1.hl _ _ (.inl (.inl h1))⟩⟩
      · cases e
    · rename_i hn
      exact absurd rfl (hn n)
  | lst q1 q2 q3 =>
    cases e
    exact .inl ⟨_, _, rfl, SqL.of q1, k T1 H1 _ (Step.refl T1 H1) sim1 ⟨walksG_of (walks_lst (.inl ⟨.inl q1, q2⟩) q3), by rw [← q3.length]; exact sim1.hl _ _ (.inl (.inl q1))⟩⟩
  | scr q =>
    cases e
    exact .inl ⟨_, _, rfl, q.sq, k T1 H1 _ (Step.refl T1 H1) sim1 ⟨walksG_of (walks_lst q (RepL.ints _)), by have := sim1.llen q; rw [List.length_map] at this ⊢; exact this⟩⟩
  | tup q1 q2 q3 =>
    cases e
    exact .inr (.inl ⟨_, _, rfl, SqT.of q1, k T1 H1 _ (Step.refl T1 H1) sim1 ⟨walksG_of (walks_tup q1 q2 q3), by rw [← q3.length]; exact sim1.hl _ _ (.inr (.inl q1))⟩⟩)
  | str x =>
    have e : ((seqD (.str x)).map fun xs => (xs, gYes)) = some dsc := e
    simp only [seqD] at e
    split at e
    · rename_i hz
      cases e
      exact .inr (.inr ⟨x, rfl, k T1 H1 _ (Step.refl T1 H1) sim1 ⟨walksG_of walks_str, by rw [List.length_map, Array.length_toList]; exact sz5 hz⟩⟩)
    · cases e
  | _ => cases e
end
def sLoopG (c : Gd) (gm : D → Env → Option Env) (b : SM) : List D → SM
  | [] => fun r S => if c S = true then .ok .next r S else .bad
  | d :: ds => fun r S => if c S = true then (match gm d r with
    | none => .bad
    | some r1 => match b r1 S with
      | .ok .next r2 S2 => sLoopG c gm b ds r2 S2
      | .ok .cont r2 S2 => sLoopG c gm b ds r2 S2
      | .ok .brk r2 S2 => .ok .next r2 S2
      | .ok (.ret d) r2 S2 => .ok (.ret d) r2 S2
      | .exc x r2 S2 => .exc x r2 S2
      | .bad => .bad) else .bad
section
variable {X : Cx} {Wx : WX} {pos : Pos} {tg iter : Expr} {mi : IG} {sl : List Nat} {gm : D → Env → Option Env} {sb : SM}
end
def lcG (c : Gd) (gm : D → Env → Option Env) (tt : BM) (te : EM) (r0 : Env) : List D → Store → R (List D)
  | [], S => if c S = true then .ok [] S else .bad
  | d :: ds, S => if c S = true then (match gm d r0 with
    | none => .bad
    | some r1 => (nox (tt r1 S)).bind fun b S1 => if b = true then (nox (te r1 S1)).bind fun y S2 => (lcG c gm tt te r0 ds S2).bind fun ys S3 => .ok (y :: ys) S3 else lcG c gm tt te r0 ds S1) else .bad
def lcEnd (nw : Bool) (ys : List D) (S : Store) : R D := if nw = true then .ok (.loc S.length) (S ++ [.lst ys]) else .ok (.lst ys) S
@[simp] theorem lcEnd_t (ys : List D) (S : Store) : lcEnd true ys S = .ok (.loc S.length) (S ++ [.lst ys]) := rfl
@[simp] theorem lcEnd_f (ys : List D) (S : Store) : lcEnd false ys S = .ok (.lst ys) S := rfl
def mLcG (nw : Bool) (mi : IG) (vs : List Nat) (gm : D → Env → Option Env) (tt : BM) (te : EM) : EM := fun r S => (mi r S).bind fun p S1 => (lcG p.2 gm tt te (wipeE r vs) p.1 S1).bind fun ys S2 => lcEnd nw ys S2
@[simp] theorem mLcG_ap {nw : Bool} {mi : IG} {vs : List Nat} {gm : D → Env → Option Env} {tt : BM} {te : EM} {r : Env} {S : Store} : mLcG nw mi vs gm tt te r S = (mi r S).bind fun p S1 => (lcG p.2 gm tt te (wipeE r vs) p.1 S1).bind fun ys S2 => lcEnd nw ys S2 := rfl
section
variable {K : PySem.W.Frag} {mg : Str → Option Value} {H : Hp}
theorem kp_show {p : Addr} {l h : List Addr} : Kp ⟨l, p :: h⟩ H ⟨l ++ [p], h⟩ H := by
  have off : ∀ {b}, (Tb.mk l (p :: h)).off b → (Tb.mk (l ++ [p]) h).off b := fun {b} x => ⟨fun q => by
    rcases List.mem_append.mp q with q | q
    · exact x.1 q
    · exact x.2 (by rw [List.mem_singleton.mp q]; exact List.mem_cons_self), fun q => x.2 (List.mem_cons_of_mem _ q)⟩
  exact ⟨fun _ _ _ n q => ⟨q, off n⟩, fun _ _ n q => ⟨q, off n⟩, fun n a q => by
    show (l ++ [p])[n]? = some a
    rw [List.getElem?_append_left (List.getElem?_eq_some_iff.mp q).1]
    exact q⟩
theorem Sim.show' {S : Store} {p : Addr} {l h : List Addr} {vs : List V} {ds : List D} (s : Sim K mg ⟨l, p :: h⟩ S H) (hp : H p = some (.lst vs)) (r : RepL K ⟨l, p :: h⟩ H vs ds) : Sim K mg ⟨l ++ [p], h⟩ (S ++ [.lst ds]) H := by
  have hlen : l.length = S.length := s.len
  refine ⟨?_, ?_, fun i a o h1 h2 => ?_, fun a ha => s.hid' a (List.mem_cons_of_mem _ ha), s.hl⟩
  · show (l ++ [p]).length = _
    rw [List.length_append, List.length_append, hlen]
    rfl
  · have := s.nd
    show (l ++ [p] ++ h).Nodup
    rw [List.append_assoc]
    exact this
  · have h1' : (l ++ [p])[i]? = some a := h1
    by_cases q : i < l.length
    · rw [List.getElem?_append_left q] at h1'
      rw [List.getElem?_append_left (by rw [← hlen]; exact q)] at h2
      exact (s.obj i a o h1' h2).kp kp_show rfl
    · have hi : i = l.length := by
        have := (List.getElem?_eq_some_iff.mp h1').1
        rw [List.length_append, List.length_singleton] at this
        omega
      subst hi
      rw [List.getElem?_append_right (Nat.le_refl _), Nat.sub_self] at h1'
      rw [hlen, List.getElem?_append_right (Nat.le_refl _), Nat.sub_self] at h2
      cases h1'
      cases h2
      exact ⟨vs, hp, r.kp kp_show⟩
end
section
variable {X : Cx} {Wx : WX} {elt tg iter : Expr} {ifs : List Expr} {scope : Scope} {own : List (Str × Nat)} {pos : Pos} {mi : IG} {sl : List Nat} {gm : D → Env → Option Env} {tt : BM} {te : EM} {nw : Bool}
theorem tLcG_of {K : PySem.W.Frag} {mg : Str → Option Value} {vs : List Nat} (hsl : ∀ i ∈ sl, i ∈ vs) : ∀ g H Q, tD K mg Wx (mLcG nw mi vs gm tt te) g H Q → tLc (iG K mg Wx mi) (gD K mg sl gm) (tDT K mg W0 tt) (tD K mg W0 te) vs g H Q := by
  intro g H Q h
  obtain ⟨T, r, S, rs, sim, h⟩ := h
  refine ⟨T, r, S, rs, sim, Out.bind h fun dsc S1 T1 H1 J st sim1 rel h1 => ?_⟩
  obtain ⟨ds, c⟩ := dsc
  obtain ⟨wk, hz⟩ := rel
  have hz : ds.length ≤ sizeLine := hz
  intro Dl hD
  have hl0 : HLen (upd H1 Dl (.lst [])) := hlen_lst sim1.hl (Nat.zero_le _)
  obtain ⟨kp0, simh⟩ := sim1.hide (u := .lst []) hD hl0
  have rs1 := rs.step st
  refine ⟨fun i m H => ∃ T S acc ys, m = ds.length - i ∧ i ≤ ds.length ∧ T.hid = Dl :: T1.hid ∧ Step T1 H1 ⟨T.loc, T1.hid⟩ H ∧ Sim K mg T S H ∧ H Dl = some (.lst acc) ∧ RepL K T H acc ys ∧ ys.length ≤ i ∧
    Out K mg Wx (Rep K) T1 g H1 ((lcG c gm tt te (wipeE r vs) (ds.drop i) S).bind fun zs S2 => lcEnd nw (ys ++ zs) S2) Q, ⟨ds.length, T1.hide Dl, S1, [], [], by simp, Nat.zero_le _, rfl, sim1.stepNew hD, simh, upd_same, .nil, Nat.le_refl _, by simpa using h1⟩, ?_⟩
  rintro i m H2 ⟨T2, S2, acc, ys, rfl, hi, eh, st2, sim2, hD2, ra, hys, ho⟩
  have off2 : ∀ b, T1.off b → H1 b ≠ none → T2.off b := fun b n q => ⟨(st2.out q n).1, fun z => by
    rw [eh] at z
    rcases List.mem_cons.mp z with z | z
    · exact q (by rw [z]; exact hD)
    · exact n.2 z⟩
  have kp2 : Kp T1 H1 T2 H2 := ⟨fun b u k n q => ⟨st2.keep b u n q, off2 b n (some_ne q)⟩, fun b u n q => ⟨st2.rd q n, off2 b n (rd_some q)⟩, fun n a q => st2.get q⟩
  have kf2 : Kf T1 H1 T2 H2 := ⟨kp2, fun b o u n q => ⟨st2.keep b _ n q, off2 b n (some_ne q)⟩⟩
  by_cases hlt : i < ds.length
  · have ed : ds.drop i = ds[i] :: ds.drop (i + 1) := List.drop_eq_getElem_cons hlt
    rw [ed] at ho
    by_cases hcc : c S2 = true
    · obtain ⟨stop, go⟩ := wk T2 S2 H2 kf2 sim2 hcc
      obtain ⟨g1, yl⟩ := go i ds[i] (List.getElem?_eq_getElem hlt)
      refine .inr ⟨g1, fun H => ∃ T S acc ys, T.hid = Dl :: T1.hid ∧ Step T1 H1 ⟨T.loc, T1.hid⟩ H ∧ Sim K mg T S H ∧ H Dl = some (.lst acc) ∧ RepL K T H acc ys ∧ ys.length ≤ i + 1 ∧
        Out K mg Wx (Rep K) T1 g H1 ((lcG c gm tt te (wipeE r vs) (ds.drop (i + 1)) S).bind fun zs S2 => lcEnd nw (ys ++ zs) S2) Q, fun H3 q => ?_, fun x H3 y => ?_⟩
      · obtain ⟨T3, S3, acc3, ys3, q1, q2, q3, q4, q5, q6, q7⟩ := q
        exact ⟨ds.length - (i + 1), by omega, T3, S3, acc3, ys3, rfl, hlt, q1, q2, q3, q4, q5, q6, q7⟩
      · obtain ⟨st3, sim3, rep3⟩ := yl x H3 y
        simp only [lcG, if_pos hcc] at ho
        -- how a step of the hidden table is one of the open one
        have opn : ∀ {Ta Tb : Tb} {Ha Hb : Hp}, Ta.hid = Dl :: T1.hid → Step T1 H1 ⟨Ta.loc, T1.hid⟩ Ha → Step Ta Ha Tb Hb → Tb.hid = Dl :: T1.hid ∧ Step T1 H1 ⟨Tb.loc, T1.hid⟩ Hb := fun {Ta Tb Ha Hb} e1 s1 s2 => by
          refine ⟨s2.hid.trans e1, s1.trans ⟨s2.ext, rfl, fun b hb => s2.hkeep b (by rw [e1]; exact List.mem_cons_of_mem _ hb), fun b u n q => ?_, s2.new⟩⟩
          by_cases hb : b = Dl
          · subst hb
            rw [s2.hkeep b (by rw [e1]; exact List.mem_cons_self)]
            exact q
          · exact s2.keep b u ⟨n.1, fun z => by
              rw [e1] at z
              exact (List.mem_cons.mp z).elim hb n.2⟩ q
        obtain ⟨eh3, op3⟩ := opn eh st2 st3
        have hid3 : Dl ∈ T2.hid := by rw [eh]; exact List.mem_cons_self
        split at ho
        · exact ho.elim
        · rename_i r1 eg
          refine ⟨T2, wipeE r vs, S2, ds[i], r1, ((rs1.wipe vs).kp kp2).step st3, sim3, rep3, eg, fun g4 rs4 lg kg => ⟨wipe_same hsl (by rw [lg, wipe_length]) kg, T2, r1, S2, rs4, sim3, ?_⟩⟩
          rw [R.bind_assoc] at ho
          refine lc_bind ho fun b S4 T4 H4 v st4 sim4 rel4 ho4 => ?_
          subst rel4
          obtain ⟨eh4, op4⟩ := opn eh3 op3 st4
          have hid4 : Dl ∈ T4.hid := by rw [eh4]; exact List.mem_cons_self
          have hD4 : H4 Dl = some (.lst acc) := (st4.hkeep Dl hid3).trans ((st3.hkeep Dl hid3).trans hD2)
          cases v with
          | false =>
            rw [if_neg Bool.false_ne_true] at ho4 ⊢
            exact ⟨T4, S4, acc, ys, eh4, op4, sim4, hD4, ra.step (st3.trans st4), by omega, ho4⟩
          | true =>
            rw [if_pos rfl, R.bind_assoc] at ho4
            rw [if_pos rfl]
            refine ⟨T4, r1, S4, rs4.step st4, sim4, lc_bind ho4 fun yd S5 T5 H5 yv st5 sim5 rel5 ho5 => ?_⟩
            obtain ⟨eh5, op5⟩ := opn eh4 op4 st5
            have hid5 : Dl ∈ T5.hid := by rw [eh5]; exact List.mem_cons_self
            have ra5 : RepL K T5 H5 acc ys := ra.step ((st3.trans st4).trans st5)
            have hal : acc.length < sizeLine := by rw [ra5.length]; omega
            have hl5 : HLen (upd H5 Dl (.lst (acc ++ [yv]))) := hlen_lst sim5.hl (by rw [List.length_append, List.length_singleton]; omega)
            obtain ⟨kp5, sim6⟩ := sim5.setHid (u := .lst (acc ++ [yv])) hid5 hl5
            refine ⟨acc, (st5.hkeep Dl hid4).trans hD4, hal, T5, S5, acc ++ [yv], ys ++ [yd], eh5, ⟨op5.ext, rfl, fun b hb => ?_, fun b u n q => ?_, op5.new⟩, sim6, upd_same, RepL.append (ra5.kp kp5.toKp) (.cons (rel5.kp kp5.toKp) .nil), by rw [List.length_append, List.length_singleton]; omega, ?_⟩
            · rw [upd_ne fun e => sim1.hid b hb (by rw [e]; exact hD)]
              exact op5.hkeep b hb
            · rw [upd_ne (ne_of_none q hD)]
              exact op5.keep b u n q
            · rw [R.bind_assoc] at ho5
              have e5 : (fun zs S2 => (lcEnd nw (ys ++ [yd] ++ zs) S2 : R D)) = fun a S => (R.ok (yd :: a) S).bind fun zs S2 => lcEnd nw (ys ++ zs) S2 := by
                funext zs S2
                show _ = lcEnd nw (ys ++ (yd :: zs)) S2
                rw [List.append_assoc]
                rfl
              rw [e5]
              exact ho5
    · simp only [lcG, if_neg hcc] at ho
      exact ho.elim
  · have e : i = ds.length := by omega
    subst e
    rw [List.drop_length] at ho
    by_cases hcc : c S2 = true
    · obtain ⟨stop, go⟩ := wk T2 S2 H2 kf2 sim2 hcc
      simp only [lcG, if_pos hcc] at ho
      cases nw with
      | false =>
        refine .inl ⟨stop, ho ⟨T2.loc, T1.hid⟩ H2 _ st2 ?_ ?_⟩
        · have h9 := sim2
          obtain ⟨l2, h2⟩ := T2
          cases eh
          exact h9.unhide
        · obtain ⟨l2, h2⟩ := T2
          cases eh
          rw [List.append_nil]
          refine .lst hD2 ⟨fun z => ?_, fun z => ?_⟩ (ra.kp kp_unhide)
          · exact sim2.apart z List.mem_cons_self
          · have nd := (List.nodup_append.mp sim2.nd).2.1
            exact (List.nodup_cons.mp nd).1 z
      | true =>
        refine .inl ⟨stop, ho ⟨T2.loc ++ [Dl], T1.hid⟩ H2 _ ?_ ?_ ?_⟩
        · obtain ⟨mo, em⟩ := st2.ext
          refine ⟨⟨mo ++ [Dl], ?_⟩, rfl, st2.hkeep, st2.keep, fun a ha hn => ?_⟩
          · show T2.loc ++ [Dl] = _
            rw [show T2.loc = T1.loc ++ mo from em, List.append_assoc]
          · rcases List.mem_append.mp ha with q | q
            · exact st2.new a q hn
            · rw [List.mem_singleton.mp q]
              exact hD
        · obtain ⟨l2, h2⟩ := T2
          cases eh
          rw [List.append_nil]
          exact sim2.show' hD2 ra
        · refine .loc ?_
          have := sim2.len
          show (T2.loc ++ [Dl])[S2.length]? = some Dl
          rw [← this, List.getElem?_append_right (Nat.le_refl _), Nat.sub_self]
          rfl
    · simp only [lcG, if_neg hcc] at ho
      exact ho.elim
theorem j_lcG (hsl : ∀ i ∈ sl, i ∈ own.map (·.2)) (hc : X.calm = true) (hN : X.N.Nodup) (hi : PI X tg iter (iG X.K X.mg Wx mi)) (ok : BlkOk X.N X.env.scope scope own)
    (hg : ∀ (s : Shared) (H : Hp) (C : Addr) (cl : List (Str × Addr)) (fp : List Addr), PG (X.blk s H scope (compEnvC scope cl C X.env) fp) tg (gD X.K X.mg sl gm)) (ht : ∀ (s : Shared) (H : Hp) (C : Addr) (cl : List (Str × Addr)) (fp : List Addr), PTs (X.blk s H scope (compEnvC scope cl C X.env) fp) ifs (tDT X.K X.mg W0 tt))
    (he : ∀ (s : Shared) (H : Hp) (C : Addr) (cl : List (Str × Addr)) (fp : List Addr), PE (X.blk s H scope (compEnvC scope cl C X.env) fp) elt (tD X.K X.mg W0 te)) (hs : ∀ x, foldedSetIterable iter X.env x = pure x := by intro _; rfl) :
    PE X (.ListComp elt [⟨tg, iter, ifs, 0⟩] scope pos) (tD X.K X.mg Wx (mLcG nw mi (own.map (·.2)) gm tt te)) := pe_imp (pe_lc hc hN hi ok hg ht he hs) (tLcG_of hsl)
theorem js_setLcG {i : Nat} {y : Str} {py spos : Pos} (hsl : ∀ i ∈ sl, i ∈ own.map (·.2)) (hc : X.calm = true) (hN : X.N.Nodup) (hy : X.N[i]? = some y) (hyl : X.env.scope.names.lookup y = some .local)
    (hsw : swapsWith (.ListComp elt [⟨tg, iter, ifs, 0⟩] scope pos) (some (.Name y py)) spos.line X.env = pure true) (hi : PI X tg iter (iG X.K X.mg Wx mi)) (ok : BlkOk X.N X.env.scope scope own)
    (hg : ∀ (s : Shared) (H : Hp) (C : Addr) (cl : List (Str × Addr)) (fp : List Addr), PG (X.blk s H scope (compEnvC scope cl C X.env) fp) tg (gD X.K X.mg sl gm)) (ht : ∀ (s : Shared) (H : Hp) (C : Addr) (cl : List (Str × Addr)) (fp : List Addr), PTs (X.blk s H scope (compEnvC scope cl C X.env) fp) ifs (tDT X.K X.mg W0 tt))
    (he : ∀ (s : Shared) (H : Hp) (C : Addr) (cl : List (Str × Addr)) (fp : List Addr), PE (X.blk s H scope (compEnvC scope cl C X.env) fp) elt (tD X.K X.mg W0 te)) (hs : ∀ x, foldedSetIterable iter X.env x = pure x := by intro _; rfl) :
    PS X (.Assign [.Name y py] (.ListComp elt [⟨tg, iter, ifs, 0⟩] scope pos) spos) (tDS X.K X.mg Wx (sSet i (mLcG nw mi (own.map (·.2)) gm tt te))) :=
  ps_imp (ps_setLc hc hN hy hyl hsw hi ok hg ht he hs) fun E g H h => by
    obtain ⟨T, r, S, rs, sim, h⟩ := h
    refine tLcG_of hsl g H _ ⟨T, r, S, rs, sim, ZOut.bind h rs fun d S1 T1 H1 v st sim1 rel rs1 h1 => ?_⟩
    exact h1.nx sim1 (rs1.set rel)
end
end Dv
namespace Dv
open PySem PySem.Spec PyProof.Rows L2
end Dv
namespace Dv
open PySem PySem.Spec PyProof.Rows L2
abbrev Ent := Nat × Addr × List Int
section
variable {P : Program} {w : World} {A : Around} {Ex : Value → Shared → Prop} {s : Shared} {a : Addr} {E : List Ent} {es : Array (Int × Value)} {ep : Nat} {t : SetTable} {h : Heap}
end
end Dv
namespace Dv
open PySem PySem.Spec PyProof.Rows L2
section
variable {P : Program} {w : World} {A : Around} {Ex : Value → Shared → Prop} {s : Shared} {a : Addr} {E : List Ent} {es : Array (Int × Value)} {ep : Nat} {t : SetTable}
end
end Dv
namespace Dv
open PySem PySem.Spec PyProof.Rows L2
section
variable {X : Cx} {elt tg iter : Expr} {ifs : List Expr} {scope : Scope} {own : List (Str × Nat)} {pos : Pos} {wi : TI} {gt : TG} {tt : TT} {te : TE}
end
end Dv
namespace Dv
open PySem PySem.Spec PyProof.Rows L2
section
variable {P : Program} {w : World} {K : PySem.W.Frag} {h : Heap} {a : Addr} {L : List (Addr × List Int)}
end
end Dv
namespace Dv
open PySem L2
theorem nodup_sub {α : Type} [DecidableEq α] : ∀ {l m : List α}, l.Nodup → (∀ x ∈ l, x ∈ m) → l.length ≤ m.length
  | [], _, _, _ => Nat.zero_le _
  | x :: l, m, hn, hs => by
    obtain ⟨h1, h2⟩ := List.nodup_cons.mp hn
    have hx := hs x List.mem_cons_self
    have := nodup_sub (m := m.erase x) h2 fun y hy => (List.mem_erase_of_ne fun e => h1 (by rw [← e]; exact hy)).mpr (hs y (List.mem_cons_of_mem _ hy))
    rw [List.length_erase_of_mem hx] at this
    have hp := List.length_pos_of_mem hx
    rw [List.length_cons]
    omega
section
variable {K : PySem.W.Frag} {mg : Str → Option Value} {Wx : WX}
end
section
variable {X : Cx} {Wx : WX} {elt tg iter : Expr} {ifs : List Expr} {scope : Scope} {own : List (Str × Nat)} {pos pos' p' : Pos} {mi : IM} {sl : List Nat} {gm : D → Env → Option Env} {tt : BM} {te : EM}
end
end Dv
namespace Tr
def wy (par : Nat → Option Nat) : Nat → Nat → List Nat
  | 0, a => [a]
  | k + 1, a => match par a with
    | none => [a]
    | some b => a :: wy par k b
def upB (par : Nat → Option Nat) : Nat → Nat → Bool
  | 0, _ => false
  | k + 1, a => match par a with
    | none => true
    | some b => upB par k b
section
variable {par : Nat → Option Nat} {n : Nat}
theorem wy_up : ∀ (k a : Nat), (wy par k a).length ≤ k ↔ upB par k a = true
  | 0, a => by simp [wy, upB]
  | k + 1, a => by
    unfold wy upB
    cases par a with
    | none => simp
    | some b =>
      have := wy_up k b
      simp only [List.length_cons]
      rw [← this]
      omega
theorem wy_more : ∀ {k a : Nat}, (wy par k a).length ≤ k → wy par (k + 1) a = wy par k a
  | 0, a, h => by simp [wy] at h
  | k + 1, a, h => by
    unfold wy at h ⊢
    cases q : par a with
    | none => rfl
    | some b =>
      rw [q] at h
      simp only [List.length_cons] at h
      show a :: wy par (k + 1) b = a :: wy par k b
      rw [wy_more (k := k) (a := b) (by omega)]
structure Ok (n : Nat) (par : Nat → Option Nat) : Prop where
  lt : ∀ a b, a < n → par a = some b → b < n
  up : ∀ a, a < n → (wy par n a).length ≤ n
  one : ∃ r, r < n ∧ par r = none ∧ ∀ a, a < n → par a = none → a = r
abbrev W (n : Nat) (par : Nat → Option Nat) (a : Nat) : List Nat := wy par n a
theorem W_none {a : Nat} (h : par a = none) : W n par a = [a] := by
  cases n with
  | zero => rfl
  | succ n =>
    show (match par a with
      | none => [a]
      | some b => a :: wy par n b) = _
    rw [h]
theorem W_some (o : Ok n par) {a b : Nat} (ha : a < n) (h : par a = some b) : W n par a = a :: W n par b := by
  have hu := o.up a ha
  cases n with
  | zero => omega
  | succ n =>
    have e : wy par (n + 1) a = a :: wy par n b := by
      show (match par a with
        | none => [a]
        | some b => a :: wy par n b) = _
      rw [h]
    rw [e, List.length_cons] at hu
    show wy par (n + 1) a = a :: wy par (n + 1) b
    rw [e, wy_more (by omega)]
theorem up_ind (o : Ok n par) {P : Nat → Prop} (h0 : ∀ a, a < n → par a = none → P a) (h1 : ∀ a b, a < n → par a = some b → P b → P a) : ∀ a, a < n → P a := by
  have key : ∀ (k a : Nat), a < n → (W n par a).length ≤ k → P a := fun k => by
    induction k with
    | zero =>
      intro a ha hl
      cases q : par a with
      | none => exact h0 a ha q
      | some b =>
        rw [W_some o ha q] at hl
        simp at hl
    | succ k ih =>
      intro a ha hl
      cases q : par a with
      | none => exact h0 a ha q
      | some b =>
        rw [W_some o ha q, List.length_cons] at hl
        exact h1 a b ha q (ih b (o.lt a b ha q) (by omega))
  exact fun a ha => key _ a ha (Nat.le_refl _)
theorem W_lt (o : Ok n par) : ∀ a, a < n → ∀ z ∈ W n par a, z < n := up_ind o (fun a ha h z hz => by
    rw [W_none h, List.mem_singleton] at hz
    rw [hz]
    exact ha) fun a b ha h ih z hz => by
    rw [W_some o ha h] at hz
    rcases List.mem_cons.mp hz with rfl | hz
    · exact ha
    · exact ih z hz
theorem W_tail (o : Ok n par) : ∀ a, a < n → ∀ (p q : List Nat) (z : Nat), W n par a = p ++ z :: q → z :: q = W n par z := up_ind o (fun a ha h p q z e => by
    rw [W_none h] at e
    cases p with
    | nil =>
      have e : [a] = z :: q := e
      cases e
      rw [W_none h]
    | cons x p =>
      have e := (List.cons.inj e).2
      cases p <;> cases e) fun a b ha h ih p q z e => by
    cases p with
    | nil =>
      have e2 : W n par a = z :: q := e
      rw [W_some o ha h] at e2
      cases e2
      rw [W_some o ha h]
    | cons x p =>
      rw [W_some o ha h] at e
      exact ih p q z (List.cons.inj e).2
theorem W_head (a : Nat) : ∃ q, W n par a = a :: q := by
  cases n with
  | zero => exact ⟨[], rfl⟩
  | succ n =>
    show ∃ q, (match par a with
      | none => [a]
      | some b => a :: wy par n b) = a :: q
    cases par a with
    | none => exact ⟨[], rfl⟩
    | some b => exact ⟨_, rfl⟩
theorem W_root (o : Ok n par) : ∃ r, r < n ∧ ∀ a, a < n → r ∈ W n par a := by
  obtain ⟨r, hr, _, hu⟩ := o.one
  refine ⟨r, hr, up_ind o (fun a ha h => ?_) fun a b ha h ih => ?_⟩
  · rw [hu a ha h, W_none (by rw [← hu a ha h]; exact h)]
    exact List.mem_singleton.mpr rfl
  · rw [W_some o ha h]
    exact List.mem_cons_of_mem _ ih
def meet (A B : List Nat) : Nat := (A.filter fun z => decide (z ∈ B)).headD 0
def btw (A B : List Nat) : List Nat := A.take (A.idxOf (meet A B) + 1) ++ B.take (B.idxOf (meet A B))
theorem first_of {A B : List Nat} (h : ∃ z ∈ A, z ∈ B) : ∃ p q, A = p ++ meet A B :: q ∧ (∀ z ∈ p, z ∉ B) ∧ meet A B ∈ B := by
  induction A with
  | nil => obtain ⟨z, hz, _⟩ := h; cases hz
  | cons x A ih =>
    by_cases c : x ∈ B
    · have e : meet (x :: A) B = x := by
        unfold meet
        rw [List.filter_cons, if_pos (decide_eq_true c)]
        rfl
      rw [e]
      exact ⟨[], A, rfl, (fun z hz => by cases hz), c⟩
    · have e : meet (x :: A) B = meet A B := by
        unfold meet
        rw [List.filter_cons, if_neg (by simpa using c)]
      obtain ⟨p, q, e2, h1, h2⟩ := ih (by
        obtain ⟨z, hz, hb⟩ := h
        rcases List.mem_cons.mp hz with rfl | hz
        · exact absurd hb c
        · exact ⟨z, hz, hb⟩)
      rw [e]
      refine ⟨x :: p, q, by rw [List.cons_append, ← e2], fun z hz => ?_, h2⟩
      rcases List.mem_cons.mp hz with rfl | hz
      · exact c
      · exact h1 z hz
theorem idx_app {p q : List Nat} {z : Nat} (h : z ∉ p) : (p ++ z :: q).idxOf z = p.length := by
  rw [List.idxOf_append, if_neg h, List.idxOf_cons_self]
  omega
theorem split_first {B : List Nat} {z : Nat} (h : z ∈ B) : ∃ p q, B = p ++ z :: q ∧ z ∉ p := by
  induction B with
  | nil => cases h
  | cons x B ih =>
    by_cases c : x = z
    · exact ⟨[], B, by rw [c]; rfl, fun h => nomatch h⟩
    · obtain ⟨p, q, e, hn⟩ := ih ((List.mem_cons.mp h).resolve_left fun q => c q.symm)
      refine ⟨x :: p, q, by rw [e]; rfl, fun hz => ?_⟩
      rcases List.mem_cons.mp hz with rfl | hz
      · exact c rfl
      · exact hn hz
theorem btw_eq (o : Ok n par) {a b : Nat} (ha : a < n) (hb : b < n) : ∃ p1 p2 c, c < n ∧ W n par a = p1 ++ W n par c ∧ W n par b = p2 ++ W n par c ∧ (∀ z ∈ p1, z ∉ W n par b) ∧ c ∈ W n par b ∧ (W n par a).filter (fun z => decide (z ∈ W n par b)) ≠ [] ∧ meet (W n par a) (W n par b) = c ∧ btw (W n par a) (W n par b) = p1 ++ [c] ++ p2 := by
  obtain ⟨r, _, hr⟩ := W_root o
  have hex : ∃ z ∈ W n par a, z ∈ W n par b := ⟨r, hr a ha, hr b hb⟩
  obtain ⟨p1, q1, e1, h1, h2⟩ := first_of hex
  obtain ⟨c, hc⟩ : ∃ c, c = meet (W n par a) (W n par b) := ⟨_, rfl⟩
  rw [← hc] at e1 h2
  have hcn : c < n := W_lt o b hb c h2
  obtain ⟨p2, q2, e2, h3⟩ := split_first h2
  have t1 := W_tail o a ha p1 q1 c e1
  have t2 := W_tail o b hb p2 q2 c e2
  have h4 : c ∉ p1 := fun z => h1 c z h2
  refine ⟨p1, p2, c, hcn, by rw [← t1]; exact e1, by rw [← t2]; exact e2, h1, h2, fun z => ?_, hc.symm, ?_⟩
  · have := List.filter_eq_nil_iff.mp z r (hr a ha)
    exact this (decide_eq_true (hr b hb))
  · unfold btw
    rw [← hc, e1, e2, idx_app h4, idx_app h3]
    have i1 : (p1 ++ c :: q1).take (p1.length + 1) = p1 ++ [c] := by
      rw [List.take_append, List.take_of_length_le (by omega), Nat.add_sub_cancel_left]
      rfl
    have i2 : (p2 ++ c :: q2).take p2.length = p2 := by
      rw [List.take_append, List.take_of_length_le (Nat.le_refl _), Nat.sub_self, List.take_zero, List.append_nil]
    rw [i1, i2]
def sel (n : Nat) (s : Nat → Bool) : List Nat := (List.range n).filter s
def inS (par : Nat → Option Nat) (s : Nat → Bool) (a : Nat) : Bool := match par a with
  | some b => s b
  | none => false
theorem mem_sel {s : Nat → Bool} {a : Nat} : a ∈ sel n s ↔ a < n ∧ s a = true := by
  unfold sel
  rw [List.mem_filter, List.mem_range]
theorem len_parts {α : Type} (p : α → Bool) (l : List α) : (l.filter p).length + (l.filter fun x => !p x).length = l.length := by
  induction l with
  | nil => rfl
  | cons x l ih =>
    rw [List.filter_cons, List.filter_cons]
    cases p x <;> simp <;> omega
theorem to_top (o : Ok n par) {s : Nat → Bool} {t : Nat} (ht : ∀ a, a < n → s a = true → inS par s a = false → a = t) : ∀ a, a < n → s a = true → ∃ p, W n par a = p ++ W n par t ∧ ∀ z ∈ p, s z = true := up_ind o (fun a ha h hs => ⟨[], by
    rw [ht a ha hs (by unfold inS; rw [h])]
    rfl, fun z hz => by cases hz⟩) fun a b ha h ih hs => by
    cases q : s b with
    | false =>
      refine ⟨[], ?_, fun z hz => by cases hz⟩
      rw [ht a ha hs (by unfold inS; rw [h]; exact q)]
      rfl
    | true =>
      obtain ⟨p, e, hp⟩ := ih q
      refine ⟨a :: p, by rw [W_some o ha h, e]; rfl, fun z hz => ?_⟩
      rcases List.mem_cons.mp hz with rfl | hz
      · exact hs
      · exact hp z hz
theorem has_top (o : Ok n par) {s : Nat → Bool} : ∀ a, a < n → s a = true → ∃ t, t < n ∧ s t = true ∧ inS par s t = false := up_ind o (fun a ha h hs => ⟨a, ha, hs, by unfold inS; rw [h]⟩) fun a b ha h ih hs => by
    cases q : s b with
    | false => exact ⟨a, ha, hs, by unfold inS; rw [h]; exact q⟩
    | true => exact ih q
theorem par_of (o : Ok n par) {a : Nat} (ha : a < n) {x : Nat} {p q : List Nat} (h : W n par a = a :: (p ++ x :: q)) : par a = some ((p ++ [x]).headD 0) := by
  cases e : par a with
  | none =>
    rw [W_none e] at h
    cases p <;> cases h
  | some b =>
    rw [W_some o ha e] at h
    obtain ⟨q2, hb⟩ := W_head (n := n) (par := par) b
    rw [hb] at h
    cases p with
    | nil => cases h; rfl
    | cons y p => cases h; rfl
theorem hang_iff (o : Ok n par) {s : Nat → Bool} (hs : ∃ a, a < n ∧ s a = true) : ((sel n s).filter (inS par s)).length + 1 = (sel n s).length ↔ ∀ a b, a < n → b < n → s a = true → s b = true → ∀ z ∈ btw (W n par a) (W n par b), s z = true := by
  have lp := len_parts (inS par s) (sel n s)
  have nd : ((sel n s).filter fun x => !inS par s x).Nodup := (List.nodup_range.filter _).filter _
  have mt : ∀ {t}, t ∈ (sel n s).filter (fun x => !inS par s x) ↔ (t < n ∧ s t = true) ∧ inS par s t = false := fun {t} => by
    rw [List.mem_filter, mem_sel]
    cases inS par s t <;> simp
  constructor
  · intro h a b ha hb sa sb z hz
    have h1 : ((sel n s).filter fun x => !inS par s x).length = 1 := by omega
    obtain ⟨t, et⟩ := List.length_eq_one_iff.mp h1
    have ht : ∀ a, a < n → s a = true → inS par s a = false → a = t := fun a ha sa ia => by
      have := mt.mpr ⟨⟨ha, sa⟩, ia⟩
      rw [et] at this
      exact List.mem_singleton.mp this
    have hst : s t = true := by
      have : t ∈ (sel n s).filter (fun x => !inS par s x) := by rw [et]; exact List.mem_singleton.mpr rfl
      exact (mt.mp this).1.2
    have htn : t < n := by
      have : t ∈ (sel n s).filter (fun x => !inS par s x) := by rw [et]; exact List.mem_singleton.mpr rfl
      exact (mt.mp this).1.1
    obtain ⟨pa, ea, hpa⟩ := to_top o ht a ha sa
    obtain ⟨pb, eb, hpb⟩ := to_top o ht b hb sb
    obtain ⟨p1, p2, c, hc, e1, e2, h3, h4, _, _, eB⟩ := btw_eq o ha hb
    -- where they meet is one of them
    have hcS : s c = true := by
      obtain ⟨q, eq⟩ := W_head (n := n) (par := par) c
      obtain ⟨qt, eqt⟩ := W_head (n := n) (par := par) t
      have htb : t ∈ W n par b := by rw [eb, eqt]; simp
      by_cases hcp : c ∈ pa
      · exact hpa c hcp
      · -- then p1 holds pa, and t is not in p1
        have e3 : pa ++ t :: qt = p1 ++ c :: q := by rw [← eqt, ← eq, ← ea, ← e1]
        rcases List.append_eq_append_iff.mp e3 with ⟨l, hl1, hl2⟩ | ⟨l, hl1, hl2⟩
        · cases l with
          | nil =>
            have : t = c := (List.cons.inj hl2).1
            rw [← this]; exact hst
          | cons x l =>
            have : t = x := (List.cons.inj hl2).1
            exact absurd htb (h3 t (by rw [hl1, this]; simp))
        · cases l with
          | nil =>
            have : c = t := (List.cons.inj hl2).1
            rw [this]; exact hst
          | cons x l =>
            have : c = x := (List.cons.inj hl2).1
            exact absurd (by rw [hl1, this]; simp) hcp
    obtain ⟨pc, ec, hpc⟩ := to_top o ht c hc hcS
    have k1 : pa = p1 ++ pc := by
      have : pa ++ W n par t = (p1 ++ pc) ++ W n par t := by rw [← ea, e1, ec, List.append_assoc]
      exact List.append_cancel_right this
    have k2 : pb = p2 ++ pc := by
      have : pb ++ W n par t = (p2 ++ pc) ++ W n par t := by rw [← eb, e2, ec, List.append_assoc]
      exact List.append_cancel_right this
    rw [eB] at hz
    rcases List.mem_append.mp hz with hz | hz
    · rcases List.mem_append.mp hz with hz | hz
      · exact hpa z (by rw [k1]; exact List.mem_append_left _ hz)
      · rw [List.mem_singleton.mp hz]; exact hcS
    · exact hpb z (by rw [k2]; exact List.mem_append_left _ hz)
  · intro h
    obtain ⟨a0, ha0, sa0⟩ := hs
    obtain ⟨t, htn, hst, hit⟩ := has_top o a0 ha0 sa0
    have un : ∀ u, u < n → s u = true → inS par s u = false → u = t := fun u hu su iu => Classical.byContradiction fun hne => by
      obtain ⟨p1, p2, c, hc, e1, e2, h3, h4, _, _, eB⟩ := btw_eq o hu htn
      have hb := h u t hu htn su hst
      rw [eB] at hb
      obtain ⟨q, eq⟩ := W_head (n := n) (par := par) c
      have notop : ∀ (x : Nat) (p : List Nat), x < n → inS par s x = false → W n par x = (x :: p) ++ W n par c → (∀ z ∈ p ++ [c], s z = true) → False := fun x p hx ix ex hp => by
        rw [eq] at ex
        have pr := par_of o hx (p := p) (x := c) (q := q) ex
        unfold inS at ix
        rw [pr] at ix
        have hm : (p ++ [c]).headD 0 ∈ p ++ [c] := by
          cases p <;> simp
        have ix : s ((p ++ [c]).headD 0) = false := ix
        rw [hp _ hm] at ix
        cases ix
      obtain ⟨qu, equ⟩ := W_head (n := n) (par := par) u
      obtain ⟨qt, eqt⟩ := W_head (n := n) (par := par) t
      cases p1 with
      | cons x p1 =>
        have hx : u = x := by
          rw [equ] at e1
          exact (List.cons.inj e1).1
        subst hx
        exact notop u p1 hu iu e1 fun z hz => hb z (by
          rw [List.append_assoc]
          rcases List.mem_append.mp hz with hz | hz
          · exact List.mem_append_left _ (List.mem_cons_of_mem _ hz)
          · exact List.mem_append_right _ (List.mem_append_left _ hz))
      | nil =>
        have huc : u = c := by
          rw [equ, eq] at e1
          exact (List.cons.inj e1).1
        cases p2 with
        | nil =>
          rw [eqt, eq] at e2
          exact hne (huc.trans (List.cons.inj e2).1.symm)
        | cons x p2 =>
          have hx : t = x := by
            rw [eqt] at e2
            exact (List.cons.inj e2).1
          subst hx
          exact notop t p2 htn hit e2 fun z hz => by
            rcases List.mem_append.mp hz with hz | hz
            · exact hb z (List.mem_append_right _ (List.mem_cons_of_mem _ hz))
            · rw [List.mem_singleton.mp hz, ← huc]
              exact su
    have : ((sel n s).filter fun x => !inS par s x) = [t] := by
      have hm : t ∈ (sel n s).filter fun x => !inS par s x := mt.mpr ⟨⟨htn, hst⟩, hit⟩
      have hall : ∀ u ∈ (sel n s).filter fun x => !inS par s x, u = t := fun u hu => by
        obtain ⟨⟨h1, h2⟩, h3⟩ := mt.mp hu
        exact un u h1 h2 h3
      revert nd hm hall
      generalize (sel n s).filter (fun x => !inS par s x) = L
      intro nd hm hall
      cases L with
      | nil => cases hm
      | cons x L =>
        have hx := hall x List.mem_cons_self
        cases L with
        | nil => rw [hx]
        | cons y L =>
          have hy := hall y (List.mem_cons_of_mem _ List.mem_cons_self)
          have := (List.nodup_cons.mp nd).1
          exact absurd (by rw [hx, hy]; exact List.mem_cons_self) this
    rw [this] at lp
    simp at lp
    omega
end
end Tr
set_option maxHeartbeats 1000000
namespace Dv
open PySem PySem.Spec PyProof.Rows L2
section
variable {P : Program} {w : World}
section
variable {z TI TO i1 i2 d : Addr} {r1 r2 : List Addr} {xs ys : Array Value} {I1 I2 : Nat → Heap → Prop} {A : Around} {E : Value → Shared → Prop} {s : Shared} {k : Nat}
end
end
end Dv
set_option maxHeartbeats 1000000
namespace Dv
open PySem PySem.Spec PyProof.Rows L2
section
variable {P : Program} {w : World} {z TI TO i1 i2 : Addr} {r1 r2 : List Addr} {xs ys : Array Value} {I1 I2 : Nat → Heap → Prop}
end
section
variable {P : Program} {w : World} {A : Around} {E : Value → Shared → Prop} {s : Shared}
end
end Dv
namespace Dv
open PySem PySem.Spec PyProof.Rows L2
section
variable {X : Cx} {Wx : WX}
end
end Dv
namespace Dv
open PySem PySem.Spec PyProof.Rows L2
section
variable {X : Cx}
def rSetTI (K : PySem.W.Frag) (w : World) : List V → Hp → VK → Prop := fun vs H Q => ∃ (l : Addr) (ns : List Int), vs = [.ref l] ∧ SqT K H l (ns.map V.int) ∧ ns.length ≤ 1000 ∧ ∀ (a : Addr) (c : Nat), H a = none → c ≤ ns.length → Q (.ref a) (upd H a (SetO w a (fun j => decide (j ∈ ns)) c))
theorem cr_setTI (hc : X.calm = true) : CallR X (.type "set") (rSetTI X.K X.w) := by
  intro pins s σ H vs us Q I r h
  obtain ⟨l, ns, rfl, hl, hz, q⟩ := h
  rw [Vals.ref1 r]
  obtain ⟨its, rv, pl, _⟩ := I.tuple hl
  have hn : H s.heap.objs.size = none := I.hok.fresh (Nat.le_refl _)
  refine call_set_tupI (P := X.prog) (w := X.w) ns (I.ok.hd hc) (show s.heap.IsTuple l its.toArray from pl) (by simpa using ints_of_vals rv) (by unfold scanBound; omega) fun h' tk c R hcn k => ?_
  exact ⟨.ref s.heap.objs.size, upd H s.heap.objs.size (SetO X.w s.heap.objs.size (fun j => decide (j ∈ ns)) c), I.laid (t' := tk) k (Nat.le_refl _) (setO_new R), rfl, q _ c hn hcn⟩
def rSetA (K : PySem.W.Frag) (w : World) : List V → Hp → VK → Prop := fun vs H Q => rSetI K w vs H Q ∨ rSetTI K w vs H Q
theorem cr_setA (hc : X.calm = true) : CallR X (.type "set") (rSetA X.K X.w) := fun pins s σ H vs us Q I r h => h.elim (cr_setI hc pins s σ H vs us Q I r) (cr_setTI hc pins s σ H vs us Q I r)
end
def sortSetTD (ds : List D) (S : Store) : Option D := match ds with
  | [.tup xs] => match intsOf xs with
    | some ns => if ns.length < 64 then some (.lst ((ssI ns).map D.int)) else none
    | none => none
  | ds => sortSetD ds S
theorem sortSetTD_tup {S : Store} {ns : List Int} (h : ns.length < 64) : sortSetTD [.tup (ns.map D.int)] S = some (.lst ((ssI ns).map D.int)) := by
  show (match intsOf (ns.map D.int) with
    | some ns => if ns.length < 64 then some (D.lst ((ssI ns).map D.int)) else none
    | none => none) = _
  rw [intsOf_map]
  exact if_pos h
theorem pok_sortSetT {K : PySem.W.Frag} {mg : Str → Option Value} {w : World} : POk K mg (fun vs H Q => rSetA K w vs H fun v H1 => rSortedSet w [v] H1 Q) sortSetTD := fun T S H vs ds d Q sim rep e k => by
  unfold sortSetTD at e
  split at e
  · rename_i xs
    split at e
    · rename_i ns hi
      split at e
      · rename_i h64
        cases e
        have hx := intsOf_some hi
        subst hx
        cases rep with
        | cons r1 rt =>
          cases rt
          cases r1 with
          | @tup a vs' _ hH off rl =>
            have hv := rl.of_ints
            subst hv
            refine .inr ⟨a, ns, rfl, SqT.of hH, by omega, fun p c hp hc => ⟨p, _, c, rfl, upd_same .., by omega, fun ms q hs hm hl hq => ?_⟩⟩
            have em : ms = ssI ns := ssI_ext hs fun z => by rw [hm z, decide_eq_true_eq]
            subst em
            have st1 := sim.stepNew (o := SetO w p (fun j => decide (j ∈ ns)) c) hp
            have sim1 := sim.new (o := SetO w p (fun j => decide (j ∈ ns)) c) hp (hlen_oth sim.hl fun xs => ⟨(by intro z; cases z), (by intro z; cases z), (by intro x z; cases z), (by intro x z; cases z)⟩)
            have hlen : (List.map V.int (ssI ns)).length ≤ sizeLine := by rw [List.length_map, hl, sizeLine_eq]; omega
            exact k _ (.ref q) (st1.trans (sim1.stepNew hq)) (sim1.new hq (hlen_lst sim1.hl hlen)) (.lst (upd_same ..) (sim1.off hq) (RepL.ints _))
      · cases e
    · cases e
  · exact .inl (pok_sortSet T S H vs ds d Q sim rep e k)
end Dv
namespace Dv
open PySem L2
section
variable {rows : List (List Int)}
end
section
variable {ns : List Int} {t n : Nat} {y2 : Option D}
end
end Dv
namespace Dv
open PySem PySem.Spec PyProof.Rows L2
section
variable {prog : Program} {w : World} {A : Around} {E : Value → Shared → Prop} {s : Shared}
end
section
variable {X : Cx} {Wx : WX} {m : EM}
end
end Dv
namespace Dv
open PySem PySem.Spec PyProof.Rows L2
section
variable {X : Cx}
end
def mulTD (a b : D) (S : Store) : Option D := match a, b with
  | .tup xs, .int k => if k = 1 then some (.tup xs) else if 2 ≤ k ∧ k ≤ 1000 ∧ xs ≠ [] ∧ xs.length ≤ 90 then some (.tup (List.replicate k.toNat xs).flatten) else none
  | a, b => mulD a b S
section
variable {X : Cx} {Wx : WX} {m : EM} {K : PySem.W.Frag} {mg : Str → Option Value}
end
end Dv
namespace Dv
open PySem L2
section
variable {X : Cx} {Wx : WX} {o i e f : Expr} {pos pos' apos cpos : Pos} {mo mi mx mv : EM}
end
end Dv
namespace Dv
open PySem L2
end Dv
namespace Dv
open PySem L2
section
variable {X : Cx} {Wx : WX} {c a b : Expr} {pos : Pos} {tc ta tb : BM}
end
end Dv
namespace Dv
open PySem L2
section
variable {X : Cx} {K : PySem.W.Frag} {mg : Str → Option Value}
end
end Dv
namespace Dv
open PySem PySem.Spec PyProof.Rows L2
section
variable {prog : Program} {w : World} {A : Around} {E : Value → Shared → Prop} {s : Shared}
end
section
variable {X : Cx} {Wx : WX} {e : Expr} {ms : AM} {pos p tpos : Pos} {elts : List Expr} {kk : Nat}
end
end Dv
namespace Dv
open PySem PySem.Spec PyProof.Rows L2
def rTux (K : PySem.W.Frag) : List V → Hp → VK → Prop := fun xs H Q => ∃ p ys, xs = [.ref p] ∧ SqL K H p ys ∧ ∀ (l : Addr) (o : Obj), H l = none → o.dict = none → Q (.ref l) (upd H l (.frz o (.tup ys)))
section
variable {X : Cx}
theorem call_tux : CallR X (.type "tuple") (rTux X.K) := by
  intro pins s g H xs us Q I r h
  obtain ⟨p, ys, rfl, hq, q⟩ := h
  obtain ⟨u, rfl, rx⟩ := vals1 r
  cases rx
  obtain ⟨its, rl, pl, hz⟩ := I.list hq
  have hn : its.toArray.size ≤ sizeLine := by
    rw [List.size_toArray, ← rl.length]
    exact hz
  refine call_tuple_list pl.isList (fun h1 kp => ?_) hn
  have J : Inv X pins g H { s with heap := h1 } := I.kept (t' := s.toks) kp
  let ob : Obj := { cls := .type "tuple", data := .seq its.toArray }
  have fresh := J.hok.fresh (Nat.le_refl h1.objs.size)
  refine ⟨.ref h1.objs.size, upd H h1.objs.size (.frz ob (.tup ys)), ?_, rfl, q _ ob fresh rfl⟩
  refine J.laid (t' := s.toks) (h' := h1.push ob) (fun b o e => Heap.get?_push_of_some _ e) (Nat.le_refl _) ?_
  exact ⟨Heap.get?_push_size _ rfl, hz, its, rl, IsTup.new _ _⟩
end
def tuxD (ds : List D) (S : Store) : Option D := match ds with
  | [.lst xs] => some (.tux xs)
  | [.loc n] => match S[n]? with
    | some (.lst xs) => some (.tux xs)
    | _ => none
  | _ => none
@[simp] theorem tuxD_lst (xs : List D) (S : Store) : tuxD [.lst xs] S = some (.tux xs) := rfl
theorem hlen_tux {H : Hp} {p : Addr} {o : Obj} {xs : List V} (h : HLen H) (hx : xs.length ≤ sizeLine) : HLen (upd H p (.frz o (.tup xs))) := hlen_new h fun ys q => by
  rcases q with q | q | ⟨x, q⟩ | ⟨x, q⟩ <;> cases q
  exact hx
section
variable {K : PySem.W.Frag} {mg : Str → Option Value}
theorem pok_tux : POk K mg (rTux K) tuxD := fun T S H vs ds d Q sim rep e k => by
  have mk : ∀ {a : Addr} {xs : List V} {es : List D}, H a = some (.lst xs) → RepL K T H xs es → d = .tux es → rTux K [V.ref a] H Q := fun {a xs es} h r ed => by
    subst ed
    refine ⟨a, xs, rfl, SqL.of h, fun p o hp ho => ?_⟩
    have st := sim.stepNew (o := .frz o (.tup xs)) hp
    exact k _ _ st (sim.new hp (hlen_tux sim.hl (sim.hl _ _ (.inl (.inl h))))) (.tux ho upd_same (sim.off hp) (r.step st))
  unfold tuxD at e
  split at e
  · cases e
    obtain ⟨v, rfl, r⟩ := rep.one
    cases r with
    | lst h n r => exact mk h r rfl
  · obtain ⟨v, rfl, r⟩ := rep.one
    split at e
    · rename_i xs q
      cases e
      cases r with
      | loc hn =>
        obtain ⟨ys, q1, q2⟩ := sim.obj _ _ _ hn q
        exact mk q1 q2 rfl
    · cases e
  · cases e
end
def tyTux (x : V) (H : Hp) : Prop := ∃ a o xs, x = .ref a ∧ o.dict = none ∧ H a = some (.frz o (.tup xs))
section
variable {X : Cx} {Wx : WX} {o e : Expr} {apos pos : Pos} {mo m : EM}
theorem ty_tux : TyOk X "tuple" tyTux := by
  intro pins g H s x v I r ty
  obtain ⟨a, ob, xs, rfl, hd, hH⟩ := ty
  cases r
  obtain ⟨h1, h2⟩ := I.hok a _ hH
  obtain ⟨_, its, _, tp⟩ := h2
  refine ⟨IsTup.typeIs tp, fun b e => ?_⟩
  cases e
  exact ⟨ob, h1, hd⟩
end
end Dv
namespace Dv
open PySem PySem.Spec PyProof.Rows L2
section
variable {X : Cx}
end
def mulZD (a b : D) (S : Store) : Option D := match a, b with
  | .tup (x :: xs), .int k => if k = 0 then some (.tup []) else mulTD (.tup (x :: xs)) (.int k) S
  | a, b => mulTD a b S
end Dv
namespace Dv
open PySem PySem.Spec PyProof.Rows L2
section
variable {X : Cx}
end
section
variable {X : Cx} {Wx : WX} {o e : Expr} {apos pos : Pos} {mo m : EM}
end
end Dv
namespace Dv
open PySem L2
section
variable {X : Cx} {CX : CXT} {Wx : WX} {k n N : Nat} {f : Addr} {fd : FuncData} {ps ks : List Str} {Fn : List D → Store → R D} {x : Str} {p pos kpos : Pos} {e : Expr} {es : List Expr} {kws : List Keyword} {ms mk : AM} {m : EM} {nm : Option Str}
end
section
variable {K : PySem.W.Frag} {Dk : Addr}
end
end Dv
namespace Dv
open PySem L2
def seqXD (d : D) : Option (List D) := match d with
  | .tux xs => some xs
  | d => seqD d
def mIterX (m : EM) : IM := fun r S => (m r S).bind fun d S1 => ofO (seqXD d) S1
@[simp] theorem mIterX_ap {m : EM} {r : Env} {S : Store} : mIterX m r S = (m r S).bind fun d S1 => ofO (seqXD d) S1 := rfl
@[simp] theorem seqXD_tux (xs : List D) : seqXD (.tux xs) = some xs := rfl
@[simp] theorem seqXD_tup (xs : List D) : seqXD (.tup xs) = some xs := rfl
@[simp] theorem seqXD_lst (xs : List D) : seqXD (.lst xs) = some xs := rfl
section
variable {X : Cx} {Wx : WX} {tg e : Expr} {m : EM}
theorem ji_seqX (h : PE X e (tD X.K X.mg Wx m)) : PI X tg e (iD X.K X.mg Wx (mIterX m)) := pi_imp (pi_sq h) fun g H Q h => by
  obtain ⟨T, r, S, rs, sim, h⟩ := h
  refine ⟨T, r, S, rs, sim, Out.bind h fun d S1 T1 H1 v st sim1 rel h1 => ?_⟩
  refine Out.use h1 fun ds e k => ?_
  cases rel with
  | lst q1 q2 q3 =>
    cases e
    exact .inl ⟨_, _, rfl, SqL.of q1, k T1 H1 _ (Step.refl T1 H1) sim1 ⟨walks_lst (.inl ⟨.inl q1, q2⟩) q3, by rw [← q3.length]; exact sim1.hl _ _ (.inl (.inl q1))⟩⟩
  | tup q1 q2 q3 =>
    cases e
    exact .inr (.inl ⟨_, _, rfl, SqT.of q1, k T1 H1 _ (Step.refl T1 H1) sim1 ⟨walks_tup q1 q2 q3, by rw [← q3.length]; exact sim1.hl _ _ (.inr (.inl q1))⟩⟩)
  | @tux a ob xs _ hd q1 q2 q3 =>
    cases e
    refine .inr (.inl ⟨_, _, rfl, .inl (.inr ⟨ob, q1⟩), k T1 H1 _ (Step.refl T1 H1) sim1 ⟨fun T' S' H' kf sim => ?_, by rw [← q3.length]; exact sim1.hl _ _ (.inr (.inr ⟨ob, q1⟩))⟩⟩)
    have hq : SqT X.K H' a xs := .inl (.inr ⟨ob, (kf.frz a ob _ q2 q1).1⟩)
    refine ⟨⟨xs, hq, by rw [q3.length]; exact Nat.le_refl _⟩, fun i d e => ?_⟩
    obtain ⟨v, h1, h2⟩ := q3.get e
    refine ⟨⟨xs, v, hq, h1⟩, fun x H2 y => ?_⟩
    obtain ⟨rfl, y⟩ := y
    have e2 := (y xs hq).symm.trans h1
    cases e2
    exact ⟨Step.refl _ _, sim, h2.kp kf.toKp⟩
  | scr q =>
    cases e
    exact .inl ⟨_, _, rfl, q.sq, k T1 H1 _ (Step.refl T1 H1) sim1 ⟨walks_lst q (RepL.ints _), by have := sim1.llen q; rw [List.length_map] at this ⊢; exact this⟩⟩
  | str x =>
    have e : seqD (.str x) = some ds := e
    simp only [seqD] at e
    split at e
    · rename_i hz
      cases e
      exact .inr (.inr ⟨x, rfl, k T1 H1 _ (Step.refl T1 H1) sim1 ⟨walks_str, by rw [List.length_map, Array.length_toList]; exact sz5 hz⟩⟩)
    · cases e
  | _ => cases e
end
end Dv
namespace Dv
open PySem PySem.Spec PyProof.Rows L2
section
variable {K : PySem.W.Frag} {mg : Str → Option Value} {T : Tb} {H : Hp} {S : Store}
end
end Dv
namespace Dv
open PySem PySem.Spec PyProof.Rows L2
section
variable {X : Cx} {kx vx tg iter : Expr} {ifs : List Expr} {scope : Scope} {own : List (Str × Nat)} {pos : Pos} {wi : TI} {gt : TG} {tt : TT} {tk tv : TE}
end
end Dv
namespace Dv
open PySem L2
section
variable {X : Cx} {Wx : WX} {kx vx tg iter : Expr} {ifs : List Expr} {scope : Scope} {own : List (Str × Nat)} {pos : Pos} {mi : IM} {sl : List Nat} {gm : D → Env → Option Env} {tt : BM} {tk tv : EM} {nw : Bool}
end
end Dv
namespace Dv
open PySem PySem.Spec PyProof.Rows L2
section
variable {X : Cx} {Wx : WX} {o i e f : Expr} {pos pos' apos cpos : Pos} {mo mi mx mv : EM}
end
section
variable {K : PySem.W.Frag} {mg : Str → Option Value}
end
end Dv
namespace Dv
open PySem PySem.Spec PyProof.Rows L2
open L2 (St)
section
variable {X : Cx} {pins : List (Addr × Obj)} {σ : L2.St} {H : Hp} {s : Shared} {d : Addr} {o : Obj}
end
section
variable {P : Program} {w : World} {K : PySem.W.Frag} {d : Addr} {o : Obj} {es : Array DictEntry} {ep : Nat}
end
section
variable {X : Cx} {e : Expr} {td : TE} {apos cpos : Pos}
end
section
variable {K : PySem.W.Frag} {mg : Str → Option Value} {T : Tb} {H : Hp} {S : Store}
end
section
variable {X : Cx} {Wx : WX} {e : Expr} {apos cpos pos tpos : Pos} {m : EM} {elts : List Expr} {kk : Nat} {sl : List Nat} {gm : D → Env → Option Env} {sb : SM}
end
end Dv
namespace Dv
open PySem PySem.W PySem.Spec PyProof.Rows L2
section
variable {X : Cx}
end
section
variable {K : PySem.W.Frag} {mg : Str → Option Value} {T : Tb} {H : Hp}
end
end Dv
namespace Dv
open PySem PySem.W PySem.Spec PyProof.Rows L2
section
variable {X : Cx}
end
section
variable {K : PySem.W.Frag} {mg : Str → Option Value}
end
section
variable {K : PySem.W.Frag} {mg : Str → Option Value}
end
end Dv
namespace Dv
open PySem L2
section
variable {X : Cx} {K : PySem.W.Frag} {mg : Str → Option Value}
end
end Dv
namespace Dv
open PySem PySem.Spec PyProof.Rows L2
theorem laid_tux {X : Cx} {pins : List (Addr × Obj)} {g : L2.St} {H : Hp} {s : Shared} (I : Inv X pins g H s) {xs : List V} {us : List Value} (r : Vals xs us) (hz : xs.length ≤ sizeLine) :
    ∃ ob : Obj, ob.dict = none ∧ Inv X pins g (upd H s.heap.objs.size (.frz ob (.tup xs))) { s with heap := s.heap.push { cls := .type "tuple", data := .seq us.toArray } } ∧ H s.heap.objs.size = none := by
  refine ⟨{ cls := .type "tuple", data := .seq us.toArray }, rfl, I.laid (t' := s.toks) (fun b o e => Heap.get?_push_of_some _ e) (Nat.le_refl _) ?_, I.hok.fresh (Nat.le_refl _)⟩
  exact ⟨Heap.get?_push_size _ rfl, hz, us, r, IsTup.new _ _⟩
abbrev NewX (Q : VK) (H : Hp) (xs : List V) : Prop := ∀ (p : Addr) (o : Obj), H p = none → o.dict = none → Q (.ref p) (upd H p (.frz o (.tup xs)))
def tTupX (t : TA) : TE := fun g H Q => t g H fun xs H1 => xs.length ≤ sizeLine ∧ NewX Q H1 xs
section
variable {X : Cx} {Wx : WX} {es : List Expr} {pos : Pos} {t : TA} {ms : AM}
theorem pe_tupX {x1} (h : PA X es t) : PE X (.Tuple es x1 pos) (tTupX t) := ⟨fun pins s g H Q I hq => by
  refine wpAny_Tuple_spliced (thn (h.run pos pins s g H _ I hq) fun us s1 hv => ?_)
  obtain ⟨xs, H1, I1, r, z, q⟩ := hv
  obtain ⟨ob, hd, I2, hp⟩ := laid_tux I1 r z
  exact ⟨by rw [← r.length]; exact z, .ref s1.heap.objs.size, _, I2, rfl, q _ ob hp hd⟩⟩
def mTux (ms : AM) : EM := fun r S => (ms r S).bind fun ds S1 => if ds.length ≤ 100000 then .ok (.tux ds) S1 else .bad
@[simp] theorem mTux_ap {ms : AM} {r : Env} {S : Store} : mTux ms r S = (ms r S).bind fun ds S1 => if ds.length ≤ 100000 then .ok (.tux ds) S1 else .bad := rfl
theorem j_tux {x1} (h : PA X es (tDA X.K X.mg Wx ms)) : PE X (.Tuple es x1 pos) (tD X.K X.mg Wx (mTux ms)) := by
  refine pe_imp (pe_tupX h) fun g H Q h => ?_
  obtain ⟨T, r, S, rs, sim, h⟩ := h
  refine ⟨T, r, S, rs, sim, Out.bind h fun ds S1 T1 H1 vs st sim1 rel h1 => ?_⟩
  split at h1
  · rename_i hz
    have hz' : vs.length ≤ sizeLine := by rw [rel.length]; exact sz5 hz
    refine ⟨hz', fun p o hp ho => ?_⟩
    have st1 := sim1.stepNew (o := .frz o (.tup vs)) hp
    exact h1 T1 _ _ st1 (sim1.new hp (hlen_tux sim1.hl hz')) (.tux ho upd_same (sim1.off hp) (rel.step st1))
  · exact h1.elim
end
def rCatX (K : PySem.W.Frag) : R2 := fun x y H Q => ∃ a b xs ys, x = .ref a ∧ y = .ref b ∧ SqT K H a xs ∧ SqT K H b ys ∧ xs.length + ys.length ≤ sizeLine ∧
  (xs = [] → Q (.ref b) H) ∧ (xs ≠ [] → ys = [] → Q (.ref a) H) ∧ (xs ≠ [] → ys ≠ [] → NewX Q H (xs ++ ys))
section
variable {X : Cx}
theorem op_catX : OpR X (binaryOp .Add) (rCatX X.K) := by
  intro pins s g H x y v u Q I rx ry h
  obtain ⟨a, b, xs, ys, rfl, rfl, ha, hb, hz, q0, q1, q2⟩ := h
  cases rx
  cases ry
  obtain ⟨us, ra, pa, _⟩ := I.tuple ha
  obtain ⟨ws, rb, pb, _⟩ := I.tuple hb
  cases us with
  | nil =>
    have hx : xs = [] := ra.nil_iff.mp rfl
    exact cat_tup0 pa pb ⟨.ref b, H, I, rfl, q0 hx⟩
  | cons u0 us =>
    have hx : xs ≠ [] := fun z => by
      have := ra.nil_iff.mpr z
      cases this
    obtain ⟨ob, hd, I2, hp⟩ := laid_tux I (ra.append rb) (by rw [List.length_append]; exact hz)
    exact HT.cat_tup pa pb (by simp) (fun z => ⟨.ref a, H, I, rfl, q1 hx (rb.nil_iff.mp z)⟩) (fun z => ⟨.ref s.heap.objs.size, _, I2, rfl, q2 hx (fun w => z (rb.nil_iff.mpr w)) _ ob hp hd⟩) (by rw [← ra.length, ← rb.length]; exact hz)
end
def addXD (a b : D) (S : Store) : Option D := match a, b with
  | .tux xs, .tux ys => if xs.length + ys.length ≤ 100000 then some (.tux (xs ++ ys)) else none
  | a, b => addD a b S
@[simp] theorem addXD_tux (xs ys : List D) (S : Store) : addXD (.tux xs) (.tux ys) S = if xs.length + ys.length ≤ 100000 then some (.tux (xs ++ ys)) else none := rfl
def rAddX (K : PySem.W.Frag) : R2 := fun x y H Q => rAddA K x y H Q ∨ rCatX K x y H Q
theorem op_addX {X : Cx} : OpR X (binaryOp .Add) (rAddX X.K) := OpR.or op_addA op_catX
theorem pok_addX {K : PySem.W.Frag} {mg : Str → Option Value} : POk2 K mg (rAddX K) addXD := fun T S H x y a b d Q sim rx ry e k => by
  unfold addXD at e
  split at e
  · rename_i xs ys
    split at e
    · rename_i hz
      cases e
      cases rx with
      | @tux a1 o1 vs _ hd1 h1 n1 r1 =>
        cases ry with
        | @tux a2 o2 ws _ hd2 h2 n2 r2 =>
          have hz' : vs.length + ws.length ≤ sizeLine := by rw [r1.length, r2.length]; exact sz5 hz
          refine .inr ⟨a1, a2, vs, ws, rfl, rfl, .inl (.inr ⟨o1, h1⟩), .inl (.inr ⟨o2, h2⟩), hz', fun z => ?_, fun _ z => ?_, fun _ _ p o hp ho => ?_⟩
          · subst z
            cases r1
            exact k H _ (Step.refl T H) sim (.tux hd2 h2 n2 r2)
          · subst z
            cases r2
            rw [List.append_nil] at k
            exact k H _ (Step.refl T H) sim (.tux hd1 h1 n1 r1)
          · have st := sim.stepNew (o := .frz o (.tup (vs ++ ws))) hp
            exact k _ _ st (sim.new hp (hlen_tux sim.hl (by rw [List.length_append]; exact hz'))) (.tux ho upd_same (sim.off hp) (RepL.append (r1.step st) (r2.step st)))
    · cases e
  · exact .inl (pok_add T S H x y a b d Q sim rx ry e k)
section
variable {X : Cx}
end
def slYD (d : D) (lo hi : Option Int) (S : Store) : Option D := match d with
  | .tux xs => some (.tux (cutL xs lo hi))
  | d => slD d lo hi S
@[simp] theorem slYD_tux (xs : List D) (lo hi : Option Int) (S : Store) : slYD (.tux xs) lo hi S = some (.tux (cutL xs lo hi)) := rfl
section
variable {X : Cx} {K : PySem.W.Frag} {mg : Str → Option Value} {Wx : WX} {e : Expr} {m : EM} {ml mh : OM} {pos p2 : Pos} {lo hi : Option Expr}
end
section
variable {X : Cx} {Wx : WX} {m : EM}
end
section
variable {X : Cx} {Wx : WX} {m : EM} {K : PySem.W.Frag} {mg : Str → Option Value}
end
def mulXD (a b : D) (S : Store) : Option D := match a, b with
  | .tux (x :: xs), .int k => if k = 0 then some (.tux []) else if k = 1 then some (.tux (x :: xs)) else if 2 ≤ k ∧ k ≤ 1000 ∧ xs.length ≤ 90 then some (.tux (List.replicate k.toNat (x :: xs)).flatten) else none
  | a, b => mulZD a b S
def lenXD (ds : List D) (S : Store) : Option D := match ds with
  | [.tux xs] => some (.int (xs.length : Nat))
  | ds => lenD ds S
@[simp] theorem lenXD_tux (xs : List D) (S : Store) : lenXD [.tux xs] S = some (.int (xs.length : Nat)) := rfl
def ixXD (a b : D) (S : Store) : Option D := match a, b with
  | .tux xs, .int i => atI xs i
  | a, b => ixD a b S
@[simp] theorem ixXD_tux (xs : List D) (i : Int) (S : Store) : ixXD (.tux xs) (.int i) S = atI xs i := rfl
def truXD (d : D) (S : Store) : Option Bool := match d with
  | .tux xs => some (!xs.isEmpty)
  | d => truD d S
@[simp] theorem truXD_tux (xs : List D) (S : Store) : truXD (.tux xs) S = some (!xs.isEmpty) := rfl
section
variable {X : Cx} {K : PySem.W.Frag} {mg : Str → Option Value}
theorem pok_lenX : POk K mg (fun xs H Q => ∃ x n, xs = [x] ∧ LenV K x H n ∧ Q (.int n) H) lenXD := fun T S H vs ds d Q sim rep e k => by
  unfold lenXD at e
  split at e
  · cases e
    obtain ⟨v, rfl, r⟩ := rep.one
    cases r with
    | @tux l ob vs _ hd h n q => exact ⟨_, _, rfl, .inr ⟨vs, .inl (.inr ⟨ob, h⟩), q.length.symm⟩, k H _ (Step.refl T H) sim (.int _)⟩
  · exact pok_len T S H vs _ d Q sim rep e k
end
end Dv
namespace Dv
open PySem PySem.Spec PyProof.Rows L2
section
variable {X : Cx} {K : PySem.W.Frag} {mg : Str → Option Value} {Wx : WX}
theorem pok_ixX : POk2 K mg (rIx K) ixXD := fun T S H x y a b d Q sim rx ry e k => by
  unfold ixXD at e
  split at e
  · rename_i xs i
    cases rx with
    | @tux l ob vs _ hd h n r =>
      cases ry
      obtain ⟨v, h1, h2⟩ := atI_rep r e
      exact .inr (.inl ⟨l, vs, i, v, rfl, rfl, .inl (.inr ⟨ob, h⟩), h1, k H _ (Step.refl T H) sim h2⟩)
  · exact pok_ix T S H x y _ _ d Q sim rx ry e k
theorem truXD_ok {T : Tb} {S : Store} {H : Hp} {v : V} {d : D} {b : Bool} (sim : Sim K mg T S H) (h : Rep K T H v d) (e : truXD d S = some b) : TruV K v H b := by
  unfold truXD at e
  split at e
  · cases e
    cases h with
    | @tux l ob ys _ hd hH n r => exact .inr (.inl ⟨ys, .inl (.inr ⟨ob, hH⟩), (isEmpty_rep r).symm⟩)
  · exact truD_ok sim h e
def mTruX (m : EM) : BM := fun r S => (m r S).bind fun d S1 => ofO (truXD d S1) S1
@[simp] theorem mTruX_ap {m : EM} {r : Env} {S : Store} : mTruX m r S = (m r S).bind fun d S1 => ofO (truXD d S1) S1 := rfl
def isiXD (ds : List D) (S : Store) : Option D := match ds with
  | [.tux _, .ty n] => (kitB "tuple" n).map .bl
  | ds => isiD ds S
@[simp] theorem isiXD_tux (xs : List D) (n : String) (S : Store) : isiXD [.tux xs, .ty n] S = (kitB "tuple" n).map .bl := rfl
theorem pok_isiX : POk K mg (rIsi K) isiXD := fun T S H vs ds d Q sim rep e k => by
  unfold isiXD at e
  split at e
  · rename_i xs n
    cases rep with
    | cons r1 q =>
      cases q with
      | cons r2 q =>
        cases q
        have e : (kitB "tuple" n).map D.bl = some d := e
        cases q2 : kitB "tuple" n with
        | none => rw [q2] at e; cases e
        | some b =>
          rw [q2] at e
          cases e
          cases r2
          cases r1 with
          | @tux l ob ys _ hd hH hn r => exact ⟨_, _, _, _, b, rfl, .ty n, .fTuple hH, kit_ty q2, k H _ (Step.refl T H) sim (.bl _)⟩
  · exact pok_isi T S H vs _ d Q sim rep e k
end
def rTCnt (K : PySem.W.Frag) : V → List V → Hp → VK → Prop := fun x xs H Q => ∃ (a : Addr) (y : V) (d : PyData) (vs : List V) (ds : List PyData), x = V.ref a ∧ xs = [y] ∧ SqT K H a vs ∧ DpAll K H vs ds ∧ Dp K H y d ∧
  SeqAt.shaped (.list ds) = true ∧ SeqAt.shaped d = true ∧ Q (.int ((ds.countP fun z => PyData.eqv z d : Nat) : Int)) H
section
variable {X : Cx}
theorem mt_tcnt (hu : X.A.units + 65 < cLine) : MtR X "tuple.count" (rTCnt X.K) := by
  intro pins s g H x xs v us Q I rx rxs h
  obtain ⟨a, y, d, vs, ds, rfl, rfl, hs, ha, hy, sl, sd, q⟩ := h
  cases rx
  cases rxs with
  | cons ry rt =>
    rename_i uy ut
    cases rt
    obtain ⟨bs, r1⟩ := Dp.reads I d y uy hy ry
    have hxs : PyData.canLayAll0 ds = true := SeqAt.canLay_of_shaped sl
    have hroom : X.A.units + 1 + min (PyData.depthAll ds) d.depth < cLine := room_in_shaped sd hu
    obtain ⟨its, rv, tp, hlen⟩ := I.tuple hs
    obtain ⟨as, h4⟩ := Dp.readsAll I ds _ its ha rv
    have hmap : its.map (SeqAt.readOf s.heap) = ds := SeqAt.readsAll_map ds its as hxs h4
    have eqs := SeqAt.items_eqAt (vs := its.toArray) (show ReadsAll s.heap its.toArray.toList ds as from h4) r1 hxs (SeqAt.canLay_of_shaped sd) hroom
    have hc : its.toArray.toList.countP (fun u => PyData.eqv (SeqAt.readOf s.heap u) d) = ds.countP fun z => PyData.eqv z d := by
      rw [← hmap, List.countP_map]
      rfl
    obtain ⟨⟨cls, dd, data, slots⟩, ho, hcl, n, hd⟩ := id tp
    simp only at hcl hd
    subst hcl hd
    refine call_meets F.slot_tuple_count ⟨_, ho, rfl⟩ F.entry_tuple_count (F.args_tuple_count_2 _ _) (SeqAt.tuple_countAt a its.toArray n dd slots uy (fun u => PyData.eqv (SeqAt.readOf s.heap u) d)) ⟨ho, eqs, ?_⟩
    rw [hc]
    exact ⟨.int ((ds.countP fun z => PyData.eqv z d : Nat) : Int), H, I.tok _, ⟨_, rfl⟩, q⟩
end
def cntP (xs : List D) (b : D) : Option D := if okD (.lst xs) = true ∧ okD b = true then some (.int ((xs.countP fun z => eqvD z b : Nat) : Int)) else none
def mCntX (mo m : EM) : EM := fun r S => (mo r S).bind fun o S1 => match o with
  | .tux xs => (m r S1).bind fun d S2 => ofO (cntP xs (now d S2)) S2
  | _ => .bad
section
variable {X : Cx} {Wx : WX} {o e : Expr} {apos pos : Pos} {mo m : EM}
theorem j_cntX (hu : X.A.units + 65 < cLine) (ho : PE X o (tD X.K X.mg Wx mo)) (ha : PE X e (tD X.K X.mg Wx m)) (hbase : attributeBase o "count" X.env (eval o X.env) = eval o X.env := by rfl)
    (hfew : ((backTo pos (starEach [e] X.env)).all (fun x => !x.1) && (backToKw pos (keywordEach [] X.env)).all (fun x => x.1.isSome) && decide (([e] : List Expr).length + ([] : List Keyword).length + (if ([] : List Keyword).isEmpty then 0 else 1) < 30)) = true := by rfl)
    (hline : (apos.endLine == pos.line) = true := by rfl) (hs : starEach [e] X.env = (false, eval e X.env) :: starEach [] X.env := by rfl) (hplain : (backTo pos (starEach [] X.env)).any (·.1) = false := by rfl) :
    PE X (.Call (.Attribute o "count" apos) [e] [] pos) (tD X.K X.mg Wx (mCntX mo m)) :=
  pe_imp (pe_mG ty_tux PySem.F.plainAttrs_tuple PySem.F.slot_tuple_count PySem.F.type_tuple_count (mt_tcnt hu) ho (pa_cons ha pa_nil hs) hbase hfew hline hs hplain) fun g H Q h => by
    obtain ⟨T, r, S, rs, sim, h⟩ := h
    refine ⟨T, r, S, rs, sim, Out.bind h fun d S1 T1 H1 v st sim1 rel h1 => ?_⟩
    split at h1
    · rename_i xs
      cases rel with
      | @tux a ob vs _ hd hH n rl =>
        refine ⟨⟨a, ob, vs, rfl, hd, hH⟩, T1, r, S1, rs.step st, sim1, Out.bind h1 fun y S2 T2 H2 w st2 sim2 rel2 h2 => ?_⟩
        refine Out.use h2 fun d' e k => ?_
        unfold cntP at e
        split at e
        · rename_i c
          cases e
          have c1 : (dats xs && SeqAt.shaped (.list (pyDs xs))) = true := c.1
          rw [Bool.and_eq_true] at c1
          have c2 : (dat (now y S2) && SeqAt.shaped (pyD (now y S2))) = true := c.2
          rw [Bool.and_eq_true] at c2
          refine ⟨a, w, pyD (now y S2), vs, pyDs xs, rfl, rfl, .inl (.inr ⟨ob, st2.keep a _ n hH⟩), (rl.step st2).dp c1.1, now_dp sim2 rel2 c2.1, c1.2, c2.2, ?_⟩
          have hc : ((pyDs xs).countP fun z => PyData.eqv z (pyD (now y S2))) = xs.countP fun z => eqvD z (now y S2) := by
            rw [pyDs_map, List.countP_map]
            rfl
          rw [hc]
          exact k T2 H2 _ (Step.refl T2 H2) sim2 (.int _)
        · cases e
    · exact h1.elim
end
section
variable {X : Cx} {Wx : WX} {a : Expr} {ma : EM}
theorem jt_truX (ha : PE X a (tD X.K X.mg Wx ma)) (he : ∀ whole, isTrue a X.env whole = (do let v ← whole; standAt a.pos; holding [v] (truthy v)) := by intro _; rfl) : PT X a (tDT X.K X.mg Wx (mTruX ma)) :=
  pt_imp (pt_truth ha he) fun g H Q h => by
    obtain ⟨T, r, S, rs, sim, h⟩ := h
    refine ⟨T, r, S, rs, sim, Out.bind h fun d S1 T1 H1 v st sim1 rel h1 => ?_⟩
    refine Out.use h1 fun b e k => ⟨b, truXD_ok sim1 rel e, k T1 H1 b (Step.refl T1 H1) sim1 rfl⟩
end
end Dv
namespace Dv
open PySem PySem.Spec PyProof.Rows L2
section
variable {P : Program} {w : World} {A : Around} {Ex : Value → Shared → Prop} {s : Shared}
end
end Dv
namespace Dv
open PySem PySem.Spec PyProof.Rows L2
abbrev MEnt := Nat × Addr × List Key
section
variable {P : Program} {w : World} {A : Around} {Ex : Value → Shared → Prop} {s : Shared} {a : Addr} {E : List MEnt} {es : Array (Int × Value)} {ep : Nat} {t : SetTable} {h : Heap}
end
end Dv
namespace Dv
open PySem PySem.Spec PyProof.Rows L2
section
variable {P : Program} {w : World} {A : Around} {Ex : Value → Shared → Prop} {s : Shared} {a : Addr} {E : List MEnt} {es : Array (Int × Value)} {ep : Nat} {t : SetTable}
end
end Dv
namespace Dv
open PySem PySem.Spec PyProof.Rows L2
section
variable {P : Program} {w : World} {A : Around} {s : Shared}
end
end Dv
namespace Dv
open PySem PySem.Spec PyProof.Rows L2
section
variable {X : Cx} {Wx : WX} {e e2 : Expr} {ms : AM} {pos p tpos : Pos} {elts : List Expr} {kk : Nat}
end
end Dv
namespace Dv
open PySem PySem.Spec PyProof.Rows L2
section
variable {K : PySem.W.Frag} {T : Tb} {H : Hp}
end
section
variable {X : Cx}
end
end Dv
namespace Dv
open PySem L2
end Dv
namespace Dv
open PySem PySem.Spec PyProof.Rows L2
section
variable {prog : Program} {w : World} {A : Around} {s : Shared} {Q : Bool → Shared → Prop}
end
end Dv
namespace Dv
open PySem PySem.Spec PyProof.Rows L2
section
variable {X : Cx}
end
end Dv
namespace Dv
open PySem PySem.Spec PyProof.Rows L2
section
variable {K : PySem.W.Frag} {mg : Str → Option Value} {T : Tb} {S : Store} {H : Hp}
end
section
variable {X : Cx} {Wx : WX}
end
end Dv
namespace Dv
open PySem L2
theorem loop_step {gm : D → Env → Option Env} {b : SM} {t : D} {ts : List D} {r r1 r2 : Env} {S S2 : Store} (e1 : gm t r = some r1) (e2 : b r1 S = .ok .next r2 S2) : sLoop gm b (t :: ts) r S = sLoop gm b ts r2 S2 := by
  rw [sLoop_cons, e1]
  simp only [e2]
theorem loop_out {gm : D → Env → Option Env} {b : SM} {t x : D} {ts : List D} {r r1 r2 : Env} {S S2 : Store} (e1 : gm t r = some r1) (e2 : b r1 S = .ok (.ret x) r2 S2) : sLoop gm b (t :: ts) r S = .ok (.ret x) r2 S2 := by
  rw [sLoop_cons, e1]
  simp only [e2]
theorem last_at {S : Store} (o : O) : (S ++ [o])[S.length]? = some o := by simp
theorem last_set {S : Store} (o o' : O) : (S ++ [o]).set S.length o' = S ++ [o'] := by simp
theorem seq_ok {S S1 : Store} {a b : SM} {r r1 : Env} (h : a r S = .ok .next r1 S1) : sSeq a b r S = b r1 S1 := by
  rw [sSeq_ap, h]
theorem fn_ret {S : Store} {sz : Nat} {m : SM} {ds : List D} {b : D} (hb : clo S.length b = true) (h : ∃ rho, m (frame sz ds) S = .ok (.ret b) rho S) : runT sz m ds S = .ok b S := by
  obtain ⟨rho, h⟩ := h
  show finT S (m (frame sz ds) S) = _
  rw [h]
  exact fin_ret0 hb
theorem cut_take {α : Type} (xs : List α) (j : Nat) : cutL xs none (some (j : Int)) = xs.take j := by
  unfold cutL
  rw [HT.sIx_none, HT.sIx_nat, List.drop_zero, Nat.sub_zero]
  by_cases h : j ≤ xs.length
  · rw [Nat.min_eq_left h]
  · rw [Nat.min_eq_right (by omega), List.take_of_length_le (Nat.le_refl _), List.take_of_length_le (by omega)]
theorem fin_dif {S S1 : Store} {t n : Nat} {rho : Env} {d : D} (ht : t < S.length) (hl : S.length ≤ S1.length) (tw : Twn t n S1) (keep : ∀ i, i < S.length → i ≠ t → S1[i]? = S[i]?) (hd : clo S.length d = true) : ∃ S', finT S (.ok (.ret d) rho S1) = .ok d S' ∧ Twn t n S' ∧ Dif t S S' := by
  obtain ⟨ts, t1, t2⟩ := tw
  have tk : S1.take S.length = List.set S t (.lst (ts.map D.int)) := by
    refine List.ext_getElem? fun i => ?_
    rw [List.getElem?_take]
    by_cases hi : i < S.length
    · rw [if_pos hi]
      by_cases q : i = t
      · subst q
        rw [t2, List.getElem?_set_self hi]
      · rw [keep i hi q, List.getElem?_set_ne (fun z => q z.symm)]
    · rw [if_neg hi, List.getElem?_eq_none (by rw [List.length_set]; omega)]
  refine ⟨List.set S t (.lst (ts.map D.int)), ?_, ⟨ts, t1, List.getElem?_set_self ht⟩, ⟨ts, rfl⟩⟩
  rw [← tk]
  refine finT_ret ⟨hl, fun i o hi ho => ?_⟩ (fz_clo hd)
  by_cases q : i = t
  · subst q
    rw [t2] at ho
    cases ho
    exact .inr (cloL_ints _ _)
  · rw [keep i hi q] at ho
    exact .inl ho
theorem twn_lt {S : Store} {t n : Nat} (tw : Twn t n S) : t < S.length := by
  obtain ⟨ts, a, b⟩ := tw
  exact (List.getElem?_eq_some_iff.mp b).1
theorem twn_app {S E : Store} {t n : Nat} (tw : Twn t n S) : Twn t n (S ++ E) := by
  obtain ⟨ts, a, b⟩ := tw
  exact ⟨ts, a, by rw [List.getElem?_append_left (List.getElem?_eq_some_iff.mp b).1]; exact b⟩
theorem twn_set {S : Store} {t n L : Nat} {o : O} (h : L ≠ t) (tw : Twn t n S) : Twn t n (List.set S L o) := by
  obtain ⟨ts, a, b⟩ := tw
  exact ⟨ts, a, by rw [List.getElem?_set_ne h]; exact b⟩
structure Bt where
  w : Str
  n : Nat
  rows : List (List Int)
abbrev pqrs : List Str := ["p", "q", "r", "s", "t", "a", "b", "c", "d", "e", "f", "g", "h", "w"]
structure Bt.Ok (most : Nat) (far : Int) (x : Bt) : Prop where
  w : x.w ∈ pqrs
  lo : 1 ≤ x.n
  hi : x.n ≤ 5
  len : x.rows.length ≤ most
  row : ∀ r ∈ x.rows, Row x.n far r
  up : x.rows.Pairwise fun a b => ltR a b = true
section
variable {S : Store} {ns : List Int} {n t most far : Nat}
end
end Dv
namespace Dv
open PySem L2
inductive Tm where
  | nm (x : Str)
  | vl (i : Int)
def trD : Tm → D
  | .nm x => .str x
  | .vl i => .int i
def trN : Tm → Option Str
  | .nm x => some x
  | .vl _ => none
abbrev abcd : List Str := ["a", "b", "c", "d", "e", "x", "y", "z"]
def Tm.Ok : Tm → Prop
  | .nm x => x ∈ abcd
  | .vl i => 0 ≤ i ∧ i < 3
structure At where
  w : Str
  ts : List Tm
def atD (a : At) : D := .tup [.str a.w, .tup (a.ts.map trD)]
structure Ck where
  s : Str
  x : Str
  z : Tm
def ckD (c : Ck) : D := .tup [.str c.s, .str c.x, trD c.z]
def usd (as : List At) : List Str := as.flatMap fun a => a.ts.filterMap trN
def askD (as : List At) (cs : List Ck) : D := .tup [.tup (as.map atD), .tup (cs.map ckD)]
theorem clo_tr (m : Nat) (t : Tm) : clo m (trD t) = true := by cases t <;> rfl
theorem cloL_trs (m : Nat) (ts : List Tm) : cloL m (ts.map trD) = true := (cloL_iff m _).mpr fun d hd => by
  obtain ⟨x, _, rfl⟩ := List.mem_map.mp hd
  exact clo_tr m x
theorem clo_at (m : Nat) (a : At) : clo m (atD a) = true := by
  show (true && (cloL m (a.ts.map trD) && true)) = true
  rw [cloL_trs]
  rfl
theorem clo_ck (m : Nat) (c : Ck) : clo m (ckD c) = true := by
  show (true && (true && (clo m (trD c.z) && true))) = true
  rw [clo_tr]
  rfl
theorem clo_ask (m : Nat) (as : List At) (cs : List Ck) : clo m (askD as cs) = true := by
  have h1 : cloL m (as.map atD) = true := (cloL_iff m _).mpr fun d hd => by
    obtain ⟨x, _, rfl⟩ := List.mem_map.mp hd
    exact clo_at m x
  have h2 : cloL m (cs.map ckD) = true := (cloL_iff m _).mpr fun d hd => by
    obtain ⟨x, _, rfl⟩ := List.mem_map.mp hd
    exact clo_ck m x
  show (cloL m (as.map atD) && (cloL m (cs.map ckD) && true)) = true
  rw [h1, h2]
  rfl
theorem cloL_strs (m : Nat) (xs : List Str) : cloL m (xs.map D.str) = true := (cloL_iff m _).mpr fun d hd => by
  obtain ⟨x, _, rfl⟩ := List.mem_map.mp hd
  rfl
theorem isi_tr (t : Tm) (S : Store) : isiD [trD t, .ty "str"] S = some (.bl (trN t).isSome) := by cases t <;> rfl
theorem strs_lc {S : Store} {r0 : Env} {j : Nat} (hj : j < r0.length) (ts : List Tm) : lcL (tgN j) (mTru (mCall isiD (mCons (mVar j) (mCons (mC (.ty "str")) mNil)))) (mVar j) r0 (ts.map trD) S = .ok ((ts.filterMap trN).map D.str) S := by
  induction ts with
  | nil => rfl
  | cons t ts ih =>
    have e : (r0.set j (some (trD t)))[j]? = some (some (trD t)) := List.getElem?_set_self hj
    have i := isi_tr t S
    rw [List.map_cons, lcL_cons]
    simp only [tgN_ap, mTru_ap, mCall_ap, mCons_ap, mVar_ap, e, rb_ok, mC_ap, mNil_ap, i, ofO_some, truD_bl, nox_ok]
    cases t with
    | nm x =>
      simp only [trN, Option.isSome_some, if_true, e, ih, rb_ok, nox_ok]
      rfl
    | vl i =>
      simp only [trN, Option.isSome_none, Bool.false_eq_true, if_false, ih]
      rfl
section
variable {S : Store} {ns : List Int} {n t : Nat}
end
end Dv
namespace Dv
open PySem L2
abbrev Gv := List (Str × Int)
def gLk : Gv → Str → Option Int
  | [], _ => none
  | p :: g, x => if p.1 = x then some p.2 else gLk g x
def gPut (g : Gv) (x : Str) (v : Int) : Gv := if (gLk g x).isSome = true then g.map (fun p => if p.1 = x then (p.1, v) else p) else g ++ [(x, v)]
def ev (f : Str → Int) : Tm → Int
  | .nm x => f x
  | .vl i => i
def fng (g : Gv) (x : Str) : Int := (gLk g x).getD 0
def rowsW (tb : List Bt) (w : Str) : List (List Int) := match tb.find? fun x => decide (x.w = w) with
  | some x => x.rows
  | none => []
def ckB (f : Str → Int) (c : Ck) : Bool := if c.s = "less" then decide (f c.x < ev f c.z) else decide (f c.x ≠ ev f c.z)
theorem mem_usd {x : Str} {as : List At} : x ∈ usd as ↔ ∃ a ∈ as, Tm.nm x ∈ a.ts := by
  unfold usd
  rw [List.mem_flatMap]
  refine exists_congr fun a => and_congr_right fun _ => ?_
  rw [List.mem_filterMap]
  constructor
  · rintro ⟨t, ht, e⟩
    cases t with
    | nm y => cases e; exact ht
    | vl i => cases e
  · exact fun h => ⟨_, h, rfl⟩
def CkIn (as : List At) (c : Ck) : Prop := c.x ∈ usd as ∧ ∀ y, c.z = .nm y → y ∈ usd as
end Dv
namespace Dv
open PySem L2
def nmT (acc : List Str) : Tm → List Str
  | .nm x => if x ∈ acc then acc else acc ++ [x]
  | .vl _ => acc
theorem nmT_nm (acc : List Str) (x : Str) : nmT acc (.nm x) = if x ∈ acc then acc else acc ++ [x] := rfl
def nmsT (ts : List Tm) (acc : List Str) : List Str := ts.foldl nmT acc
theorem mem_nmsT {x : Str} : ∀ (ts : List Tm) (acc : List Str), x ∈ nmsT ts acc ↔ x ∈ acc ∨ Tm.nm x ∈ ts
  | [], acc => by simp [nmsT]
  | .nm y :: ts, acc => by
    show x ∈ nmsT ts (nmT acc (.nm y)) ↔ _
    rw [mem_nmsT ts, nmT_nm]
    by_cases c : y ∈ acc
    · rw [if_pos c]
      constructor
      · rintro (h | h)
        · exact .inl h
        · exact .inr (List.mem_cons_of_mem _ h)
      · rintro (h | h)
        · exact .inl h
        · rcases List.mem_cons.mp h with e | h
          · cases e; exact .inl c
          · exact .inr h
    · rw [if_neg c, List.mem_append, List.mem_singleton]
      constructor
      · rintro ((h | h) | h)
        · exact .inl h
        · subst h; exact .inr List.mem_cons_self
        · exact .inr (List.mem_cons_of_mem _ h)
      · rintro (h | h)
        · exact .inl (.inl h)
        · rcases List.mem_cons.mp h with e | h
          · cases e; exact .inl (.inr rfl)
          · exact .inr h
  | .vl i :: ts, acc => by
    show x ∈ nmsT ts acc ↔ _
    rw [mem_nmsT ts]
    refine or_congr_right ⟨fun h => List.mem_cons_of_mem _ h, fun h => ?_⟩
    rcases List.mem_cons.mp h with e | h
    · cases e
    · exact h
theorem nodup_nmsT : ∀ (ts : List Tm) (acc : List Str), acc.Nodup → (nmsT ts acc).Nodup
  | [], acc, h => h
  | .nm y :: ts, acc, h => by
    refine nodup_nmsT ts (nmT acc (.nm y)) ?_
    rw [nmT_nm]
    by_cases c : y ∈ acc
    · rw [if_pos c]; exact h
    · rw [if_neg c]
      exact List.nodup_append.mpr ⟨h, by simp, fun a ha b hb e => by rw [List.mem_singleton.mp hb] at e; exact c (e ▸ ha)⟩
  | .vl i :: ts, acc, h => nodup_nmsT ts acc h
def tmsA (as : List At) : List Tm := as.flatMap (·.ts)
def nms (as : List At) : List Str := nmsT (tmsA as) []
theorem mem_nms {x : Str} {as : List At} : x ∈ nms as ↔ x ∈ usd as := by
  unfold nms
  rw [mem_nmsT, mem_usd]
  unfold tmsA
  rw [List.mem_flatMap]
  simp
theorem nodup_nms (as : List At) : (nms as).Nodup := nodup_nmsT _ _ List.nodup_nil
theorem nms_abcd {as : List At} (h : ∀ a ∈ as, ∀ t ∈ a.ts, t.Ok) : ∀ x ∈ nms as, x ∈ abcd := fun x hx => by
  obtain ⟨a, ha, ht⟩ := mem_usd.mp (mem_nms.mp hx)
  exact h a ha _ ht
def vexS (vals : List Int) (rs : List (List Int)) : List (List Int) := rs.flatMap fun r => vals.map fun v => r ++ [v]
def vex (vals : List Int) : Nat → List (List Int)
  | 0 => [[]]
  | n + 1 => vexS vals (vex vals n)
def gZipA : List Str → List Int → Gv → Gv
  | x :: xs, v :: vs, g => gZipA xs vs (gPut g x v)
  | _, _, g => g
def satB (tb : List Bt) (as : List At) (cs : List Ck) (f : Str → Int) : Bool := (as.all fun a => decide (a.ts.map (ev f) ∈ rowsW tb a.w)) && cs.all (ckB f)
def zf (xs : List Str) (r : List Int) : Str → Int := fng (gZipA xs r [])
def due (tb : List Bt) (as : List At) (cs : List Ck) (vals : List Int) : List (List Int) := (vex vals (nms as).length).filter fun r => satB tb as cs (zf (nms as) r)
end Dv
namespace Jt
open PySem L2 Dv
def upd (f : Str → Int) (x : Str) (v : Int) : Str → Int := fun y => if y = x then v else f y
def SumF (V : List Int) : List Str → ((Str → Int) → Nat) → (Str → Int) → Nat
  | [], F, f => F f
  | x :: xs, F, f => (V.map fun v => SumF V xs F (upd f x v)).sum
section
variable {V : List Int} {xs ys : List Str} {F G : (Str → Int) → Nat} {f : Str → Int}
end
end Jt
namespace Jt
open PySem L2 Dv
inductive Ears (N : Nat → List Str) : List Nat → List (Nat × Nat) → List Nat → Prop
  | nil (L : List Nat) : Ears N L [] L
  | cons {L : List Nat} {e p : Nat} {P : List (Nat × Nat)} {L' : List Nat} : e ∈ L → p ∈ L → p ≠ e → (∀ y ∈ N e, (∃ i ∈ L, i ≠ e ∧ y ∈ N i) → y ∈ N p) → Ears N (L.erase e) P L' → Ears N L ((e, p) :: P) L'
def Ex (N : Nat → List Str) (e p : Nat) : List Str := (N e).filter fun y => decide (y ∉ N p)
section
variable {V : List Int} {N : Nat → List Str} {L L' : List Nat} {P : List (Nat × Nat)} {e p : Nat}
theorem Ears.snoc (h : Ears N L P L') (he : e ∈ L') (hp : p ∈ L') (hne : p ≠ e) (k : ∀ y ∈ N e, (∃ i ∈ L', i ≠ e ∧ y ∈ N i) → y ∈ N p) : Ears N L (P ++ [(e, p)]) (L'.erase e) := by
  induction h with
  | nil L => exact .cons he hp hne k (.nil _)
  | cons a b c d _ ih => exact .cons a b c d (ih he hp k)
theorem Ears.mem (h : Ears N L P L') : ∀ q ∈ P, q.1 ∈ L ∧ q.2 ∈ L := by
  induction h with
  | nil L => intro q hq; cases hq
  | cons a b c d _ ih =>
    intro q hq
    rcases List.mem_cons.mp hq with rfl | hq
    · exact ⟨a, b⟩
    · exact ⟨List.mem_of_mem_erase (ih q hq).1, List.mem_of_mem_erase (ih q hq).2⟩
theorem Ears.left (h : Ears N L P L') : ∀ i ∈ L', i ∈ L := by
  induction h with
  | nil L => exact fun i h => h
  | cons a b c d _ ih => exact fun i hi => List.mem_of_mem_erase (ih i hi)
theorem not_erase {l : List Nat} {e : Nat} (nd : l.Nodup) : e ∉ l.erase e := fun h => by
  have := (List.Nodup.mem_erase_iff nd).mp h
  exact this.1 rfl
def Wst (V : List Int) (N : Nat → List Str) (e p : Nat) (W : Nat → (Str → Int) → Nat) : Nat → (Str → Int) → Nat := fun i f => if i = p then W p f * SumF V (Ex N e p) (W e) f else W i f
def elim (V : List Int) (N : Nat → List Str) : List (Nat × Nat) → (Nat → (Str → Int) → Nat) → Nat → (Str → Int) → Nat
  | [], W => W
  | (e, p) :: P, W => elim V N P (Wst V N e p W)
end
end Jt
namespace Dv
open PySem L2
theorem abcd_pl {x : Str} (h : x ∈ abcd) : pl 0 (.str x) = true := by
  simp at h
  show PyData.strOk x = true
  rcases h with rfl | rfl | rfl | rfl | rfl | rfl | rfl | rfl <;> decide +kernel
theorem inL_abcd {x : Str} {ns : List Str} (hx : x ∈ abcd) (hn : ∀ y ∈ ns, y ∈ abcd) : inTO (.str x) (.lst (ns.map D.str)) = some (decide (x ∈ ns)) := by
  show inO (.str x) (.lst (ns.map D.str)) = _
  rw [inO_pl (k := 0) (abcd_pl hx) (List.all_eq_true.mpr fun d hd => by
    obtain ⟨y, hy, rfl⟩ := List.mem_map.mp hd
    exact abcd_pl (hn y hy)) (by decide)]
  congr 1
  refine decide_eq_decide.mpr ?_
  simp
section
variable {S : Store}
theorem nmT_ok {acc : List Str} {t : Tm} (ht : t.Ok) (ha : ∀ y ∈ acc, y ∈ abcd) : ∀ y ∈ nmT acc t, y ∈ abcd := by
  cases t with
  | vl i => exact ha
  | nm x =>
    rw [nmT_nm]
    by_cases c : x ∈ acc
    · rw [if_pos c]; exact ha
    · rw [if_neg c]
      intro y hy
      rcases List.mem_append.mp hy with q | q
      · exact ha y q
      · rw [List.mem_singleton.mp q]; exact ht
theorem nmT_len (acc : List Str) (t : Tm) : (nmT acc t).length ≤ acc.length + 1 := by
  cases t with
  | vl i => exact Nat.le_succ _
  | nm x =>
    rw [nmT_nm]
    split <;> simp
def mNamB : SM := (sIf (mAndT (mTru (mCall isiD (mCons (mVar 2) (mCons (mC (.ty "str")) mNil)))) (mT (mBin ninTD (mVar 2) (mVar 1)))) (sDrop (mAppend (mVar 1) (mVar 2))) sNil)
def mNamesIn : SM := (sSeq (sSet 1 (mNewL mNil))
    (sSeq (sFor (mIter (mVar 0)) (tgN 2) mNamB)
    (sRet (mCall tupD (mCons (mVar 1) mNil)))))
def FNamesIn : List D → Store → R D := runT 3 mNamesIn
theorem namB_loop {d0 : D} : ∀ (ts : List Tm) (acc : List Str) (y2 : Option D), (∀ t ∈ ts, t.Ok) → (∀ y ∈ acc, y ∈ abcd) → acc.length + ts.length ≤ 90000 →
    ∃ y2', sLoop (tgN 2) mNamB (ts.map trD) [some d0, some (.loc S.length), y2] (S ++ [.lst (acc.map D.str)]) = .ok .next [some d0, some (.loc S.length), y2'] (S ++ [.lst ((nmsT ts acc).map D.str)])
  | [], acc, y2, _, _, _ => ⟨y2, rfl⟩
  | t :: ts, acc, y2, ht, ha, hl => by
    have hte := ht t List.mem_cons_self
    have step : mNamB [some d0, some (.loc S.length), some (trD t)] (S ++ [.lst (acc.map D.str)]) = .ok .next [some d0, some (.loc S.length), some (trD t)] (S ++ [.lst ((nmT acc t).map D.str)]) := by
      have e1 := isi_tr t (S ++ [.lst (acc.map D.str)])
      unfold mNamB
      cases t with
      | nm x =>
        have e1 : isiD [.str x, .ty "str"] (S ++ [.lst (acc.map D.str)]) = some (.bl true) := e1
        have e2 : ninTD (.str x) (.loc S.length) (S ++ [.lst (acc.map D.str)]) = some (.bl (!decide (x ∈ acc))) := by
          have en : now (.loc S.length) (S ++ [.lst (acc.map D.str)]) = .lst (acc.map D.str) := by
            unfold now
            simp only [last_at]
          show (inTO (.str x) (now (.loc S.length) (S ++ [.lst (acc.map D.str)]))).map (fun k => D.bl (!k)) = _
          rw [en, inL_abcd hte ha]
          rfl
        have hal : acc.length < 100000 := by simp at hl; omega
        rw [nmT_nm, show trD (.nm x) = .str x from rfl]
        by_cases c : x ∈ acc
        · simp [e1, e2, c]
        · simp [e1, e2, c, last_at, last_set, hal]
      | vl i =>
        have e1 : isiD [.int i, .ty "str"] (S ++ [.lst (acc.map D.str)]) = some (.bl false) := e1
        rw [show trD (.vl i) = .int i from rfl, show nmT acc (.vl i) = acc from rfl]
        simp [e1]
    rw [List.map_cons, loop_step (r := [some d0, some (.loc S.length), y2]) rfl step]
    exact namB_loop ts (nmT acc t) (some (trD t)) (fun u hu => ht u (List.mem_cons_of_mem _ hu)) (nmT_ok hte ha) (by
      have := nmT_len acc t
      simp at hl
      omega)
theorem namesIn_ok {d0 : D} {ts : List Tm} (hd : seqD d0 = some (ts.map trD)) (ht : ∀ t ∈ ts, t.Ok) (hl : ts.length ≤ 90000) : FNamesIn [d0] S = .ok (.tup ((nmsT ts []).map D.str)) S := by
  obtain ⟨y2, e⟩ := namB_loop (S := S) (d0 := d0) ts [] none ht (by simp) (by simpa using hl)
  show finT S (mNamesIn (frame 3 _) S) = _
  have ef : frame 3 [d0] = [some d0, none, none] := rfl
  have eb : mNamesIn [some d0, none, none] S = .ok (.ret (.tup ((nmsT ts []).map D.str))) [some d0, some (.loc S.length), y2] (S ++ [.lst ((nmsT ts []).map D.str)]) := by
    unfold mNamesIn
    have e' : sLoop (tgN 2) mNamB (ts.map trD) [some d0, some (.loc S.length), none] (S ++ [.lst []]) = _ := e
    simp [hd, e', last_at]
  rw [ef, eb]
  exact fin_ret_app _ (fz_clo (show clo _ (.tup _) = true from cloL_strs _ _))
theorem tmsA_ok {as : List At} (h : ∀ a ∈ as, ∀ t ∈ a.ts, t.Ok) : ∀ t ∈ tmsA as, t.Ok := fun t ht => by
  obtain ⟨a, ha, h2⟩ := List.mem_flatMap.mp ht
  exact h a ha t h2
theorem tmsA_len : ∀ {as : List At}, (∀ a ∈ as, a.ts.length ≤ 16) → (tmsA as).length ≤ 16 * as.length
  | [], _ => Nat.le_refl _
  | a :: as, h => by
    have h1 := tmsA_len (as := as) fun b hb => h b (List.mem_cons_of_mem _ hb)
    have h2 := h a List.mem_cons_self
    show (a.ts ++ tmsA as).length ≤ _
    rw [List.length_append, List.length_cons]
    omega
end
end Dv
namespace Dv
open PySem L2
theorem lc_src {α : Type} {gm : D → Env → Option Env} {tt : BM} {te : EM} {r0 : Env} {S : Store} (s : α → D) (p : α → Bool) (f : α → D) : ∀ xs : List α,
    (∀ x ∈ xs, ∃ r1, gm (s x) r0 = some r1 ∧ tt r1 S = .ok (p x) S ∧ (p x = true → te r1 S = .ok (f x) S)) → lcL gm tt te r0 (xs.map s) S = .ok ((xs.filter p).map f) S
  | [], _ => rfl
  | d :: ds, h => by
    obtain ⟨r1, e1, e2, e3⟩ := h d List.mem_cons_self
    have ih := lc_src s p f ds fun d h' => h d (List.mem_cons_of_mem _ h')
    rw [List.map_cons, lcL_cons, e1]
    cases q : p d with
    | false => simp [e2, q, ih]
    | true => simp [e2, q, e3 q, ih]
theorem lc_all {α : Type} {gm : D → Env → Option Env} {te : EM} {r0 : Env} {S : Store} (s : α → D) (f : α → D) (xs : List α)
    (h : ∀ x ∈ xs, ∃ r1, gm (s x) r0 = some r1 ∧ te r1 S = .ok (f x) S) : lcL gm mYes te r0 (xs.map s) S = .ok (xs.map f) S := by
  have := lc_src (gm := gm) (tt := mYes) (te := te) (r0 := r0) (S := S) s (fun _ => true) f xs fun d hd => by
    obtain ⟨r1, a, b⟩ := h d hd
    exact ⟨r1, a, rfl, fun _ => b⟩
  rw [this, List.filter_eq_self.mpr fun _ _ => rfl]
section
variable {S : Store}
theorem rowsW_some {tb : List Bt} {w : Str} (h : ∃ x ∈ tb, x.w = w) : ∃ y rest, tb.filter (fun x => decide (x.w = w)) = y :: rest ∧ rowsW tb w = y.rows := by
  unfold rowsW
  rw [← List.head?_filter]
  cases q : tb.filter (fun x => decide (x.w = w)) with
  | nil =>
    obtain ⟨x, hx, e⟩ := h
    have : x ∈ tb.filter (fun x => decide (x.w = w)) := List.mem_filter.mpr ⟨hx, decide_eq_true e⟩
    rw [q] at this
    cases this
  | cons y rest => exact ⟨y, rest, rfl, rfl⟩
end
end Dv
namespace Dv
open PySem L2
theorem alls_ok {α : Type} {S : Store} (p : α → Bool) (xs : List α) : allD [.lst (xs.map fun x => D.bl (p x))] S = some (.bl (xs.all p)) := by
  have : xs.map (fun x => D.bl (p x)) = (xs.map p).map D.bl := by rw [List.map_map]; rfl
  rw [this, allD_bls, List.all_map]
  rfl
section
variable {S : Store}
end
end Dv
namespace Dv
open PySem L2
section
variable {S : Store}
end
end Dv
namespace Dv
open PySem L2
def valS (V : List Int) (rows : List (List Int)) : List Int := rows.foldl (fun V r => ssI (V ++ r)) V
def valT (V : List Int) (tb : List Bt) : List Int := tb.foldl (fun V x => valS V x.rows) V
def vals (tb : List Bt) : List Int := valT [] tb
section
variable {S : Store} {far : Nat}
end
end Dv
namespace Dv
open PySem L2
section
variable {S : Store}
end
end Dv
namespace Dv
open PySem L2
section
variable {S : Store}
end
end Dv
namespace Mw
open PySem L2 Dv
def nmsOf (a : At) : List Str := a.ts.filterMap trN
theorem mem_nmsOf {x : Str} {a : At} : x ∈ nmsOf a ↔ Tm.nm x ∈ a.ts := by
  unfold nmsOf
  rw [List.mem_filterMap]
  constructor
  · rintro ⟨t, ht, e⟩
    cases t with
    | nm y => cases e; exact ht
    | vl i => cases e
  · exact fun h => ⟨_, h, rfl⟩
theorem usd_nmsOf {x : Str} {as : List At} : x ∈ usd as ↔ ∃ a ∈ as, x ∈ nmsOf a := by
  unfold usd
  rw [List.mem_flatMap]
  rfl
section
variable {tb : List Bt} {as : List At} {cs : List Ck} {pre : List Str} {x : Str}
end
end Mw
namespace Dv
open PySem L2
theorem whl_inv {c : BM} {b : SM} (I : Nat → Env → Store → Prop) (Done : Env → Store → Prop)
    (st : ∀ n r S, I n r S → (c r S = .ok false S ∧ Done r S) ∨ (c r S = .ok true S ∧ ∃ r2 S2 n2, b r S = .ok .next r2 S2 ∧ n2 < n ∧ I n2 r2 S2)) :
    ∀ (fu n : Nat) (r : Env) (S : Store), n < fu → I n r S → ∃ r' S', sWhile c b fu r S = .ok .next r' S' ∧ Done r' S'
  | 0, n, r, S, h, _ => absurd h (Nat.not_lt_zero _)
  | fu + 1, n, r, S, h, i => by
    rcases st n r S i with ⟨e, d⟩ | ⟨e, r2, S2, n2, e2, hn, i2⟩
    · refine ⟨r, S, ?_, d⟩
      unfold sWhile
      simp [e]
    · obtain ⟨r', S', e3, d⟩ := whl_inv I Done st fu n2 r2 S2 (by omega) i2
      refine ⟨r', S', ?_, d⟩
      rw [← e3]
      conv => lhs; unfold sWhile
      simp [e, e2]
theorem fin_difz {S S1 : Store} {t n : Nat} {rho : Env} {d d' : D} (ht : t < S.length) (hl : S.length ≤ S1.length) (tw : Twn t n S1) (keep : ∀ i, i < S.length → i ≠ t → S1[i]? = S[i]?) (hd : fzD S.length S1 d = some d') : ∃ S', finT S (.ok (.ret d) rho S1) = .ok d' S' ∧ Twn t n S' ∧ Dif t S S' := by
  obtain ⟨ts, t1, t2⟩ := tw
  have tk : S1.take S.length = List.set S t (.lst (ts.map D.int)) := by
    refine List.ext_getElem? fun i => ?_
    rw [List.getElem?_take]
    by_cases hi : i < S.length
    · rw [if_pos hi]
      by_cases q : i = t
      · subst q
        rw [t2, List.getElem?_set_self hi]
      · rw [keep i hi q, List.getElem?_set_ne (fun z => q z.symm)]
    · rw [if_neg hi, List.getElem?_eq_none (by rw [List.length_set]; omega)]
  refine ⟨List.set S t (.lst (ts.map D.int)), ?_, ⟨ts, t1, List.getElem?_set_self ht⟩, ⟨ts, rfl⟩⟩
  rw [← tk]
  refine finT_ret ⟨hl, fun i o hi ho => ?_⟩ hd
  by_cases q : i = t
  · subst q
    rw [t2] at ho
    cases ho
    exact .inr (cloL_ints _ _)
  · rw [keep i hi q] at ho
    exact .inl ho
section
variable {S : Store} {ns : List Int} {n t : Nat}
def mMxB : SM := (sDrop (mAppend (mVar 4) (mPopAt (mVar 3) (mApp 3 FDraw (mCons (mVar 0) (mCons (mVar 1) (mCons (mCall lenD (mCons (mVar 3) mNil)) mNil)))))))
def mMixed (fu : Nat) : SM := (sSeq (sPar 3 4 (mCons (mCallN lstN (mCons (mVar 2) mNil)) (mCons (mNewL mNil) mNil)))
    (sSeq (sWhile (mTru (mVar 3)) mMxB fu)
    (sRet (mVar 4))))
def FMixed (fu : Nat) : List D → Store → R D := runT 5 (mMixed fu)
end
end Dv
namespace Dv
open PySem L2
section
variable {S : Store} {d : D} {k : Nat}
end
end Dv
namespace Dv
open PySem L2
section
variable {S : Store} {d : D} {k : Nat}
theorem eqv_strs (a b : Str) : eqvD (.str a) (.str b) = decide (a = b) := by
  show PyData.eqv (.str a) (.str b) = _
  simp only [PyData.eqv]
  exact Bool.beq_eq_decide_eq a b
theorem ask_ix (as : List At) (cs : List Ck) : ixD (askD as cs) (.int 0) S = some (.tup (as.map atD)) := by
  show ixD (.tup [.tup (as.map atD), .tup (cs.map ckD)]) (.int 0) S = _
  simp [atI_zero]
end
end Dv
namespace Dv
open PySem L2
section
variable {X : Cx} {Wx : WX} {st1 st2 : Stmt} {rest : List Stmt} {sa sb sc : SM}
end
end Dv
namespace Dv
open PySem L2
theorem bt_inj {tb : List Bt} (nd : (tb.map (·.w)).Nodup) : ∀ {x y : Bt}, x ∈ tb → y ∈ tb → x.w = y.w → x = y := by
  induction tb with
  | nil => intro x y hx; cases hx
  | cons z tb ih =>
    intro x y hx hy e
    have nd : (z.w :: tb.map (·.w)).Nodup := nd
    obtain ⟨n1, n2⟩ := List.nodup_cons.mp nd
    rcases List.mem_cons.mp hx with rfl | hx1
    · rcases List.mem_cons.mp hy with rfl | hy1
      · rfl
      · exact absurd (show x.w ∈ tb.map (·.w) from List.mem_map.mpr ⟨y, hy1, e.symm⟩) n1
    · rcases List.mem_cons.mp hy with rfl | hy1
      · exact absurd (show y.w ∈ tb.map (·.w) from List.mem_map.mpr ⟨x, hx1, e⟩) n1
      · exact ih n2 hx1 hy1 e
theorem rowsW_of {tb : List Bt} (nd : (tb.map (·.w)).Nodup) {x : Bt} (hx : x ∈ tb) : rowsW tb x.w = x.rows := by
  obtain ⟨y, rest, f1, f2⟩ := rowsW_some ⟨x, hx, rfl⟩
  have hy : y ∈ tb.filter (fun z => decide (z.w = x.w)) := by rw [f1]; exact List.mem_cons_self
  obtain ⟨h1, h2⟩ := List.mem_filter.mp hy
  rw [f2, bt_inj nd h1 hx (of_decide_eq_true h2)]
theorem same_t {S : Store} {d : D} (h : pt 3 d = true) : FSame 4 [d, d] S = .ok (.bl true) S := by
  rw [same_ok 4 3 (by decide) d d h h]
  simp
end Dv
namespace Mw
open PySem L2 Dv
structure Mq (most many : Nat) (tb : List Bt) (as : List At) (cs : List Ck) : Prop where
  tbw : ∀ x ∈ tb, x.w ∈ pqrs
  nd : (tb.map (·.w)).Nodup
  rows_ : ∀ x ∈ tb, x.rows.length ≤ most ∧ ∀ r ∈ x.rows, Row x.n (3 : Nat) r
  at_ : ∀ a ∈ as, (∃ x ∈ tb, a.w = x.w ∧ a.ts.length = x.n) ∧ ∀ t ∈ a.ts, t.Ok
  t4 : ∀ a ∈ as, a.ts.length ≤ 16
  len : as.length ≤ many
  ne : usd as ≠ []
  ck : ∀ c ∈ cs, (c.s = "less" ∨ c.s = "unlike") ∧ c.x ∈ usd as ∧ (c.z = .vl 1 ∨ ∃ y ∈ usd as, c.z = .nm y)
  nl : (nms as).length ≤ 5
  hm : most ≤ 20
  hy : many ≤ 5
section
variable {most many : Nat} {tb : List Bt} {as : List At} {cs : List Ck} {S : Store}
theorem Mq.ha (q : Mq most many tb as cs) : ∀ a ∈ as, (∃ x ∈ tb, x.w = a.w) ∧ (rowsW tb a.w).length ≤ most ∧ a.ts.length ≤ 16 := fun a ha => by
  obtain ⟨⟨x, hx, e1, e2⟩, _⟩ := q.at_ a ha
  refine ⟨⟨x, hx, e1.symm⟩, ?_, q.t4 a ha⟩
  rw [e1, rowsW_of q.nd hx]
  exact (q.rows_ x hx).1
theorem Mq.tok (q : Mq most many tb as cs) : ∀ a ∈ as, ∀ t ∈ a.ts, t.Ok := fun a ha => (q.at_ a ha).2
theorem Mq.hc (q : Mq most many tb as cs) : ∀ c ∈ cs, CkIn as c := fun c h => by
  obtain ⟨_, h2, h3⟩ := q.ck c h
  refine ⟨h2, fun y e => ?_⟩
  rcases h3 with h3 | ⟨z, hz, h3⟩
  · rw [h3] at e; cases e
  · rw [h3] at e; cases e; exact hz
theorem Mq.hs (q : Mq most many tb as cs) : ∀ c ∈ cs, c.s = "less" ∨ c.s = "unlike" := fun c h => (q.ck c h).1
theorem Mq.tms (q : Mq most many tb as cs) : (tmsA as).length ≤ 80 := by
  have := tmsA_len fun a h => (q.ha a h).2.2
  have := q.len
  have := q.hy
  omega
theorem Mq.tml (q : Mq most many tb as cs) : (tmsA as).length ≤ 90000 := by have := q.tms; omega
theorem any_bls (bs : List Bool) : anyD [.lst (bs.map D.bl)] S = some (.bl (bs.any id)) := by
  show (blsOf (bs.map D.bl)).map _ = _
  rw [blsOf_map]
  rfl
end
end Mw
namespace Mw
open PySem L2 Dv
section
variable {most many : Nat} {tb : List Bt} {as : List At} {cs : List Ck} {S : Store}
end
end Mw
namespace Mw
open PySem L2 Dv
section
variable {most many : Nat} {tb : List Bt} {as : List At} {cs : List Ck} {S : Store} {fu : Nat}
end
end Mw
namespace Mw
open PySem L2 Dv
section
variable {most many : Nat} {tb : List Bt} {as : List At} {cs : List Ck} {S : Store} {fu : Nat}
end
end Mw
namespace Mw
open PySem L2 Dv
section
variable {most many : Nat} {tb : List Bt} {as : List At} {cs : List Ck} {S : Store} {fu : Nat}
end
end Mw
namespace Jt
open PySem L2 Dv Mw
def Na (as : List At) (i : Nat) : List Str := match as[i]? with
  | some a => nmsT a.ts []
  | none => []
section
variable {most many : Nat} {tb : List Bt} {as : List At} {cs : List Ck} {ch : Nat → List Nat} {P : List (Nat × Nat)} {root : Nat}
theorem mem_na {a : At} {y : Str} : y ∈ nmsT a.ts [] ↔ y ∈ nmsOf a := by
  rw [mem_nmsT, mem_nmsOf]
  simp
end
end Jt
namespace Jt
open PySem L2 Dv Mw
def iD (j : Nat) : D := .int (j : Int)
def mNamesAt : SM := (sRet (mApp 1 FNamesIn (mCons (mBin ixD (mBin ixD (mBin ixD (mVar 0) (mC (.int 0))) (mVar 1)) (mC (.int 1))) mNil)))
def FNamesAt : List D → Store → R D := runT 2 mNamesAt
def mKeepB : SM := (sIf (mTru (mCall allD (mCons (mLc (mIter (mVar 4)) [6] (tgN 6) mYes (mBin inTD (mVar 6) (mApp 2 FNamesAt (mCons (mVar 0) (mCons (mVar 5) mNil))))) mNil))) (sRet (mVar 5)) sNil)
def mKeeper : SM :=
    (sSeq (sSet 3 (mLcG false (mIterG (mVar 2)) [5] (tgN 5) (mT (mBin neD (mVar 5) (mVar 1))) (mVar 5)))
    (sSeq (sSet 4 (mLc (mIter (mApp 2 FNamesAt (mCons (mVar 0) (mCons (mVar 1) mNil)))) [6] (tgN 6) (mTru (mCall anyD (mCons (mLc (mIter (mVar 3)) [5] (tgN 5) mYes (mBin inTD (mVar 6) (mApp 2 FNamesAt (mCons (mVar 0) (mCons (mVar 5) mNil))))) mNil))) (mVar 6)))
    (sSeq (sFor (mIter (mVar 3)) (tgN 5) mKeepB)
    (sRet (mC .non)))))
def FKeeper : List D → Store → R D := runT 7 mKeeper
def othL (left : List Nat) (at_ : Nat) : List Nat := left.filter fun j => decide (j ≠ at_)
def comL (as : List At) (left : List Nat) (at_ : Nat) : List Str := (Na as at_).filter fun y => (othL left at_).any fun j => decide (y ∈ Na as j)
def kpB (as : List At) (left : List Nat) (at_ j : Nat) : Bool := (comL as left at_).all fun y => decide (y ∈ Na as j)
def keeper (as : List At) (left : List Nat) (at_ : Nat) : Option Nat := (othL left at_).find? (kpB as left at_)
def kD : Option Nat → D
  | some j => iD j
  | none => .non
section
variable {most many : Nat} {tb : List Bt} {as : List At} {cs : List Ck} {S : Store} {left : List Nat}
theorem keeper_some {at_ p : Nat} (h : keeper as left at_ = some p) : p ∈ left ∧ p ≠ at_ ∧ ∀ y ∈ Na as at_, (∃ i ∈ left, i ≠ at_ ∧ y ∈ Na as i) → y ∈ Na as p := by
  have h1 := List.mem_of_find?_eq_some h
  have h2 := List.find?_some h
  obtain ⟨h3, h4⟩ := List.mem_filter.mp h1
  refine ⟨h3, of_decide_eq_true h4, fun y hy ⟨i, hi, hne, hyi⟩ => ?_⟩
  have hc : y ∈ comL as left at_ := List.mem_filter.mpr ⟨hy, List.any_eq_true.mpr ⟨i, List.mem_filter.mpr ⟨hi, decide_eq_true hne⟩, decide_eq_true hyi⟩⟩
  exact of_decide_eq_true (List.all_eq_true.mp h2 y hc)
theorem inT_strs (x : Str) (xs : List Str) : inTD (.str x) (.tup (xs.map D.str)) S = some (.bl (decide (x ∈ xs))) := by
  have h1 : (xs.map D.str).all flatD = true := by simp [flatD]
  show (if flatD (.str x) = true ∧ (xs.map D.str).all flatD = true then some ((xs.map D.str).any fun z => eqvD z (.str x)) else none).map D.bl = _
  rw [if_pos ⟨rfl, h1⟩, List.any_map]
  show some (D.bl _) = _
  congr 2
  rw [Bool.eq_iff_iff, List.any_eq_true, decide_eq_true_eq]
  constructor
  · rintro ⟨y, hy, e⟩
    have e : eqvD (.str y) (.str x) = true := e
    rw [eqv_strs] at e
    rw [← of_decide_eq_true e]
    exact hy
  · intro h
    exact ⟨x, h, by show eqvD (.str x) (.str x) = true; rw [eqv_strs]; simp⟩
theorem na_eq {i : Nat} {a : At} (h : as[i]? = some a) : Na as i = nmsT a.ts [] := by
  unfold Na
  rw [h]
theorem at_ix {i : Nat} {a : At} (h : as[i]? = some a) : ixD (.tup (as.map atD)) (.int (i : Int)) S = some (atD a) := by
  show atI (as.map atD) (i : Int) = _
  rw [atI_map, atI_nat h]
  rfl
theorem namesAt_ok (q : Mq most many tb as cs) {i : Nat} (hi : i < as.length) : FNamesAt [askD as cs, iD i] S = .ok (.tup ((Na as i).map D.str)) S := by
  have h : as[i]? = some as[i] := List.getElem?_eq_getElem hi
  have ha := List.mem_of_getElem? h
  have hl := (q.ha _ ha).2.2
  have e4 := namesIn_ok (S := S) (d0 := .tup (as[i].ts.map trD)) (ts := as[i].ts) rfl (q.tok _ ha) (by omega)
  refine fn_ret (cloL_strs _ _) ⟨[some (askD as cs), some (iD i)], ?_⟩
  show mNamesAt [some (askD as cs), some (iD i)] S = _
  have e1 := ask_ix (S := S) as cs
  have e2 := at_ix (S := S) h
  have e2 : ixD (.tup (as.map atD)) (iD i) S = some (atD as[i]) := e2
  have e3 : ixD (atD as[i]) (.int 1) S = some (.tup (as[i].ts.map trD)) := rfl
  rw [na_eq h]
  unfold mNamesAt
  generalize as.map atD = W at e1 e2
  simp [e1, e2, e3, e4, -ixD_tup]
theorem lcG_src {α : Type} {c : Gd} {gm : D → Dv.Env → Option Dv.Env} {tt : BM} {te : EM} {r0 : Dv.Env} (hc : c S = true) (s : α → D) (p : α → Bool) (f : α → D) : ∀ xs : List α,
    (∀ x ∈ xs, ∃ r1, gm (s x) r0 = some r1 ∧ tt r1 S = .ok (p x) S ∧ (p x = true → te r1 S = .ok (f x) S)) → lcG c gm tt te r0 (xs.map s) S = .ok ((xs.filter p).map f) S
  | [], _ => by
    show (if c S = true then R.ok [] S else .bad) = _
    rw [if_pos hc]
    rfl
  | x :: xs, h => by
    obtain ⟨r1, e1, e2, e3⟩ := h x List.mem_cons_self
    have ih := lcG_src (gm := gm) (tt := tt) (te := te) (r0 := r0) hc s p f xs fun y hy => h y (List.mem_cons_of_mem _ hy)
    rw [List.map_cons]
    unfold lcG
    rw [if_pos hc, e1]
    cases q : p x with
    | false => simp [e2, q, ih]
    | true => simp [e2, q, e3 q, ih]
abbrev KE (ask d1 d2 : D) (y3 y4 y5 y6 : Option D) : Dv.Env := [some ask, some d1, some d2, y3, y4, y5, y6]
theorem keepB_ok (q : Mq most many tb as cs) {at_ j : Nat} {d1 d2 : D} {y3 y6 : Option D} (hj : j < as.length) : mKeepB (KE (askD as cs) d1 d2 y3 (some (.lst ((comL as left at_).map D.str))) (some (iD j)) y6) S = if kpB as left at_ j = true then .ok (.ret (iD j)) (KE (askD as cs) d1 d2 y3 (some (.lst ((comL as left at_).map D.str))) (some (iD j)) y6) S else .ok .next (KE (askD as cs) d1 d2 y3 (some (.lst ((comL as left at_).map D.str))) (some (iD j)) y6) S := by
  have n1 := namesAt_ok (S := S) q hj
  have lc := lc_all (gm := tgN 6) (te := mBin inTD (mVar 6) (mApp 2 FNamesAt (mCons (mVar 0) (mCons (mVar 5) mNil)))) (r0 := KE (askD as cs) d1 d2 y3 (some (.lst ((comL as left at_).map D.str))) (some (iD j)) none) (S := S) D.str (fun y => .bl (decide (y ∈ Na as j))) (comL as left at_) fun y _ => ⟨KE (askD as cs) d1 d2 y3 (some (.lst ((comL as left at_).map D.str))) (some (iD j)) (some (.str y)), rfl, by
    have i1 := inT_strs (S := S) y (Na as j)
    generalize (Na as j).map D.str = W at n1 i1
    simp [n1, i1]⟩
  have hb : ((comL as left at_).map fun y => D.bl (decide (y ∈ Na as j))) = ((comL as left at_).map fun y => decide (y ∈ Na as j)).map D.bl := by rw [List.map_map]; rfl
  rw [hb] at lc
  have al := allD_bls (S := S) ((comL as left at_).map fun y => decide (y ∈ Na as j))
  have hk : ((comL as left at_).map fun y => decide (y ∈ Na as j)).all id = kpB as left at_ j := by
    rw [List.all_map]
    rfl
  rw [hk] at al
  generalize ((comL as left at_).map fun y => decide (y ∈ Na as j)).map D.bl = W2 at lc al
  generalize (comL as left at_).map D.str = W at lc ⊢
  generalize kpB as left at_ j = B at al ⊢
  unfold mKeepB
  cases B with
  | true => simp [lc, al, -allD_bls]
  | false => simp [lc, al, -allD_bls]
theorem keep_loop (q : Mq most many tb as cs) {at_ : Nat} {d1 d2 : D} {y3 y6 : Option D} : ∀ (xs : List Nat) (y5 : Option D), (∀ j ∈ xs, j < as.length) → ∃ y5', sLoop (tgN 5) mKeepB (xs.map iD) (KE (askD as cs) d1 d2 y3 (some (.lst ((comL as left at_).map D.str))) y5 y6) S = match xs.find? (kpB as left at_) with
    | some j => .ok (.ret (iD j)) (KE (askD as cs) d1 d2 y3 (some (.lst ((comL as left at_).map D.str))) y5' y6) S
    | none => .ok .next (KE (askD as cs) d1 d2 y3 (some (.lst ((comL as left at_).map D.str))) y5' y6) S
  | [], y5, _ => ⟨y5, rfl⟩
  | j :: xs, y5, h => by
    have e := keepB_ok (S := S) (left := left) (at_ := at_) (d1 := d1) (d2 := d2) (y3 := y3) (y6 := y6) q (h j List.mem_cons_self)
    rw [List.map_cons, List.find?_cons]
    cases c : kpB as left at_ j with
    | true =>
      rw [c, if_pos rfl] at e
      refine ⟨some (iD j), ?_⟩
      rw [sLoop_cons]
      show (match mKeepB (KE (askD as cs) d1 d2 y3 (some (.lst ((comL as left at_).map D.str))) (some (iD j)) y6) S with
        | .ok .next r2 S2 => _
        | .ok .cont r2 S2 => _
        | .ok .brk r2 S2 => _
        | .ok (.ret d) r2 S2 => _
        | .exc x r2 S2 => _
        | .bad => _) = _
      rw [e]
    | false =>
      rw [c, if_neg Bool.false_ne_true] at e
      obtain ⟨y5', ih⟩ := keep_loop q xs (some (iD j)) fun z hz => h z (List.mem_cons_of_mem _ hz)
      refine ⟨y5', ?_⟩
      rw [loop_step (r1 := KE (askD as cs) d1 d2 y3 (some (.lst ((comL as left at_).map D.str))) (some (iD j)) y6) rfl e]
      exact ih
theorem keeper_ok (q : Mq most many tb as cs) {at_ n : Nat} (ha : at_ < as.length) (hl : ∀ j ∈ left, j < as.length) (hS : S[n]? = some (.lst (left.map iD))) : FKeeper [askD as cs, iD at_, .loc n] S = .ok (kD (keeper as left at_)) S := by
  have hn : n < S.length := (List.getElem?_eq_some_iff.mp hS).1
  have n1 := namesAt_ok (S := S) q ha
  have l1 := lcG_src (gm := tgN 5) (tt := mT (mBin neD (mVar 5) (mVar 1))) (te := mVar 5) (r0 := KE (askD as cs) (iD at_) (.loc n) none none none none) (S := S) (c := gIs n (left.map iD)) (gIs_iff.mpr hS) iD (fun j => decide (j ≠ at_)) iD left fun j _ => ⟨KE (askD as cs) (iD at_) (.loc n) none none (some (iD j)) none, rfl, by
    show (ofO (some (D.bl (!decide ((j : Int) = (at_ : Int))))) S).bind _ = _
    have : (!decide ((j : Int) = (at_ : Int))) = decide (j ≠ at_) := by
      by_cases e : j = at_
      · subst e; simp
      · have e2 : ¬ (j : Int) = (at_ : Int) := by omega
        simp [e, e2]
    rw [this]
    rfl, fun _ => rfl⟩
  have l2 := lc_src (gm := tgN 6) (tt := mTru (mCall anyD (mCons (mLc (mIter (mVar 3)) [5] (tgN 5) mYes (mBin inTD (mVar 6) (mApp 2 FNamesAt (mCons (mVar 0) (mCons (mVar 5) mNil))))) mNil))) (te := mVar 6) (r0 := KE (askD as cs) (iD at_) (.loc n) (some (.lst ((othL left at_).map iD))) none none none) (S := S) D.str (fun y => (othL left at_).any fun j => decide (y ∈ Na as j)) D.str (Na as at_) fun y _ => ⟨KE (askD as cs) (iD at_) (.loc n) (some (.lst ((othL left at_).map iD))) none none (some (.str y)), rfl, by
    have l3 := lc_all (gm := tgN 5) (te := mBin inTD (mVar 6) (mApp 2 FNamesAt (mCons (mVar 0) (mCons (mVar 5) mNil)))) (r0 := KE (askD as cs) (iD at_) (.loc n) (some (.lst ((othL left at_).map iD))) none none (some (.str y))) (S := S) iD (fun j => .bl (decide (y ∈ Na as j))) (othL left at_) fun j hj => ⟨KE (askD as cs) (iD at_) (.loc n) (some (.lst ((othL left at_).map iD))) none (some (iD j)) (some (.str y)), rfl, by
      have n2 := namesAt_ok (S := S) q (hl j (List.mem_filter.mp hj).1)
      have i1 := inT_strs (S := S) y (Na as j)
      generalize (Na as j).map D.str = W at n2 i1
      simp [n2, i1]⟩
    have hb : ((othL left at_).map fun j => D.bl (decide (y ∈ Na as j))) = ((othL left at_).map fun j => decide (y ∈ Na as j)).map D.bl := by rw [List.map_map]; rfl
    rw [hb] at l3
    have an := any_bls (S := S) ((othL left at_).map fun j => decide (y ∈ Na as j))
    have hk : ((othL left at_).map fun j => decide (y ∈ Na as j)).any id = (othL left at_).any fun j => decide (y ∈ Na as j) := by
      rw [List.any_map]
      rfl
    rw [hk] at an
    generalize ((othL left at_).map fun j => decide (y ∈ Na as j)).map D.bl = W2 at l3 an
    generalize (othL left at_).map iD = W at l3 ⊢
    simp [l3, an], fun _ => rfl⟩
  obtain ⟨y5, lp⟩ := keep_loop (S := S) (left := left) (at_ := at_) (d1 := iD at_) (d2 := .loc n) (y3 := some (.lst ((othL left at_).map iD))) (y6 := none) q (othL left at_) none fun j hj => hl j (List.mem_filter.mp hj).1
  have eb : ∃ rho, mKeeper (KE (askD as cs) (iD at_) (.loc n) none none none none) S = .ok (.ret (kD (keeper as left at_))) rho S := by
    have e1 : sSet 3 (mLcG false (mIterG (mVar 2)) [5] (tgN 5) (mT (mBin neD (mVar 5) (mVar 1))) (mVar 5)) (KE (askD as cs) (iD at_) (.loc n) none none none none) S = .ok .next (KE (askD as cs) (iD at_) (.loc n) (some (.lst ((othL left at_).map iD))) none none none) S := by
      have sg : seqG (.loc n) S = some (left.map iD, gIs n (left.map iD)) := by
        show (match S[n]? with
          | some (O.lst xs) => some (xs, gIs n xs)
          | _ => none) = _
        rw [hS]
      have l1 : lcG (gIs n (left.map iD)) (tgN 5) (mT (mBin neD (mVar 5) (mVar 1))) (mVar 5) (KE (askD as cs) (iD at_) (.loc n) none none none none) (left.map iD) S = .ok ((othL left at_).map iD) S := l1
      generalize left.map iD = W at l1 sg
      generalize (othL left at_).map iD = W2 at l1 ⊢
      simp [sg, l1]
    have e2 : sSet 4 (mLc (mIter (mApp 2 FNamesAt (mCons (mVar 0) (mCons (mVar 1) mNil)))) [6] (tgN 6) (mTru (mCall anyD (mCons (mLc (mIter (mVar 3)) [5] (tgN 5) mYes (mBin inTD (mVar 6) (mApp 2 FNamesAt (mCons (mVar 0) (mCons (mVar 5) mNil))))) mNil))) (mVar 6)) (KE (askD as cs) (iD at_) (.loc n) (some (.lst ((othL left at_).map iD))) none none none) S = .ok .next (KE (askD as cs) (iD at_) (.loc n) (some (.lst ((othL left at_).map iD))) (some (.lst ((comL as left at_).map D.str))) none none) S := by
      have l2 : lcL (tgN 6) (mTru (mCall anyD (mCons (mLc (mIter (mVar 3)) [5] (tgN 5) mYes (mBin inTD (mVar 6) (mApp 2 FNamesAt (mCons (mVar 0) (mCons (mVar 5) mNil))))) mNil))) (mVar 6) (KE (askD as cs) (iD at_) (.loc n) (some (.lst ((othL left at_).map iD))) none none none) ((Na as at_).map D.str) S = .ok ((comL as left at_).map D.str) S := l2
      generalize (Na as at_).map D.str = W at n1 l2
      generalize (othL left at_).map iD = W2 at l2 ⊢
      generalize (comL as left at_).map D.str = W3 at l2 ⊢
      simp [n1, l2]
    unfold mKeeper
    rw [seq_ok e1, seq_ok e2]
    unfold keeper
    have fe : ∀ k : SM, sSeq (sFor (mIter (mVar 3)) (tgN 5) mKeepB) k (KE (askD as cs) (iD at_) (.loc n) (some (.lst ((othL left at_).map iD))) (some (.lst ((comL as left at_).map D.str))) none none) S = (match sLoop (tgN 5) mKeepB ((othL left at_).map iD) (KE (askD as cs) (iD at_) (.loc n) (some (.lst ((othL left at_).map iD))) (some (.lst ((comL as left at_).map D.str))) none none) S with
      | .ok .next r1 S1 => k r1 S1
      | z => z) := fun k => rfl
    rw [fe, lp]
    cases (othL left at_).find? (kpB as left at_) with
    | some j => exact ⟨_, rfl⟩
    | none => exact ⟨_, rfl⟩
  refine fn_ret ?_ eb
  cases keeper as left at_ <;> rfl
end
end Jt
namespace Jt
open PySem L2 Dv Mw
def mEarB : SM := (sSeq (sSet 3 (mLcG false (mIterG (mVar 1)) [4] (tgN 4) mYes (mTup (mCons (mVar 4) (mCons (mApp 3 FKeeper (mCons (mVar 0) (mCons (mVar 4) (mCons (mVar 1) mNil)))) mNil)))))
    (sSeq (sSet 3 (mLc (mIter (mVar 3)) [4, 5] (tgT 2 (tgsCons (tgN 4) (tgsCons (tgN 5) tgsNil))) (mT (mBin notND (mVar 5) (mC .non))) (mTup (mCons (mVar 4) (mCons (mVar 5) mNil)))))
    (sSeq (sIf (mNotT (mTru (mVar 3))) sBrk sNil)
    (sSeq (sDrop (mAppend (mVar 2) (mBin ixD (mVar 3) (mC (.int 0)))))
    (sDrop (mRemove (mVar 1) (mBin ixD (mBin ixD (mVar 3) (mC (.int 0))) (mC (.int 0)))))))))
def mEarC : BM := (mT (mBin gtD (mCall lenD (mCons (mVar 1) mNil)) (mC (.int 1))))
def mEars (fu : Nat) : SM :=
    (sSeq (sAsg (mTup (mCons (mCallN listRngN (mCons (mCall lenD (mCons (mBin ixD (mVar 0) (mC (.int 0))) mNil)) mNil)) (mCons (mNewL mNil) mNil))) (tgT 2 (tgsCons (tgN 1) (tgsCons (tgN 2) tgsNil))))
    (sSeq (sWhile mEarC mEarB fu)
    (sRet (mTup (mCons (mVar 2) (mCons (mVar 1) mNil))))))
def FEars (fu : Nat) : List D → Store → R D := runT 6 (mEars fu)
def mTree (fu : Nat) : SM :=
    (sSeq (sAsg (mApp 1 (FEars fu) (mCons (mVar 0) mNil)) (tgT 2 (tgsCons (tgN 2) (tgsCons (tgN 3) tgsNil))))
    (sSeq (sIf (mT (mBin gtD (mCall lenD (mCons (mVar 3) mNil)) (mC (.int 1)))) (sRet (mC .non)) sNil)
    (sSeq (sSet 1 (mDc false (mIter (mVar 2)) [4, 5] (tgT 2 (tgsCons (tgN 4) (tgsCons (tgN 5) tgsNil))) mYes (mVar 4) (mVar 5)))
    (sRet (mCall tuxD (mCons (mLc (mRng1 (mCons (mCall lenD (mCons (mBin ixD (mVar 0) (mC (.int 0))) mNil)) mNil)) [4] (tgN 4) mYes (mDGet2 (mVar 1) (mVar 4) (mC .non))) mNil))))))
def FTree (fu : Nat) : List D → Store → R D := runT 6 (mTree fu)
def pD (q : Nat × Nat) : D := .tup [iD q.1, iD q.2]
section
variable {most many : Nat} {tb : List Bt} {as : List At} {cs : List Ck} {S : Store} {left : List Nat} {P : List (Nat × Nat)}
theorem remI_nat (e : Nat) : ∀ (l : List Nat), e ∈ l → remI (e : Int) (l.map fun (j : Nat) => (j : Int)) = some ((l.erase e).map fun (j : Nat) => (j : Int))
  | x :: l, h => by
    rw [List.map_cons]
    unfold remI
    by_cases c : x = e
    · subst c
      rw [if_pos rfl, List.erase_cons_head]
    · have c2 : ¬ (x : Int) = (e : Int) := by omega
      rw [if_neg c2, remI_nat e l ((List.mem_cons.mp h).resolve_left fun q => c q.symm), List.erase_cons_tail (by simpa using c)]
      rfl
theorem iD_map (l : List Nat) : l.map iD = (l.map fun (j : Nat) => (j : Int)).map D.int := by
  rw [List.map_map]
  rfl
theorem rem_ok {e : Nat} (h : e ∈ left) {n : Nat} (hS : S[n]? = some (.lst (left.map iD))) : remD (.loc n) (iD e) S = .ok .non (List.set S n (.lst ((left.erase e).map iD))) := by
  show (match S[n]? with
    | some (.lst xs) => match (intsOf xs).bind (remI (e : Int)) with
      | some ms => R.ok D.non (List.set S n (.lst (ms.map D.int)))
      | none => R.bad
    | _ => R.bad) = _
  rw [hS, iD_map]
  show (match (intsOf ((left.map fun (j : Nat) => (j : Int)).map D.int)).bind (remI (e : Int)) with
      | some ms => R.ok D.non (List.set S n (.lst (ms.map D.int)))
      | none => R.bad) = _
  rw [intsOf_map]
  show (match remI (e : Int) (left.map fun (j : Nat) => (j : Int)) with
      | some ms => R.ok D.non (List.set S n (.lst (ms.map D.int)))
      | none => R.bad) = _
  rw [remI_nat e left h, iD_map]
abbrev EE (ask : D) (L : Nat) (y3 y4 y5 : Option D) : Dv.Env := [some ask, some (.loc L), some (.loc (L + 1)), y3, y4, y5]
def kpD (as : List At) (left : List Nat) (j : Nat) : D := .tup [iD j, kD (keeper as left j)]
def hasK (as : List At) (left : List Nat) (j : Nat) : Bool := (keeper as left j).isSome
theorem cloL_iD (m : Nat) (l : List Nat) : cloL m (l.map iD) = true := (cloL_iff m _).mpr fun d hd => by
  obtain ⟨j, _, rfl⟩ := List.mem_map.mp hd
  rfl
theorem fzL_all {g : D → Option D} : ∀ {l : List D}, (∀ d ∈ l, g d = some d) → fzL g l = some l
  | [], _ => rfl
  | d :: l, h => by
    show (match g d, fzL g l with
      | some a, some b => some (a :: b)
      | _, _ => none) = _
    rw [h d List.mem_cons_self, fzL_all fun x hx => h x (List.mem_cons_of_mem _ hx)]
end
end Jt
namespace Jt
open PySem L2 Dv Mw
def trP (P : List (Nat × Nat)) (i : Nat) : Option Nat := (P.find? fun q => decide (q.1 = i)).map (·.2)
def kq (q : Nat × Nat) : Key × D := (.inl (q.1 : Int), iD q.2)
section
variable {most many : Nat} {tb : List Bt} {as : List At} {cs : List Ck} {S : Store} {left L L' : List Nat} {P : List (Nat × Nat)} {N : Nat → List Str}
theorem Ears.fst (h : Ears N L P L') (nd : L.Nodup) : (P.map (·.1)).Nodup := by
  induction h with
  | nil L => exact List.nodup_nil
  | @cons L e p P L' a b c d hE ih =>
    rw [List.map_cons]
    refine List.nodup_cons.mpr ⟨fun h => ?_, ih (nd.erase e)⟩
    obtain ⟨q, hq, e2⟩ := List.mem_map.mp h
    have h1 := (hE.mem q hq).1
    have e2 : q.1 = e := e2
    rw [e2] at h1
    exact not_erase nd h1
theorem val_kq (P : List (Nat × Nat)) (i : Nat) : (valKD (P.map kq) (.inl (i : Int))).getD .non = kD (trP P i) := by
  induction P with
  | nil => rfl
  | cons q P ih =>
    unfold valKD trP at ih ⊢
    rw [List.map_cons, List.find?_cons, List.find?_cons]
    by_cases e : q.1 = i
    · subst e
      rw [decide_eq_true rfl]
      have : decide ((kq q).1 = (Sum.inl (q.1 : Int) : Key)) = true := decide_eq_true rfl
      rw [this]
      rfl
    · rw [decide_eq_false e]
      have : decide ((kq q).1 = (Sum.inl (i : Int) : Key)) = false := decide_eq_false fun h => by
        have h : (Sum.inl (q.1 : Int) : Key) = Sum.inl (i : Int) := h
        injection h with h
        omega
      rw [this]
      exact ih
theorem put_kq {acc : List (Nat × Nat)} {q : Nat × Nat} (h : q.1 ∉ acc.map (·.1)) : putKD (acc.map kq) (.inl (q.1 : Int)) (iD q.2) = (acc ++ [q]).map kq := by
  unfold putKD
  rw [if_neg]
  · rw [List.map_append]
    rfl
  · intro c
    obtain ⟨p, hp, e⟩ := List.any_eq_true.mp c
    obtain ⟨z, hz, rfl⟩ := List.mem_map.mp hp
    have e : (Sum.inl (z.1 : Int) : Key) = Sum.inl (q.1 : Int) := of_decide_eq_true e
    injection e with e
    exact h (List.mem_map.mpr ⟨z, hz, by omega⟩)
theorem dc_pairs {y0 y1 y2 y3 : Option D} : ∀ (P acc : List (Nat × Nat)), ((acc ++ P).map (·.1)).Nodup → acc.length + P.length ≤ 1000 → dcL (tgT 2 (tgsCons (tgN 4) (tgsCons (tgN 5) tgsNil))) mYes (mVar 4) (mVar 5) [y0, y1, y2, y3, none, none] (P.map pD) (acc.map kq) S = .ok ((acc ++ P).map kq) S
  | [], acc, _, _ => by rw [List.append_nil]; rfl
  | q :: P, acc, nd, hl => by
    have hn : q.1 ∉ acc.map (·.1) := fun h => by
      rw [List.map_append] at nd
      exact (List.nodup_append.mp nd).2.2 q.1 h q.1 List.mem_cons_self rfl
    rw [List.length_cons] at hl
    have ih := dc_pairs (y0 := y0) (y1 := y1) (y2 := y2) (y3 := y3) P (acc ++ [q]) (by rw [List.append_assoc]; exact nd) (by rw [List.length_append, List.length_singleton]; omega)
    rw [List.map_cons, dcL_cons]
    show (if (acc.map kq).length < 90000 then dcL _ mYes (mVar 4) (mVar 5) [y0, y1, y2, y3, none, none] (P.map pD) (putKD (acc.map kq) (.inl (q.1 : Int)) (iD q.2)) S else R.bad) = _
    rw [if_pos (by rw [List.length_map]; omega), put_kq hn, ih, List.append_assoc]
    rfl
end
end Jt
namespace Sx
open PySem L2 Dv
section
variable {S S' S1 S2 : Store} {r : Dv.Env} {v w d : D} {m m' : EM} {ms : AM} {ds zs : List D} {i j k n : Nat} {F : List D → Store → R D}
theorem set_of {m : EM} (e : m r S = .ok v S') : sSet j m r S = .ok .next (r.set j (some v)) S' := by
  rw [sSet_ap, e]
  rfl
theorem run_app (ea : ms r S = .ok ds S1) (hl : ds.length = n) (e : F ds S1 = .ok v S') : mApp n F ms r S = .ok v S' := by
  rw [mApp_ap, ea]
  show (if ds.length = n then F ds S1 else .bad) = _
  rw [if_pos hl, e]
theorem if_no {t : BM} {a b : SM} (e : t r S = .ok false S') : sIf t a b r S = b r S' := by
  rw [sIf_ap, e]
  rfl
theorem if_yes {t : BM} {a b : SM} (e : t r S = .ok true S') : sIf t a b r S = a r S' := by
  rw [sIf_ap, e]
  rfl
theorem not_of {t : BM} {b : Bool} (e : t r S = .ok b S') : mNotT t r S = .ok (!b) S' := by
  rw [mNotT_ap, e]
  rfl
theorem tru_of {m : EM} {b : Bool} (e : m r S = .ok v S') (q : truD v S' = some b) : mTru m r S = .ok b S' := by
  rw [mTru_ap, e]
  show ofO (truD v S') S' = _
  rw [q]
  rfl
theorem cons_of {m : EM} {S2 : Store} (e : m r S = .ok v S') (e' : ms r S' = .ok ds S2) : mCons m ms r S = .ok (v :: ds) S2 := by
  rw [mCons_ap, e]
  show (ms r S').bind _ = _
  rw [e']
  rfl
theorem bin_of {f : D → D → Store → Option D} {a b : EM} {x y z : D} {S2 : Store} (e : a r S = .ok x S') (e' : b r S' = .ok y S2) (q : f x y S2 = some z) : mBin f a b r S = .ok z S2 := by
  rw [mBin_ap, e]
  show (b r S').bind _ = _
  rw [e']
  show ofO (f x y S2) S2 = _
  rw [q]
  rfl
theorem t_of {m : EM} {b : Bool} (e : m r S = .ok (.bl b) S') : mT m r S = .ok b S' := by
  rw [mT_ap, e]
  rfl
theorem call_of {f : List D → Store → Option D} (ea : ms r S = .ok ds S') (q : f ds S' = some v) : mCall f ms r S = .ok v S' := by
  rw [mCall_ap, ea]
  show ofO (f ds S') S' = _
  rw [q]
  rfl
theorem ret_of (e : m r S = .ok v S') : sRet m r S = .ok (.ret v) r S' := by
  rw [sRet_ap, e]
  rfl
theorem iter_of (e : m r S = .ok d S') (q : seqD d = some ds) : mIter m r S = .ok ds S' := by
  rw [mIter_ap, e]
  show ofO (seqD d) S' = _
  rw [q]
  rfl
theorem lc_of {im : IM} {vs : List Nat} {gm : D → Dv.Env → Option Dv.Env} {tt : BM} {te : EM} (e : im r S = .ok ds S1) (q : lcL gm tt te (wipeE r vs) ds S1 = .ok zs S2) : mLc im vs gm tt te r S = .ok (.lst zs) S2 := by
  rw [mLc_ap, e]
  show (lcL gm tt te (wipeE r vs) ds S1).bind _ = _
  rw [q]
  rfl
theorem for_of {im : IM} {gm : D → Dv.Env → Option Dv.Env} {b : SM} (e : im r S = .ok ds S1) : sFor im gm b r S = sLoop gm b ds r S1 := by
  rw [sFor_ap, e]
  rfl
theorem or_t {t t' : BM} (e : t r S = .ok true S') : mOrT t t' r S = .ok true S' := by
  rw [mOrT_ap, e]
  rfl
theorem or_f {t t' : BM} {b : Bool} (e : t r S = .ok false S') (e' : t' r S' = .ok b S2) : mOrT t t' r S = .ok b S2 := by
  rw [mOrT_ap, e]
  show (if false = true then R.ok true S' else t' r S') = _
  rw [if_neg Bool.false_ne_true, e']
theorem and_f {t t' : BM} (e : t r S = .ok false S') : mAndT t t' r S = .ok false S' := by
  rw [mAndT_ap, e]
  rfl
theorem and_t {t t' : BM} {b : Bool} (e : t r S = .ok true S') (e' : t' r S' = .ok b S2) : mAndT t t' r S = .ok b S2 := by
  rw [mAndT_ap, e]
  show (if true = true then t' r S' else R.ok false S') = _
  rw [if_pos rfl, e']
theorem tup_of {ms : AM} (e : ms r S = .ok ds S') (hl : ds.length ≤ 100000) : mTup ms r S = .ok (.tup ds) S' := by
  rw [mTup_ap, e]
  show (if ds.length ≤ 100000 then _ else _) = _
  rw [if_pos hl]
theorem lst_of {ms : AM} (e : ms r S = .ok ds S') (hl : ds.length ≤ 100000) : mLst ms r S = .ok (.lst ds) S' := by
  rw [mLst_ap, e]
  show (if ds.length ≤ 100000 then _ else _) = _
  rw [if_pos hl]
theorem asg_of {gm : D → Dv.Env → Option Dv.Env} {r1 : Dv.Env} (e : m r S = .ok d S1) (q : gm d r = some r1) : sAsg m gm r S = .ok .next r1 S1 := by
  rw [sAsg_ap, e]
  simp [q]
theorem par_of {i j : Nat} {ms : AM} (e : ms r S = .ok [v, w] S1) : sPar i j ms r S = .ok .next ((r.set i (some v)).set j (some w)) S1 := by
  rw [sPar_ap, e]
  rfl
theorem nil_of : mNil r S = .ok [] S := rfl
theorem var_of (h : r[k]? = some (some v)) : mVar k r S = .ok v S := by
  simp [h]
theorem seq_next {a b : SM} {r1 : Dv.Env} (h : a r S = .ok .next r1 S1) : sSeq a b r S = b r1 S1 := by
  rw [sSeq_ap, h]
theorem seq_ret {a b : SM} {r1 : Dv.Env} (h : a r S = .ok (.ret v) r1 S1) : sSeq a b r S = .ok (.ret v) r1 S1 := by
  rw [sSeq_ap, h]
end
end Sx
namespace Tr
open PySem L2 Dv Mw Sx Jt
def mWhX : SM := (sRet (mAnd (mCall isiXD (mCons (mVar 0) (mCons (mC (.ty "int")) mNil))) (mNot (mCall isiXD (mCons (mVar 0) (mCons (mC (.ty "bool")) mNil))))))
def FWhX : List D → Store → R D := runT 1 mWhX
def mUpB : SM := (sSeq (sIf (mT (mBin isND (mBin ixXD (mVar 0) (mVar 1)) (mC .non))) (sRet (mC (.bl true))) sNil)
    (sSet 1 (mBin ixXD (mVar 0) (mVar 1))))
def mUp : SM :=
    (sSeq (sFor (mRng1 (mCons (mCall lenXD (mCons (mVar 0) mNil)) mNil)) (tgN 2) mUpB)
    (sRet (mC (.bl false))))
def FUp : List D → Store → R D := runT 3 mUp
def t1 : SM := (sSet 2 (mCall lenXD (mCons (mBin ixXD (mVar 0) (mC (.int 0))) mNil)))
def t2 : SM := (sIf (mOrT (mNotT (mTruX (mCall isiXD (mCons (mVar 1) (mCons (mC (.ty "tuple")) mNil))))) (mT (mBin neD (mCall lenXD (mCons (mVar 1) mNil)) (mVar 2)))) (sRet (mC (.bl false))) sNil)
def eOk : EM := (mOr (mBin isND (mVar 9) (mC .non)) (mAnd (mApp 1 FWhX (mCons (mVar 9) mNil)) (mChain leD ltD (mC (.int 0)) (mVar 9) (mVar 2))))
def t3 : SM := (sIf (mOrT (mNotT (mTruX (mCall allD (mCons (mLc (mIterX (mVar 1)) [9] (tgN 9) mYes eOk) mNil)))) (mT (mBin neD (mCntX (mVar 1) (mC .non)) (mC (.int 1))))) (sRet (mC (.bl false))) sNil)
def t4 : SM := (sIf (mNotT (mTruX (mCall allD (mCons (mLc (mRng1 (mCons (mVar 2) mNil)) [8] (tgN 8) mYes (mApp 2 FUp (mCons (mVar 1) (mCons (mVar 8) mNil)))) mNil)))) (sRet (mC (.bl false))) sNil)
def t5B : SM := (sSeq (sSet 4 (mLc (mRng1 (mCons (mVar 2) mNil)) [8] (tgN 8) (mT (mBin inTD (mVar 3) (mApp 2 FNamesAt (mCons (mVar 0) (mCons (mVar 8) mNil))))) (mVar 8)))
    (sIf (mT (mBin neD (mCall lenXD (mCons (mLc (mIterX (mVar 4)) [8] (tgN 8) (mT (mBin inTD (mBin ixXD (mVar 1) (mVar 8)) (mVar 4))) (mVar 8)) mNil)) (mBin subD (mCall lenXD (mCons (mVar 4) mNil)) (mC (.int 1))))) (sRet (mC (.bl false))) sNil))
def t5 : SM := (sFor (mIterX (mApp 1 FNamesIn (mCons (mLc2 (mIterX (mBin ixXD (mVar 0) (mC (.int 0)))) [5, 6, 7] (tgT 2 (tgsCons (tgN 5) (tgsCons (tgN 6) tgsNil))) mYes (mIterX (mVar 6)) [7] (tgN 7) mYes (mVar 7)) mNil))) (tgN 3) t5B)
def mIsT : SM := (sSeq t1 (sSeq t2 (sSeq t3 (sSeq t4 (sSeq t5 (sRet (mC (.bl true))))))))
def FIsT : List D → Store → R D := runT 10 mIsT
def kd1 : D → Bool
  | .non => true
  | .bl _ => true
  | .int _ => true
  | .str _ => true
  | .lst _ => true
  | .tux _ => true
  | _ => false
def kd2 : D → Bool
  | .tux xs => xs.all kd1
  | d => kd1 d
def isInt : D → Bool
  | .int _ => true
  | _ => false
def okE (n : Nat) : D → Bool
  | .non => true
  | .int i => decide (0 ≤ i ∧ i < n)
  | _ => false
def parV (vals : List (Option Nat)) (a : Nat) : Option Nat := (vals[a]?).getD none
def cntN (vals : List (Option Nat)) : Nat := vals.countP fun v => v.isNone
def hasY (as : List At) (y : Str) (i : Nat) : Bool := decide (y ∈ Na as i)
def hangB (as : List At) (n : Nat) (vals : List (Option Nat)) (y : Str) : Bool := decide (((sel n (hasY as y)).filter (inS (parV vals) (hasY as y))).length + 1 = (sel n (hasY as y)).length)
def trB (as : List At) (n : Nat) (vals : List (Option Nat)) : Bool := (List.range n).all (upB (parV vals) n) && (nms as).all (hangB as n vals)
section
variable {S : Store} {d : D} {n : Nat}
theorem nand_of {m : EM} {r : Dv.Env} {b : Bool} (e : m r S = .ok (.bl b) S) : mNot m r S = .ok (.bl (!b)) S := by
  show (m r S).bind _ = _
  rw [e]
  rfl
theorem or_of {m m' : EM} {r : Dv.Env} {b b' : Bool} (e : m r S = .ok (.bl b) S) (e' : b = false → m' r S = .ok (.bl b') S) : mOr m m' r S = .ok (.bl (b || b')) S := by
  show (m r S).bind _ = _
  rw [e]
  cases b with
  | true => rfl
  | false => exact e' rfl
theorem and2_of {m m' : EM} {r : Dv.Env} {b b' : Bool} (e : m r S = .ok (.bl b) S) (e' : b = true → m' r S = .ok (.bl b') S) : mAnd m m' r S = .ok (.bl (b && b')) S := by
  show (m r S).bind _ = _
  rw [e]
  cases b with
  | true => exact e' rfl
  | false => rfl
theorem wh_ok (h : kd1 d = true) : FWhX [d] S = .ok (.bl (isInt d)) S := by
  refine fn_ret rfl ⟨[some d], ?_⟩
  show mWhX [some d] S = _
  unfold mWhX
  have go : ∀ b1 b2 : Bool, isiXD [d, .ty "int"] S = some (.bl b1) → isiXD [d, .ty "bool"] S = some (.bl b2) → (b1 && !b2) = isInt d → (sRet (mAnd (mCall isiXD (mCons (mVar 0) (mCons (mC (.ty "int")) mNil))) (mNot (mCall isiXD (mCons (mVar 0) (mCons (mC (.ty "bool")) mNil)))))) [some d] S = .ok (.ret (.bl (isInt d))) [some d] S := fun b1 b2 e1 e2 e3 => by
    rw [← e3]
    exact ret_of (and2_of (call_of (cons_of (var_of rfl) (cons_of rfl nil_of)) e1) fun _ => nand_of (call_of (cons_of (var_of rfl) (cons_of rfl nil_of)) e2))
  cases d <;> first | cases h; done | skip
  · exact go false false (rfl) (rfl) rfl
  · exact go true true (rfl) (rfl) rfl
  · exact go true false (rfl) (rfl) rfl
  · exact go false false (rfl) (rfl) rfl
  · exact go false false (rfl) (rfl) rfl
  · exact go false false (rfl) (rfl) rfl
theorem isN_kd (h : kd1 d = true) : isND d .non S = some (.bl (match d with | .non => true | _ => false)) := by
  cases d <;> first | cases h; done | rfl
theorem chain_int {r : Dv.Env} {i j : Nat} {x : Int} (hi : r[i]? = some (some (.int x))) (hj : r[j]? = some (some (.int (n : Nat)))) : mChain leD ltD (mC (.int 0)) (mVar i) (mVar j) r S = .ok (.bl (decide (0 ≤ x ∧ x < n))) S := by
  show ((mC (.int 0)) r S).bind _ = _
  show ((mVar i) r S).bind _ = _
  rw [var_of hi, rb_ok]
  show (ofO (some (D.bl (decide (0 ≤ x)))) S).bind _ = _
  rw [ofO_some, rb_ok]
  by_cases c : 0 ≤ x
  · rw [decide_eq_true c]
    show ((mVar j) r S).bind _ = _
    rw [var_of hj, rb_ok]
    show R.ok (D.bl (decide (x < (n : Int)))) S = _
    congr 2
    exact decide_eq_decide.mpr ⟨fun h => ⟨c, h⟩, fun h => h.2⟩
  · rw [decide_eq_false c]
    show R.ok (D.bl false) S = _
    rw [decide_eq_false fun h => c h.1]
theorem eOk_ok {r : Dv.Env} (h9 : r[9]? = some (some d)) (h2 : r[2]? = some (some (.int (n : Nat)))) (h : kd1 d = true) : eOk r S = .ok (.bl (okE n d)) S := by
  unfold eOk
  have e1 : mBin isND (mVar 9) (mC .non) r S = _ := bin_of (var_of h9) rfl (isN_kd (S := S) h)
  have e2 : mApp 1 FWhX (mCons (mVar 9) mNil) r S = _ := run_app (cons_of (var_of h9) nil_of) rfl (wh_ok h)
  cases d with
  | non => exact or_of (b' := true) e1 fun z => nomatch z
  | int x => exact or_of (b := false) e1 fun _ => and2_of (b := true) e2 fun _ => chain_int h9 h2
  | bl x => exact or_of (b := false) (b' := false) e1 fun _ => and2_of (b := false) (b' := true) e2 fun z => nomatch z
  | str x => exact or_of (b := false) (b' := false) e1 fun _ => and2_of (b := false) (b' := true) e2 fun z => nomatch z
  | lst x => exact or_of (b := false) (b' := false) e1 fun _ => and2_of (b := false) (b' := true) e2 fun z => nomatch z
  | tux x => exact or_of (b := false) (b' := false) e1 fun _ => and2_of (b := false) (b' := true) e2 fun z => nomatch z
  | _ => cases h
theorem vals_of : ∀ {xs : List D}, xs.all (okE n) = true → ∃ vals : List (Option Nat), xs = vals.map kD ∧ ∀ i, some i ∈ vals → i < n
  | [], _ => ⟨[], rfl, fun i h => nomatch h⟩
  | x :: xs, h => by
    rw [List.all_cons, Bool.and_eq_true] at h
    obtain ⟨vals, e, hv⟩ := vals_of h.2
    have h1 := h.1
    cases x with
    | non => exact ⟨none :: vals, by rw [e]; rfl, fun i hi => hv i ((List.mem_cons.mp hi).resolve_left fun z => nomatch z)⟩
    | int i =>
      have h1 := of_decide_eq_true h1
      refine ⟨some i.toNat :: vals, ?_, fun j hj => ?_⟩
      · rw [e, List.map_cons]
        show _ = D.int ((i.toNat : Nat) : Int) :: _
        rw [Int.toNat_of_nonneg h1.1]
      · rcases List.mem_cons.mp hj with z | z
        · cases z
          omega
        · exact hv j z
    | _ => cases h1
theorem pl_kD (v : Option Nat) : pl 0 (kD v) = true := by cases v <;> rfl
theorem cnt_ok (vals : List (Option Nat)) : cntP (vals.map kD) .non = some (.int ((cntN vals : Nat) : Int)) := by
  unfold cntP
  have h1 : okD (.lst (vals.map kD)) = true := pl_ok (k := 1) (by
    show (vals.map kD).all (pl 0) = true
    rw [List.all_map, List.all_eq_true]
    exact fun v _ => pl_kD v) (by decide)
  rw [if_pos ⟨h1, by decide⟩, List.countP_map]
  congr 4
  funext v
  cases v with
  | none => rfl
  | some i => show PyData.eqv (.int (i : Int)) .none = false; simp [PyData.eqv]
theorem ix_vals {vals : List (Option Nat)} {a : Nat} (h : a < vals.length) : ixXD (.tux (vals.map kD)) (Jt.iD a) S = some (kD (parV vals a)) := by
  show atI (vals.map kD) (a : Int) = _
  rw [atI_nat (v := kD (parV vals a))]
  rw [List.getElem?_map]
  unfold parV
  rw [List.getElem?_eq_getElem h]
  rfl
theorem isN_kD (v : Option Nat) : isND (kD v) .non S = some (.bl v.isNone) := by cases v <;> rfl
theorem rng_iD (n : Nat) (h : n ≤ 90000) : rng1 [.int (n : Nat)] = some ((List.range n).map Jt.iD) := by
  show (if -100000 ≤ ((n : Nat) : Int) ∧ ((n : Nat) : Int) ≤ 100000 then some (rng 0 ((n : Nat) : Int).toNat) else none) = _
  rw [if_pos (by omega), Int.toNat_natCast]
  unfold rng
  congr 1
  refine List.map_congr_left fun i _ => ?_
  show D.int (0 + (i : Int)) = D.int (i : Int)
  rw [Int.zero_add]
theorem mrng {ms : AM} {r : Dv.Env} (e : ms r S = .ok [.int (n : Nat)] S) (h : n ≤ 90000) : mRng1 ms r S = .ok ((List.range n).map Jt.iD) S := by
  show (ms r S).bind _ = _
  rw [e]
  show ofO (rng1 [.int (n : Nat)]) S = _
  rw [rng_iD n h]
  rfl
theorem up_loop {vals : List (Option Nat)} (hv : ∀ i, some i ∈ vals → i < vals.length) : ∀ (ks : List Nat) (a : Nat) (y2 : Option D), a < vals.length →
    ∃ rho, sLoop (tgN 2) mUpB (ks.map Jt.iD) [some (.tux (vals.map kD)), some (Jt.iD a), y2] S = .ok (if upB (parV vals) ks.length a = true then .ret (.bl true) else .next) rho S
  | [], a, y2, _ => ⟨_, rfl⟩
  | k :: ks, a, y2, ha => by
    have ix := ix_vals (S := S) ha
    have t : mT (mBin isND (mBin ixXD (mVar 0) (mVar 1)) (mC .non)) [some (.tux (vals.map kD)), some (Jt.iD a), some (Jt.iD k)] S = .ok (parV vals a).isNone S := t_of (bin_of (bin_of (var_of rfl) (var_of rfl) ix) rfl (isN_kD _))
    rw [List.map_cons]
    show ∃ rho, _ = Z.ok (if upB (parV vals) (ks.length + 1) a = true then _ else _) rho S
    have eu : upB (parV vals) (ks.length + 1) a = match parV vals a with
      | none => true
      | some b => upB (parV vals) ks.length b := rfl
    rw [eu]
    cases q : parV vals a with
    | none =>
      rw [q] at t
      refine ⟨[some (.tux (vals.map kD)), some (Jt.iD a), some (Jt.iD k)], ?_⟩
      rw [if_pos rfl]
      refine loop_out (r1 := [some (.tux (vals.map kD)), some (Jt.iD a), some (Jt.iD k)]) rfl ?_
      exact seq_ret ((if_yes t).trans rfl)
    | some b =>
      rw [q] at t ix
      have hb : b < vals.length := hv b (by
        unfold parV at q
        rw [List.getElem?_eq_getElem ha] at q
        have q : vals[a] = some b := q
        rw [← q]
        exact List.getElem_mem ha)
      obtain ⟨rho, e⟩ := up_loop hv ks b (some (Jt.iD k)) hb
      refine ⟨rho, ?_⟩
      have st : mUpB [some (.tux (vals.map kD)), some (Jt.iD a), some (Jt.iD k)] S = .ok .next [some (.tux (vals.map kD)), some (Jt.iD b), some (Jt.iD k)] S :=
        (seq_next ((if_no t).trans rfl)).trans (set_of (v := Jt.iD b) (bin_of (var_of rfl) (var_of rfl) ix))
      rw [loop_step (r1 := [some (.tux (vals.map kD)), some (Jt.iD a), some (Jt.iD k)]) rfl st]
      exact e
theorem up_ok {vals : List (Option Nat)} (hv : ∀ i, some i ∈ vals → i < vals.length) (hn : vals.length ≤ 90000) {a : Nat} (ha : a < vals.length) : FUp [.tux (vals.map kD), Jt.iD a] S = .ok (.bl (upB (parV vals) vals.length a)) S := by
  obtain ⟨rho, e⟩ := up_loop (S := S) hv (List.range vals.length) a none ha
  rw [List.length_range] at e
  have it : mRng1 (mCons (mCall lenXD (mCons (mVar 0) mNil)) mNil) [some (.tux (vals.map kD)), some (Jt.iD a), none] S = .ok ((List.range vals.length).map Jt.iD) S := mrng (cons_of (call_of (cons_of (var_of rfl) nil_of) (by
    show some (D.int ((vals.map kD).length : Nat)) = _
    rw [List.length_map])) nil_of) hn
  refine fn_ret rfl ?_
  show ∃ rho, mUp [some (.tux (vals.map kD)), some (Jt.iD a), none] S = _
  unfold mUp
  have f := (for_of (gm := tgN 2) (b := mUpB) it).trans e
  cases q : upB (parV vals) vals.length a with
  | true =>
    rw [q, if_pos rfl] at f
    exact ⟨_, seq_ret f⟩
  | false =>
    rw [q, if_neg Bool.false_ne_true] at f
    exact ⟨_, (seq_next f).trans (ret_of rfl)⟩
variable {most many : Nat} {tb : List Bt} {as : List At} {cs : List Ck}
abbrev TE (as : List At) (cs : List Ck) (d : D) (y2 y3 y4 : Option D) : Dv.Env := [some (askD as cs), some d, y2, y3, y4, none, none, none, none, none]
theorem t1_ok {y2 y3 y4 : Option D} : t1 (TE as cs d y2 y3 y4) S = .ok .next (TE as cs d (some (.int (as.length : Nat))) y3 y4) S := by
  refine set_of (call_of (ds := [.tup (as.map atD)]) (cons_of (bin_of (var_of rfl) rfl ?_) nil_of) ?_)
  · show atI [D.tup (as.map atD), .tup (cs.map ckD)] 0 = _
    exact atI_zero _ _
  · show some (D.int ((as.map atD).length : Nat)) = _
    rw [List.length_map]
theorem isT_not (h : kd1 d = true) (h2 : ∀ xs, d ≠ .tux xs) : isiXD [d, .ty "tuple"] S = some (.bl false) := by
  cases d <;> first | cases h; done | rfl | exact absurd rfl (h2 _)
def fitD (n : Nat) : D → Bool
  | .tux xs => decide (xs.length = n)
  | _ => false
theorem t2_no {y3 y4 : Option D} (h : kd1 d = true) (hf : fitD n d = false) : t2 (TE as cs d (some (.int (n : Nat))) y3 y4) S = .ok (.ret (.bl false)) (TE as cs d (some (.int (n : Nat))) y3 y4) S := by
  refine (if_yes ?_).trans (ret_of rfl)
  by_cases c : ∃ xs, d = .tux xs
  · obtain ⟨xs, rfl⟩ := c
    have i1 : isiXD [.tux xs, .ty "tuple"] S = some (.bl true) := rfl
    refine or_f (not_of (b := true) ?_) (t_of (bin_of (x := .int (xs.length : Nat)) (y := .int (n : Nat)) (call_of (cons_of (var_of rfl) nil_of) rfl) (var_of rfl) ?_))
    · show (mCall isiXD (mCons (mVar 1) (mCons (mC (.ty "tuple")) mNil)) _ S).bind _ = _
      rw [call_of (cons_of (var_of rfl) (cons_of rfl nil_of)) i1]
      rfl
    · have hf : decide (xs.length = n) = false := hf
      have hf := of_decide_eq_false hf
      show some (D.bl (!decide ((xs.length : Int) = (n : Int)))) = _
      rw [decide_eq_false (by omega)]
      rfl
  · have i1 := isT_not (S := S) h fun xs e => c ⟨xs, e⟩
    refine or_t (not_of (b := false) ?_)
    show (mCall isiXD (mCons (mVar 1) (mCons (mC (.ty "tuple")) mNil)) _ S).bind _ = _
    rw [call_of (cons_of (var_of rfl) (cons_of rfl nil_of)) i1]
    rfl
theorem truX_bl {m : EM} {r : Dv.Env} {b : Bool} (e : m r S = .ok (.bl b) S) : mTruX m r S = .ok b S := by
  show (m r S).bind _ = _
  rw [e]
  rfl
theorem t2_go {xs : List D} {y3 y4 : Option D} (hl : xs.length = n) : t2 (TE as cs (.tux xs) (some (.int (n : Nat))) y3 y4) S = .ok .next (TE as cs (.tux xs) (some (.int (n : Nat))) y3 y4) S := by
  have i1 : isiXD [.tux xs, .ty "tuple"] S = some (.bl true) := rfl
  refine (if_no (or_f (not_of (b := true) (truX_bl (call_of (cons_of (var_of rfl) (cons_of rfl nil_of)) i1))) (t_of (bin_of (x := .int (xs.length : Nat)) (y := .int (n : Nat)) (call_of (cons_of (var_of rfl) nil_of) rfl) (var_of rfl) ?_)))).trans rfl
  show some (D.bl (!decide ((xs.length : Int) = (n : Int)))) = _
  rw [decide_eq_true (by omega)]
  rfl
theorem itX_of {m : EM} {r : Dv.Env} {ds : List D} (e : m r S = .ok d S) (q : seqXD d = some ds) : mIterX m r S = .ok ds S := by
  show (m r S).bind _ = _
  rw [e]
  show ofO (seqXD d) S = _
  rw [q]
  rfl
theorem t3_all {xs : List D} {y3 y4 : Option D} (hk : xs.all kd1 = true) : mTruX (mCall allD (mCons (mLc (mIterX (mVar 1)) [9] (tgN 9) mYes eOk) mNil)) (TE as cs (.tux xs) (some (.int (n : Nat))) y3 y4) S = .ok (xs.all (okE n)) S := by
  have lc := lc_all (gm := tgN 9) (te := eOk) (r0 := TE as cs (.tux xs) (some (.int (n : Nat))) y3 y4) (S := S) id (fun x => D.bl (okE n x)) xs fun x hx => ⟨[some (askD as cs), some (.tux xs), some (.int (n : Nat)), y3, y4, none, none, none, none, some x], rfl, eOk_ok (n := n) rfl rfl (List.all_eq_true.mp hk x hx)⟩
  rw [List.map_id] at lc
  exact truX_bl (call_of (cons_of (lc_of (itX_of (d := .tux xs) (var_of rfl) rfl) lc) nil_of) (alls_ok (S := S) (okE n) xs))
theorem t3_no {xs : List D} {y3 y4 : Option D} (hk : xs.all kd1 = true) (h : xs.all (okE n) = false) : t3 (TE as cs (.tux xs) (some (.int (n : Nat))) y3 y4) S = .ok (.ret (.bl false)) (TE as cs (.tux xs) (some (.int (n : Nat))) y3 y4) S := by
  have a := t3_all (S := S) (as := as) (cs := cs) (n := n) (y3 := y3) (y4 := y4) hk
  rw [h] at a
  exact (if_yes (or_t (not_of a))).trans (ret_of rfl)
theorem cntX_ok {vals : List (Option Nat)} {r : Dv.Env} (h : r[1]? = some (some (.tux (vals.map kD)))) : mT (mBin neD (mCntX (mVar 1) (mC .non)) (mC (.int 1))) r S = .ok (!decide (cntN vals = 1)) S := by
  have e : mCntX (mVar 1) (mC .non) r S = .ok (.int ((cntN vals : Nat) : Int)) S := by
    show (mVar 1 r S).bind _ = _
    rw [var_of h, rb_ok]
    show ofO (cntP (vals.map kD) .non) S = _
    rw [cnt_ok]
    rfl
  refine t_of (bin_of e rfl ?_)
  show some (D.bl (!decide (((cntN vals : Nat) : Int) = 1))) = _
  congr 3
  exact decide_eq_decide.mpr (by omega)
theorem all_kD {vals : List (Option Nat)} (hv : ∀ i, some i ∈ vals → i < n) : (vals.map kD).all kd1 = true ∧ (vals.map kD).all (okE n) = true := by
  rw [List.all_map, List.all_map, List.all_eq_true, List.all_eq_true]
  refine ⟨fun v _ => by cases v <;> rfl, fun v h => ?_⟩
  cases v with
  | none => rfl
  | some i =>
    have := hv i h
    show decide (0 ≤ ((i : Nat) : Int) ∧ ((i : Nat) : Int) < n) = true
    exact decide_eq_true (by omega)
theorem t3_vals {vals : List (Option Nat)} {y3 y4 : Option D} (hv : ∀ i, some i ∈ vals → i < n) : t3 (TE as cs (.tux (vals.map kD)) (some (.int (n : Nat))) y3 y4) S = .ok (if cntN vals = 1 then .next else .ret (.bl false)) (TE as cs (.tux (vals.map kD)) (some (.int (n : Nat))) y3 y4) S := by
  obtain ⟨h1, h2⟩ := all_kD hv
  have a := t3_all (S := S) (as := as) (cs := cs) (n := n) (y3 := y3) (y4 := y4) h1
  rw [h2] at a
  have c := cntX_ok (S := S) (vals := vals) (r := TE as cs (.tux (vals.map kD)) (some (.int (n : Nat))) y3 y4) rfl
  have o := or_f (not_of a) c
  by_cases q : cntN vals = 1
  · rw [decide_eq_true q] at o
    rw [if_pos q]
    exact (if_no o).trans rfl
  · rw [decide_eq_false q] at o
    rw [if_neg q]
    exact (if_yes o).trans (ret_of rfl)
theorem t4_ok {vals : List (Option Nat)} {y3 y4 : Option D} (hl : vals.length = n) (hn : n ≤ 90000) (hv : ∀ i, some i ∈ vals → i < n) : t4 (TE as cs (.tux (vals.map kD)) (some (.int (n : Nat))) y3 y4) S = .ok (if (List.range n).all (upB (parV vals) n) = true then .next else .ret (.bl false)) (TE as cs (.tux (vals.map kD)) (some (.int (n : Nat))) y3 y4) S := by
  subst hl
  have lc := lc_all (gm := tgN 8) (te := mApp 2 FUp (mCons (mVar 1) (mCons (mVar 8) mNil))) (r0 := TE as cs (.tux (vals.map kD)) (some (.int (vals.length : Nat))) y3 y4) (S := S) Jt.iD (fun a => D.bl (upB (parV vals) vals.length a)) (List.range vals.length) fun a ha => ⟨[some (askD as cs), some (.tux (vals.map kD)), some (.int (vals.length : Nat)), y3, y4, none, none, none, some (Jt.iD a), none], rfl, run_app (cons_of (var_of rfl) (cons_of (var_of rfl) nil_of)) rfl (up_ok hv hn (List.mem_range.mp ha))⟩
  have t := truX_bl (call_of (cons_of (lc_of (im := mRng1 (mCons (mVar 2) mNil)) (vs := [8]) (r := TE as cs (.tux (vals.map kD)) (some (.int (vals.length : Nat))) y3 y4) (mrng (n := vals.length) (cons_of (var_of rfl) nil_of) hn) lc) nil_of) (alls_ok (S := S) (upB (parV vals) vals.length) (List.range vals.length)))
  cases q : (List.range vals.length).all (upB (parV vals) vals.length) with
  | true =>
    rw [q] at t
    exact (if_no (not_of t)).trans rfl
  | false =>
    rw [q] at t
    exact (if_yes (not_of t)).trans (ret_of rfl)
theorem inI {x : D} {l : List Nat} (hx : ∃ v : Option Nat, x = kD v) : inTD x (.lst (l.map Jt.iD)) S = some (.bl (decide (x ∈ l.map Jt.iD))) := by
  obtain ⟨v, rfl⟩ := hx
  have hd : now (kD v) S = kD v := by cases v <;> rfl
  show (inTO (now (kD v) S) (.lst (l.map Jt.iD))).map D.bl = _
  rw [hd]
  have : inTO (kD v) (.lst (l.map Jt.iD)) = inO (kD v) (.lst (l.map Jt.iD)) := rfl
  rw [this, inO_pl (k := 0) (pl_kD v) (List.all_eq_true.mpr fun d hd => by
    obtain ⟨i, _, rfl⟩ := List.mem_map.mp hd
    rfl) (by decide)]
  rfl
theorem mem_kD {v : Option Nat} {l : List Nat} : kD v ∈ l.map Jt.iD ↔ ∃ i, v = some i ∧ i ∈ l := by
  constructor
  · intro h
    obtain ⟨i, hi, e⟩ := List.mem_map.mp h
    cases v with
    | none => cases e
    | some j =>
      have e : (D.int ((i : Nat) : Int)) = .int ((j : Nat) : Int) := e
      have := D.int.inj e
      exact ⟨j, rfl, by rw [show j = i by omega]; exact hi⟩
  · rintro ⟨i, rfl, hi⟩
    exact List.mem_map.mpr ⟨i, hi, rfl⟩
theorem t5B_ok (q : Mq most many tb as cs) {vals : List (Option Nat)} {y : Str} {y4 : Option D} (hl : vals.length = as.length) (hn : as.length ≤ 90000) (hv : ∀ i, some i ∈ vals → i < as.length) (hy : y ∈ abcd) (hs : 1 ≤ (sel as.length (hasY as y)).length) :
    ∃ u4, t5B (TE as cs (.tux (vals.map kD)) (some (.int (as.length : Nat))) (some (.str y)) y4) S = .ok (if hangB as as.length vals y = true then .next else .ret (.bl false)) (TE as cs (.tux (vals.map kD)) (some (.int (as.length : Nat))) (some (.str y)) u4) S := by
  have l1 := lc_src (gm := tgN 8) (tt := mT (mBin inTD (mVar 3) (mApp 2 FNamesAt (mCons (mVar 0) (mCons (mVar 8) mNil))))) (te := mVar 8) (r0 := TE as cs (.tux (vals.map kD)) (some (.int (as.length : Nat))) (some (.str y)) y4) (S := S) Jt.iD (hasY as y) Jt.iD (List.range as.length) fun a ha => ⟨[some (askD as cs), some (.tux (vals.map kD)), some (.int (as.length : Nat)), some (.str y), y4, none, none, none, some (Jt.iD a), none], rfl, t_of (bin_of (var_of rfl) (run_app (cons_of (var_of rfl) (cons_of (var_of rfl) nil_of)) rfl (namesAt_ok q (List.mem_range.mp ha))) (inT_strs y (Na as a))), fun _ => var_of rfl⟩
  have l2 := lc_src (gm := tgN 8) (tt := mT (mBin inTD (mBin ixXD (mVar 1) (mVar 8)) (mVar 4))) (te := mVar 8) (r0 := TE as cs (.tux (vals.map kD)) (some (.int (as.length : Nat))) (some (.str y)) (some (.lst ((sel as.length (hasY as y)).map Jt.iD)))) (S := S) Jt.iD (inS (parV vals) (hasY as y)) Jt.iD (sel as.length (hasY as y)) fun a ha => by
    have han := (mem_sel.mp ha).1
    refine ⟨[some (askD as cs), some (.tux (vals.map kD)), some (.int (as.length : Nat)), some (.str y), some (.lst ((sel as.length (hasY as y)).map Jt.iD)), none, none, none, some (Jt.iD a), none], rfl, ?_, fun _ => var_of rfl⟩
    have e := t_of (bin_of (S := S) (f := inTD) (a := mBin ixXD (mVar 1) (mVar 8)) (b := mVar 4) (r := [some (askD as cs), some (.tux (vals.map kD)), some (.int (as.length : Nat)), some (.str y), some (.lst ((sel as.length (hasY as y)).map Jt.iD)), none, none, none, some (Jt.iD a), none]) (bin_of (var_of rfl) (var_of rfl) (ix_vals (S := S) (by omega))) (var_of rfl) (inI (l := sel as.length (hasY as y)) ⟨parV vals a, rfl⟩))
    rw [e]
    congr 1
    unfold inS
    cases hp : parV vals a with
    | none =>
      refine decide_eq_false fun z => ?_
      obtain ⟨i, h, _⟩ := mem_kD.mp z
      cases h
    | some b =>
      have hb : b < as.length := hv b (by
        unfold parV at hp
        rw [List.getElem?_eq_getElem (by omega)] at hp
        have hp : vals[a] = some b := hp
        rw [← hp]
        exact List.getElem_mem _)
      show decide _ = hasY as y b
      cases hh : hasY as y b with
      | true => exact decide_eq_true (mem_kD.mpr ⟨b, rfl, mem_sel.mpr ⟨hb, hh⟩⟩)
      | false =>
        refine decide_eq_false fun z => ?_
        obtain ⟨i, h, hi⟩ := mem_kD.mp z
        cases h
        rw [(mem_sel.mp hi).2] at hh
        cases hh
  refine ⟨some (.lst ((sel as.length (hasY as y)).map Jt.iD)), ?_⟩
  have s1 : (sSet 4 (mLc (mRng1 (mCons (mVar 2) mNil)) [8] (tgN 8) (mT (mBin inTD (mVar 3) (mApp 2 FNamesAt (mCons (mVar 0) (mCons (mVar 8) mNil))))) (mVar 8))) (TE as cs (.tux (vals.map kD)) (some (.int (as.length : Nat))) (some (.str y)) y4) S = .ok .next (TE as cs (.tux (vals.map kD)) (some (.int (as.length : Nat))) (some (.str y)) (some (.lst ((sel as.length (hasY as y)).map Jt.iD)))) S :=
    set_of (lc_of (mrng (n := as.length) (cons_of (var_of rfl) nil_of) hn) l1)
  unfold t5B
  rw [seq_next s1]
  have t : mT (mBin neD (mCall lenXD (mCons (mLc (mIterX (mVar 4)) [8] (tgN 8) (mT (mBin inTD (mBin ixXD (mVar 1) (mVar 8)) (mVar 4))) (mVar 8)) mNil)) (mBin subD (mCall lenXD (mCons (mVar 4) mNil)) (mC (.int 1)))) (TE as cs (.tux (vals.map kD)) (some (.int (as.length : Nat))) (some (.str y)) (some (.lst ((sel as.length (hasY as y)).map Jt.iD)))) S = .ok (!hangB as as.length vals y) S := by
    refine t_of (bin_of (x := .int ((((sel as.length (hasY as y)).filter (inS (parV vals) (hasY as y))).map Jt.iD).length : Nat)) (y := .int ((((sel as.length (hasY as y)).map Jt.iD).length : Nat) - 1 : Int)) (call_of (cons_of (lc_of (itX_of (d := .lst ((sel as.length (hasY as y)).map Jt.iD)) (var_of rfl) rfl) l2) nil_of) rfl) (bin_of (call_of (cons_of (var_of rfl) nil_of) rfl) rfl rfl) ?_)
    show some (D.bl (!decide _)) = some (D.bl (!decide _))
    congr 3
    refine decide_eq_decide.mpr ?_
    rw [List.length_map, List.length_map]
    omega
  cases hh : hangB as as.length vals y with
  | true =>
    rw [hh] at t
    exact (if_no t).trans rfl
  | false =>
    rw [hh] at t
    exact (if_yes t).trans (ret_of rfl)
theorem t5_loop (q : Mq most many tb as cs) {vals : List (Option Nat)} (hl : vals.length = as.length) (hn : as.length ≤ 90000) (hv : ∀ i, some i ∈ vals → i < as.length) : ∀ (ys : List Str) (y3 y4 : Option D), (∀ y ∈ ys, y ∈ abcd ∧ 1 ≤ (sel as.length (hasY as y)).length) →
    ∃ u3 u4, sLoop (tgN 3) t5B (ys.map D.str) (TE as cs (.tux (vals.map kD)) (some (.int (as.length : Nat))) y3 y4) S = .ok (if ys.all (hangB as as.length vals) = true then .next else .ret (.bl false)) (TE as cs (.tux (vals.map kD)) (some (.int (as.length : Nat))) u3 u4) S
  | [], y3, y4, _ => ⟨y3, y4, rfl⟩
  | y :: ys, y3, y4, h => by
    obtain ⟨h1, h2⟩ := h y List.mem_cons_self
    obtain ⟨u4, e⟩ := t5B_ok (S := S) q (y4 := y4) hl hn hv h1 h2
    rw [List.map_cons]
    cases hh : hangB as as.length vals y with
    | true =>
      rw [hh, if_pos rfl] at e
      obtain ⟨v3, v4, e2⟩ := t5_loop q hl hn hv ys (some (.str y)) u4 fun z hz => h z (List.mem_cons_of_mem _ hz)
      refine ⟨v3, v4, ?_⟩
      rw [loop_step (r1 := TE as cs (.tux (vals.map kD)) (some (.int (as.length : Nat))) (some (.str y)) y4) rfl e, e2, List.all_cons, hh, Bool.true_and]
    | false =>
      rw [hh, if_neg Bool.false_ne_true] at e
      refine ⟨some (.str y), u4, ?_⟩
      rw [loop_out (r1 := TE as cs (.tux (vals.map kD)) (some (.int (as.length : Nat))) (some (.str y)) y4) rfl e, List.all_cons, hh, Bool.false_and]
      rfl
theorem lc2X_terms {y0 y1 y2 y3 y4 y5 y6 y7 y8 y9 : Option D} : ∀ as : List At, lcL2 (tgT 2 (tgsCons (tgN 5) (tgsCons (tgN 6) tgsNil))) mYes (mIterX (mVar 6)) [7] (tgN 7) mYes (mVar 7) [y0, y1, y2, y3, y4, y5, y6, y7, y8, y9] (as.map atD) S = .ok ((tmsA as).map trD) S
  | [] => rfl
  | a :: as => by
    have ih := lc2X_terms (y0 := y0) (y1 := y1) (y2 := y2) (y3 := y3) (y4 := y4) (y5 := y5) (y6 := y6) (y7 := y7) (y8 := y8) (y9 := y9) as
    have inner : lcL (tgN 7) mYes (mVar 7) [y0, y1, y2, y3, y4, some (.str a.w), some (.tup (a.ts.map trD)), none, y8, y9] (a.ts.map trD) S = .ok (a.ts.map trD) S := by
      have := lc_map (gm := tgN 7) (te := mVar 7) (r0 := [y0, y1, y2, y3, y4, some (.str a.w), some (.tup (a.ts.map trD)), none, y8, y9]) (S := S) id (a.ts.map trD) fun d hd => ⟨[y0, y1, y2, y3, y4, some (.str a.w), some (.tup (a.ts.map trD)), some d, y8, y9], rfl, rfl⟩
      rw [List.map_id] at this
      exact this
    have et : (tmsA (a :: as)).map trD = a.ts.map trD ++ (tmsA as).map trD := by
      show (a.ts ++ tmsA as).map trD = _
      rw [List.map_append]
    rw [List.map_cons, lcL2_cons, et]
    have sq : seqXD (.tup (a.ts.map trD)) = some (a.ts.map trD) := rfl
    simp [inner, ih, atD, sq]
theorem sel_pos {y : Str} (h : y ∈ nms as) : 1 ≤ (sel as.length (hasY as y)).length := by
  obtain ⟨a, ha, hy⟩ := usd_nmsOf.mp (mem_nms.mp h)
  obtain ⟨i, hi, e⟩ := List.getElem_of_mem ha
  have : i ∈ sel as.length (hasY as y) := mem_sel.mpr ⟨hi, decide_eq_true (by
    rw [na_eq (by rw [List.getElem?_eq_getElem hi, e])]
    exact mem_na.mpr hy)⟩
  exact List.length_pos_of_mem this
def istB (as : List At) (d : D) : Bool := match d with
  | .tux xs => match xs.all (okE as.length) with
    | true => decide (xs.length = as.length) && (decide ((xs.countP fun x => decide (x = .non)) = 1) && trB as as.length (xs.map fun x => match x with | .int i => some i.toNat | _ => none))
    | false => false
  | _ => false
theorem back_vals (vals : List (Option Nat)) : (vals.map kD).map (fun x => match x with | .int i => some i.toNat | _ => none) = vals := by
  rw [List.map_map]
  refine (List.map_congr_left fun v _ => ?_).trans (List.map_id vals)
  cases v <;> rfl
theorem cnt_vals (vals : List (Option Nat)) : ((vals.map kD).countP fun x => decide (x = .non)) = cntN vals := by
  rw [List.countP_map]
  unfold cntN
  congr 1
  funext v
  cases v with
  | none => exact decide_eq_true rfl
  | some i => exact decide_eq_false fun z => nomatch z
theorem istB_vals {vals : List (Option Nat)} (hv : ∀ i, some i ∈ vals → i < as.length) : istB as (.tux (vals.map kD)) = (decide (vals.length = as.length) && (decide (cntN vals = 1) && trB as as.length vals)) := by
  unfold istB
  simp only [(all_kD hv).2, List.length_map, back_vals, cnt_vals]
theorem ist_ok (q : Mq most many tb as cs) (hn : as.length ≤ 900) (h : kd1 d = true) (h2 : kd2 d = true) : FIsT [askD as cs, d] S = .ok (.bl (istB as d)) S := by
  refine fn_ret rfl ?_
  show ∃ rho, mIsT (TE as cs d none none none) S = _
  have a1 := t1_ok (S := S) (as := as) (cs := cs) (d := d) (y2 := none) (y3 := none) (y4 := none)
  unfold mIsT
  cases hf : fitD as.length d with
  | false =>
    refine ⟨TE as cs d (some (.int (as.length : Nat))) none none, ?_⟩
    rw [seq_next a1, seq_ret (t2_no h hf)]
    have : istB as d = false := by
      unfold istB
      split
      · rename_i xs
        have hf : decide (xs.length = as.length) = false := hf
        split
        · rw [hf]; rfl
        · rfl
      · rfl
    rw [this]
  | true =>
    cases d with
    | tux xs =>
      have hl : xs.length = as.length := of_decide_eq_true hf
      rw [seq_next a1, seq_next (t2_go hl)]
      have hk : xs.all kd1 = true := h2
      cases hall : xs.all (okE as.length) with
      | false =>
        refine ⟨TE as cs (.tux xs) (some (.int (as.length : Nat))) none none, ?_⟩
        rw [seq_ret (t3_no hk hall)]
        have : istB as (.tux xs) = false := by
          unfold istB
          simp only [hall]
        rw [this]
      | true =>
        obtain ⟨vals, rfl, hv⟩ := vals_of hall
        rw [List.length_map] at hl
        rw [istB_vals hv, decide_eq_true hl, Bool.true_and]
        have a3 := t3_vals (S := S) (as := as) (cs := cs) (y3 := none) (y4 := none) hv
        by_cases hc : cntN vals = 1
        · rw [if_pos hc] at a3
          rw [seq_next a3, decide_eq_true hc, Bool.true_and]
          have a4 := t4_ok (S := S) (as := as) (cs := cs) (y3 := none) (y4 := none) hl (by omega) hv
          unfold trB
          cases hu : (List.range as.length).all (upB (parV vals) as.length) with
          | false =>
            rw [hu, if_neg Bool.false_ne_true] at a4
            exact ⟨_, seq_ret a4⟩
          | true =>
            rw [hu, if_pos rfl] at a4
            rw [seq_next a4, Bool.true_and]
            obtain ⟨u3, u4, a5⟩ := t5_loop (S := S) q hl (by omega) hv (nms as) none none fun y hy => ⟨nms_abcd q.tok y hy, sel_pos hy⟩
            have e1 := lc2X_terms (S := S) (y0 := some (askD as cs)) (y1 := some (.tux (vals.map kD))) (y2 := some (.int (as.length : Nat))) (y3 := none) (y4 := none) (y5 := none) (y6 := none) (y7 := none) (y8 := none) (y9 := none) as
            have e2 := namesIn_ok (S := S) (d0 := .lst ((tmsA as).map trD)) rfl (tmsA_ok q.tok) q.tml
            have hl' : (tmsA as).length ≤ 100000 := by have := q.tml; omega
            have e3 : mLc2 (mIterX (mBin ixXD (mVar 0) (mC (.int 0)))) [5, 6, 7] (tgT 2 (tgsCons (tgN 5) (tgsCons (tgN 6) tgsNil))) mYes (mIterX (mVar 6)) [7] (tgN 7) mYes (mVar 7) (TE as cs (.tux (vals.map kD)) (some (.int (as.length : Nat))) none none) S = .ok (.lst ((tmsA as).map trD)) S := by
              have it : mIterX (mBin ixXD (mVar 0) (mC (.int 0))) (TE as cs (.tux (vals.map kD)) (some (.int (as.length : Nat))) none none) S = .ok (as.map atD) S := itX_of (d := .tup (as.map atD)) (bin_of (var_of rfl) rfl (show atI [D.tup (as.map atD), .tup (cs.map ckD)] 0 = _ from atI_zero _ _)) rfl
              unfold mLc2
              rw [it, rb_ok]
              show (lcL2 _ _ _ _ _ _ _ [some (askD as cs), some (.tux (vals.map kD)), some (.int (as.length : Nat)), none, none, none, none, none, none, none] (as.map atD) S).bind _ = _
              rw [e1]
              simp [lcFin, hl']
            have f := (for_of (gm := tgN 3) (b := t5B) (itX_of (d := .tup ((nms as).map D.str)) (run_app (cons_of e3 nil_of) rfl e2) rfl)).trans a5
            cases hg : (nms as).all (hangB as as.length vals) with
            | true =>
              rw [hg, if_pos rfl] at f
              exact ⟨_, (seq_next f).trans (ret_of rfl)⟩
            | false =>
              rw [hg, if_neg Bool.false_ne_true] at f
              exact ⟨_, seq_ret f⟩
        · rw [if_neg hc] at a3
          rw [decide_eq_false hc]
          exact ⟨_, seq_ret a3⟩
    | _ => cases hf
end
end Tr
namespace Tr
open PySem L2 Dv Mw Sx Jt
def mOwn1 : SM := (sRet (mLc (mIter (mBin ixD (mBin ixD (mBin ixD (mVar 0) (mC (.int 0))) (mVar 1)) (mC (.int 1)))) [2] (tgN 2) (mTru (mCall isiD (mCons (mVar 2) (mCons (mC (.ty "str")) mNil)))) (mVar 2)))
def FOwn1 : List D → Store → R D := runT 3 mOwn1
def ownL (as : List At) (i : Nat) : List Str := match as[i]? with
  | some a => a.ts.filterMap trN
  | none => []
section
variable {S : Store} {d : D} {n fu : Nat} {vals : List (Option Nat)}
theorem own1_ok {as : List At} {cs : List Ck} {i : Nat} (hi : i < as.length) : FOwn1 [askD as cs, Jt.iD i] S = .ok (.lst ((ownL as i).map D.str)) S := by
  obtain ⟨a, ha⟩ : ∃ a, as[i]? = some a := ⟨_, List.getElem?_eq_getElem hi⟩
  have eo : ownL as i = a.ts.filterMap trN := by
    unfold ownL
    rw [ha]
  have lc := strs_lc (S := S) (r0 := [some (askD as cs), some (Jt.iD i), none]) (j := 2) (by simp) a.ts
  refine fn_ret (cloL_strs _ _) ⟨[some (askD as cs), some (Jt.iD i), none], ?_⟩
  show mOwn1 [some (askD as cs), some (Jt.iD i), none] S = _
  rw [eo]
  exact ret_of (lc_of (iter_of (d := .tup (a.ts.map trD)) (bin_of (x := atD a) (bin_of (x := .tup (as.map atD)) (bin_of (var_of rfl) rfl (show atI [D.tup (as.map atD), .tup (cs.map ckD)] 0 = _ from atI_zero _ _)) (var_of rfl) (at_ix ha)) rfl rfl) rfl) lc)
theorem mem_own {as : List At} {i : Nat} {y : Str} : y ∈ ownL as i ↔ y ∈ Na as i := by
  unfold ownL
  cases h : as[i]? with
  | none =>
    unfold Na
    rw [h]
  | some a =>
    rw [na_eq h]
    exact (mem_na (a := a)).symm
theorem own_abcd {most many : Nat} {tb : List Bt} {as : List At} {cs : List Ck} (q : Mq most many tb as cs) {i : Nat} {y : Str} (h : y ∈ ownL as i) : y ∈ abcd := by
  unfold ownL at h
  cases ha : as[i]? with
  | none => rw [ha] at h; cases h
  | some a =>
    rw [ha] at h
    obtain ⟨t, ht, e⟩ := List.mem_filterMap.mp h
    cases t with
    | vl i => cases e
    | nm x =>
      cases e
      exact q.tok a (List.mem_of_getElem? ha) _ ht
variable {most many : Nat} {tb : List Bt} {as : List At} {cs : List Ck}
def prB (as : List At) (vals : List (Option Nat)) (a b : Nat) : Bool := ((ownL as a).filter fun y => decide (y ∈ ownL as b)).all fun y => (btw (W as.length (parV vals) a) (W as.length (parV vals) b)).all fun z => decide (y ∈ ownL as z)
theorem one_none : ∀ {vals : List (Option Nat)}, cntN vals = 1 → ∃ r, r < vals.length ∧ parV vals r = none ∧ ∀ a, a < vals.length → parV vals a = none → a = r
  | [], h => by cases h
  | none :: vs, h => by
    have h0 : cntN vs = 0 := by
      have : cntN (none :: vs) = cntN vs + 1 := by unfold cntN; rw [List.countP_cons]; rfl
      omega
    refine ⟨0, Nat.succ_pos _, rfl, fun a ha hp => ?_⟩
    cases a with
    | zero => rfl
    | succ a =>
      have ha : a < vs.length := by simpa using ha
      have hp : parV vs a = none := hp
      unfold cntN at h0
      rw [List.countP_eq_zero] at h0
      have := h0 vs[a] (List.getElem_mem ha)
      unfold parV at hp
      rw [List.getElem?_eq_getElem ha] at hp
      have hp : vs[a] = none := hp
      rw [hp] at this
      exact absurd rfl this
  | some i :: vs, h => by
    have h0 : cntN vs = 1 := by
      have : cntN (some i :: vs) = cntN vs := by unfold cntN; rw [List.countP_cons]; rfl
      omega
    obtain ⟨r, hr, h1, h2⟩ := one_none h0
    refine ⟨r + 1, by simpa using hr, h1, fun a ha hp => ?_⟩
    cases a with
    | zero => cases hp
    | succ a => rw [h2 a (by simpa using ha) hp]
theorem ok_of (hl : vals.length = as.length) (hv : ∀ i, some i ∈ vals → i < as.length) (hc : cntN vals = 1) (hu : (List.range as.length).all (upB (parV vals) as.length) = true) : Ok as.length (parV vals) := by
  refine ⟨fun a b ha h => hv b ?_, fun a ha => (wy_up _ _).mpr (List.all_eq_true.mp hu a (List.mem_range.mpr ha)), ?_⟩
  · unfold parV at h
    rw [List.getElem?_eq_getElem (by omega)] at h
    have h : vals[a]'(by omega) = some b := h
    rw [← h]
    exact List.getElem_mem _
  · rw [← hl]
    exact one_none hc
theorem na_nms {y : Str} {a : Nat} (h : y ∈ Na as a) : y ∈ nms as := by
  unfold Na at h
  cases ha : as[a]? with
  | none => rw [ha] at h; cases h
  | some t =>
    rw [ha] at h
    exact mem_nms.mpr (usd_nmsOf.mpr ⟨t, List.mem_of_getElem? ha, mem_na.mp h⟩)
theorem hang_pr (o : Ok as.length (parV vals)) : ((List.range as.length).all fun a => (List.range as.length).all fun b => prB as vals a b) = (nms as).all (hangB as as.length vals) := by
  rw [Bool.eq_iff_iff, List.all_eq_true, List.all_eq_true]
  constructor
  · intro h y hy
    unfold hangB
    refine decide_eq_true ((hang_iff o ?_).mpr fun a b ha hb sa sb z hz => ?_)
    · obtain ⟨a, ha⟩ := List.exists_mem_of_length_pos (show 0 < (sel as.length (hasY as y)).length from sel_pos hy)
      exact ⟨a, (mem_sel.mp ha).1, (mem_sel.mp ha).2⟩
    · have h1 := List.all_eq_true.mp (h a (List.mem_range.mpr ha)) b (List.mem_range.mpr hb)
      unfold prB at h1
      have h2 := List.all_eq_true.mp h1 y (List.mem_filter.mpr ⟨mem_own.mpr (of_decide_eq_true sa), decide_eq_true (mem_own.mpr (of_decide_eq_true sb))⟩)
      exact decide_eq_true (mem_own.mp (of_decide_eq_true (List.all_eq_true.mp h2 z hz)))
  · intro h a ha
    rw [List.all_eq_true]
    intro b hb
    unfold prB
    rw [List.all_eq_true]
    intro y hy
    obtain ⟨h1, h2⟩ := List.mem_filter.mp hy
    have h1 := mem_own.mp h1
    have h2 := mem_own.mp (of_decide_eq_true h2)
    have h3 := h y (na_nms h1)
    unfold hangB at h3
    have h4 := (hang_iff o ⟨a, List.mem_range.mp ha, decide_eq_true h1⟩).mp (of_decide_eq_true h3) a b (List.mem_range.mp ha) (List.mem_range.mp hb) (decide_eq_true h1) (decide_eq_true h2)
    rw [List.all_eq_true]
    exact fun z hz => decide_eq_true (mem_own.mpr (of_decide_eq_true (h4 z hz)))
end
end Tr
namespace Tr
open PySem L2 Dv Mw Sx Jt
def earR (as : List At) : Nat → List Nat → List (Nat × Nat) → List (Nat × Nat) × List Nat
  | 0, left, P => (P, left)
  | k + 1, left, P => if 1 < left.length then match left.filter (hasK as left) with
      | [] => (P, left)
      | e :: _ => earR as k (left.erase e) (P ++ [(e, (keeper as left e).getD 0)])
    else (P, left)
section
variable {most many : Nat} {tb : List Bt} {as : List At} {cs : List Ck} {S : Store} {left : List Nat} {P : List (Nat × Nat)}
theorem earB_ok2 (q : Mq most many tb as cs) (hl : ∀ j ∈ left, j < as.length) (hP : P.length < 90000) {y3 y4 y5 : Option D} :
    (left.filter (hasK as left) = [] ∧ ∃ z3, mEarB (EE (askD as cs) S.length y3 y4 y5) (S ++ [.lst (left.map Jt.iD), .lst (P.map pD)]) = .ok .brk (EE (askD as cs) S.length z3 y4 y5) (S ++ [.lst (left.map Jt.iD), .lst (P.map pD)])) ∨
    ∃ e rest, left.filter (hasK as left) = e :: rest ∧ ∃ z3, mEarB (EE (askD as cs) S.length y3 y4 y5) (S ++ [.lst (left.map Jt.iD), .lst (P.map pD)]) = .ok .next (EE (askD as cs) S.length z3 y4 y5) (S ++ [.lst ((left.erase e).map Jt.iD), .lst ((P ++ [(e, (keeper as left e).getD 0)]).map pD)]) := by
  have hS := two_a (S0 := S) (.lst (left.map Jt.iD)) (.lst (P.map pD))
  have hS2 := two_b (S0 := S) (.lst (left.map Jt.iD)) (.lst (P.map pD))
  have l1 := lcG_src (gm := tgN 4) (tt := mYes) (te := mTup (mCons (mVar 4) (mCons (mApp 3 FKeeper (mCons (mVar 0) (mCons (mVar 4) (mCons (mVar 1) mNil)))) mNil))) (r0 := EE (askD as cs) S.length y3 none y5) (S := S ++ [.lst (left.map Jt.iD), .lst (P.map pD)]) (c := gIs S.length (left.map Jt.iD)) (gIs_iff.mpr hS) Jt.iD (fun _ => true) (kpD as left) left fun j hj => ⟨EE (askD as cs) S.length y3 (some (Jt.iD j)) y5, rfl, rfl, fun _ => by
    have k1 := keeper_ok q (hl j hj) hl hS
    unfold kpD
    generalize S ++ [.lst (left.map Jt.iD), .lst (P.map pD)] = S1 at k1 ⊢
    simp [k1]⟩
  rw [List.filter_eq_self.mpr fun _ _ => rfl] at l1
  have l2 := lc_src (gm := tgT 2 (tgsCons (tgN 4) (tgsCons (tgN 5) tgsNil))) (tt := mT (mBin notND (mVar 5) (mC .non))) (te := mTup (mCons (mVar 4) (mCons (mVar 5) mNil))) (r0 := EE (askD as cs) S.length (some (.lst (left.map (kpD as left)))) none none) (S := S ++ [.lst (left.map Jt.iD), .lst (P.map pD)]) (kpD as left) (hasK as left) (kpD as left) left fun j hj => ⟨EE (askD as cs) S.length (some (.lst (left.map (kpD as left)))) (some (Jt.iD j)) (some (kD (keeper as left j))), rfl, by
    unfold hasK
    cases keeper as left j <;> rfl, fun _ => rfl⟩
  have sg : seqG (.loc S.length) (S ++ [.lst (left.map Jt.iD), .lst (P.map pD)]) = some (left.map Jt.iD, gIs S.length (left.map Jt.iD)) := by
    show (match (S ++ [O.lst (left.map Jt.iD), O.lst (P.map pD)])[S.length]? with
      | some (O.lst xs) => some (xs, gIs S.length xs)
      | _ => none) = _
    rw [hS]
  have u1 : sSet 3 (mLcG false (mIterG (mVar 1)) [4] (tgN 4) mYes (mTup (mCons (mVar 4) (mCons (mApp 3 FKeeper (mCons (mVar 0) (mCons (mVar 4) (mCons (mVar 1) mNil)))) mNil)))) (EE (askD as cs) S.length y3 y4 y5) (S ++ [.lst (left.map Jt.iD), .lst (P.map pD)]) = .ok .next (EE (askD as cs) S.length (some (.lst (left.map (kpD as left)))) y4 y5) (S ++ [.lst (left.map Jt.iD), .lst (P.map pD)]) := by
    generalize S ++ [.lst (left.map Jt.iD), .lst (P.map pD)] = S1 at l1 sg ⊢
    generalize left.map Jt.iD = W at l1 sg
    generalize left.map (kpD as left) = W2 at l1 ⊢
    simp [sg, l1]
  have u2 : sSet 3 (mLc (mIter (mVar 3)) [4, 5] (tgT 2 (tgsCons (tgN 4) (tgsCons (tgN 5) tgsNil))) (mT (mBin notND (mVar 5) (mC .non))) (mTup (mCons (mVar 4) (mCons (mVar 5) mNil)))) (EE (askD as cs) S.length (some (.lst (left.map (kpD as left)))) y4 y5) (S ++ [.lst (left.map Jt.iD), .lst (P.map pD)]) = .ok .next (EE (askD as cs) S.length (some (.lst ((left.filter (hasK as left)).map (kpD as left)))) y4 y5) (S ++ [.lst (left.map Jt.iD), .lst (P.map pD)]) := by
    generalize S ++ [.lst (left.map Jt.iD), .lst (P.map pD)] = S1 at l2 ⊢
    generalize left.map (kpD as left) = W2 at l2 ⊢
    generalize (left.filter (hasK as left)).map (kpD as left) = W3 at l2 ⊢
    simp [l2]
  unfold mEarB
  cases hf : left.filter (hasK as left) with
  | nil =>
    rw [hf] at u2
    refine .inl ⟨rfl, some (.lst []), ?_⟩
    rw [seq_ok u1, seq_ok u2]
    rfl
  | cons e rest =>
    rw [hf, List.map_cons] at u2
    have he : e ∈ left.filter (hasK as left) := by rw [hf]; exact List.mem_cons_self
    obtain ⟨he1, he2⟩ := List.mem_filter.mp he
    obtain ⟨p, hp⟩ := Option.isSome_iff_exists.mp he2
    refine .inr ⟨e, rest, rfl, some (.lst (kpD as left e :: rest.map (kpD as left))), ?_⟩
    rw [seq_ok u1, seq_ok u2, show (keeper as left e).getD 0 = p by rw [hp]; rfl]
    have u3 : sIf (mNotT (mTru (mVar 3))) sBrk sNil (EE (askD as cs) S.length (some (.lst (kpD as left e :: rest.map (kpD as left)))) y4 y5) (S ++ [.lst (left.map Jt.iD), .lst (P.map pD)]) = .ok .next (EE (askD as cs) S.length (some (.lst (kpD as left e :: rest.map (kpD as left)))) y4 y5) (S ++ [.lst (left.map Jt.iD), .lst (P.map pD)]) := rfl
    have kp : kpD as left e = pD (e, p) := by unfold kpD; rw [hp]; rfl
    have i1 : ∀ S1, ixD (.lst (kpD as left e :: rest.map (kpD as left))) (.int 0) S1 = some (pD (e, p)) := fun S1 => by
      rw [kp]
      exact atI_zero _ _
    have i2 : ∀ S1, ixD (pD (e, p)) (.int 0) S1 = some (Jt.iD e) := fun S1 => rfl
    have u4 : sDrop (mAppend (mVar 2) (mBin ixD (mVar 3) (mC (.int 0)))) (EE (askD as cs) S.length (some (.lst (kpD as left e :: rest.map (kpD as left)))) y4 y5) (S ++ [.lst (left.map Jt.iD), .lst (P.map pD)]) = .ok .next (EE (askD as cs) S.length (some (.lst (kpD as left e :: rest.map (kpD as left)))) y4 y5) (S ++ [.lst (left.map Jt.iD), .lst ((P ++ [(e, p)]).map pD)]) := by
      have hl : (P.map pD).length < 100000 := by rw [List.length_map]; omega
      have sb := two_sb (S0 := S) (.lst (left.map Jt.iD)) (.lst (P.map pD)) (.lst ((P ++ [(e, p)]).map pD))
      have mp : (P ++ [(e, p)]).map pD = P.map pD ++ [pD (e, p)] := by rw [List.map_append]; rfl
      rw [mp] at sb ⊢
      have i1 := i1 (S ++ [.lst (left.map Jt.iD), .lst (P.map pD)])
      generalize left.map Jt.iD = W at hS2 sb i1 ⊢
      generalize P.map pD = W2 at hS2 sb hl i1 ⊢
      generalize D.lst (kpD as left e :: rest.map (kpD as left)) = W3 at i1 ⊢
      simp only [sDrop_ap, mAppend_ap, mVar_ap, mBin_ap, mC_ap, List.getElem?_cons_zero, List.getElem?_cons_succ, rb_ok, isLoc_ap, hS2, if_true, i1, ofO_some, appD_ap, if_pos hl, bs_ok, sb]
    have u5 : sDrop (mRemove (mVar 1) (mBin ixD (mBin ixD (mVar 3) (mC (.int 0))) (mC (.int 0)))) (EE (askD as cs) S.length (some (.lst (kpD as left e :: rest.map (kpD as left)))) y4 y5) (S ++ [.lst (left.map Jt.iD), .lst ((P ++ [(e, p)]).map pD)]) = .ok .next (EE (askD as cs) S.length (some (.lst (kpD as left e :: rest.map (kpD as left)))) y4 y5) (S ++ [.lst ((left.erase e).map Jt.iD), .lst ((P ++ [(e, p)]).map pD)]) := by
      have hS3 := two_a (S0 := S) (.lst (left.map Jt.iD)) (.lst ((P ++ [(e, p)]).map pD))
      have sa := two_sa (S0 := S) (.lst (left.map Jt.iD)) (.lst ((P ++ [(e, p)]).map pD)) (.lst ((left.erase e).map Jt.iD))
      have rm := rem_ok he1 hS3
      rw [sa] at rm
      have il : isLoc (.loc S.length) (S ++ [.lst (left.map Jt.iD), .lst ((P ++ [(e, p)]).map pD)]) = true := by rw [isLoc_ap, hS3]
      have i1 := i1 (S ++ [.lst (left.map Jt.iD), .lst ((P ++ [(e, p)]).map pD)])
      have i2 := i2 (S ++ [.lst (left.map Jt.iD), .lst ((P ++ [(e, p)]).map pD)])
      show bindS ((mRemove (mVar 1) (mBin ixD (mBin ixD (mVar 3) (mC (.int 0))) (mC (.int 0)))) _ _) _ _ = _
      have mr : (mRemove (mVar 1) (mBin ixD (mBin ixD (mVar 3) (mC (.int 0))) (mC (.int 0)))) (EE (askD as cs) S.length (some (.lst (kpD as left e :: rest.map (kpD as left)))) y4 y5) (S ++ [.lst (left.map Jt.iD), .lst ((P ++ [(e, p)]).map pD)]) = .ok .non (S ++ [.lst ((left.erase e).map Jt.iD), .lst ((P ++ [(e, p)]).map pD)]) := by
        show (if isLoc (.loc S.length) (S ++ [.lst (left.map Jt.iD), .lst ((P ++ [(e, p)]).map pD)]) = true then ((ofO (ixD (.lst (kpD as left e :: rest.map (kpD as left))) (.int 0) (S ++ [.lst (left.map Jt.iD), .lst ((P ++ [(e, p)]).map pD)])) (S ++ [.lst (left.map Jt.iD), .lst ((P ++ [(e, p)]).map pD)])).bind fun d S1 => ofO (ixD d (.int 0) S1) S1).bind (fun d S2 => remD (.loc S.length) d S2) else .bad) = _
        rw [if_pos il, i1]
        show (ofO (ixD (pD (e, p)) (.int 0) (S ++ [.lst (left.map Jt.iD), .lst ((P ++ [(e, p)]).map pD)])) (S ++ [.lst (left.map Jt.iD), .lst ((P ++ [(e, p)]).map pD)])).bind _ = _
        rw [i2]
        exact rm
      rw [mr]
      rfl
    rw [seq_ok u3, seq_ok u4]
    exact u5
theorem ears_loop2 (q : Mq most many tb as cs) : ∀ (fu k : Nat) (left : List Nat) (P : List (Nat × Nat)) (y3 y4 y5 : Option D), left.length < fu → left.length ≤ k → (∀ j ∈ left, j < as.length) → P.length + left.length < 80000 →
    ∃ (z3 : Option D), sWhile mEarC mEarB fu (EE (askD as cs) S.length y3 y4 y5) (S ++ [.lst (left.map Jt.iD), .lst (P.map pD)]) = .ok .next (EE (askD as cs) S.length z3 y4 y5) (S ++ [.lst ((earR as k left P).2.map Jt.iD), .lst ((earR as k left P).1.map pD)])
  | 0, _, _, _, _, _, _, h, _, _, _ => absurd h (Nat.not_lt_zero _)
  | fu + 1, k, left, P, y3, y4, y5, hf, hk, hl, hb => by
    have hS := two_a (S0 := S) (.lst (left.map Jt.iD)) (.lst (P.map pD))
    have ec : mEarC (EE (askD as cs) S.length y3 y4 y5) (S ++ [.lst (left.map Jt.iD), .lst (P.map pD)]) = .ok (decide (1 < left.length)) (S ++ [.lst (left.map Jt.iD), .lst (P.map pD)]) := by
      have ln : lenD [.loc S.length] (S ++ [.lst (left.map Jt.iD), .lst (P.map pD)]) = some (.int (left.length : Nat)) := by
        show (match (S ++ [O.lst (left.map Jt.iD), O.lst (P.map pD)])[S.length]? with
          | _ => _) = _
        simp
      have hd : decide ((1 : Int) < (left.length : Int)) = decide (1 < left.length) := decide_eq_decide.mpr (by omega)
      unfold mEarC
      generalize S ++ [.lst (left.map Jt.iD), .lst (P.map pD)] = S1 at ln ⊢
      simp [ln, hd]
    by_cases h1 : 1 < left.length
    · rw [decide_eq_true h1] at ec
      cases k with
      | zero => omega
      | succ k =>
        rcases earB_ok2 (S := S) (P := P) (y3 := y3) (y4 := y4) (y5 := y5) q hl (by omega) with ⟨h0, z3, e⟩ | ⟨e, rest, hfi, z3, eb⟩
        · refine ⟨z3, ?_⟩
          have er : earR as (k + 1) left P = (P, left) := by
            unfold earR
            rw [if_pos h1, h0]
          rw [er]
          unfold sWhile
          simp only [ec, bs_ok, if_true, e]
        · have he : e ∈ left := (List.mem_filter.mp (show e ∈ left.filter (hasK as left) by rw [hfi]; exact List.mem_cons_self)).1
          have hlen : (left.erase e).length = left.length - 1 := List.length_erase_of_mem he
          obtain ⟨z3', e2⟩ := ears_loop2 q fu k (left.erase e) (P ++ [(e, (keeper as left e).getD 0)]) z3 y4 y5 (by omega) (by omega) (fun j hj => hl j (List.mem_of_mem_erase hj)) (by rw [List.length_append, List.length_singleton]; omega)
          refine ⟨z3', ?_⟩
          have er : earR as (k + 1) left P = earR as k (left.erase e) (P ++ [(e, (keeper as left e).getD 0)]) := by
            show (if 1 < left.length then match left.filter (hasK as left) with
              | [] => (P, left)
              | e :: _ => earR as k (left.erase e) (P ++ [(e, (keeper as left e).getD 0)])
              else (P, left)) = _
            rw [if_pos h1, hfi]
          rw [er]
          unfold sWhile
          simp only [ec, bs_ok, if_true, eb]
          exact e2
    · rw [decide_eq_false h1] at ec
      refine ⟨y3, ?_⟩
      have er : earR as k left P = (P, left) := by
        cases k with
        | zero => rfl
        | succ k =>
          unfold earR
          rw [if_neg h1]
      rw [er]
      unfold sWhile
      simp only [ec, bs_ok]
      rfl
theorem ears_ok2 (q : Mq most many tb as cs) {fu : Nat} (hn : as.length ≤ 900) (hfu : as.length < fu) : FEars fu [askD as cs] S = .ok (.tup [.lst ((earR as as.length (List.range as.length) []).1.map pD), .lst ((earR as as.length (List.range as.length) []).2.map Jt.iD)]) S := by
  obtain ⟨z3, e⟩ := ears_loop2 (S := S) q fu as.length (List.range as.length) [] none none none (by rw [List.length_range]; exact hfu) (by rw [List.length_range]; exact Nat.le_refl _) (fun j hj => List.mem_range.mp hj) (by rw [List.length_range, List.length_nil]; omega)
  obtain ⟨PL, hPL⟩ : ∃ PL, PL = earR as as.length (List.range as.length) [] := ⟨_, rfl⟩
  rw [← hPL] at e ⊢
  obtain ⟨P, left⟩ := PL
  show FEars fu [askD as cs] S = .ok (.tup [.lst (P.map pD), .lst (left.map Jt.iD)]) S
  show finT S (mEars fu [some (askD as cs), none, none, none, none, none] S) = _
  have e1 := ask_ix (S := S) as cs
  have er : listRngN [.int (as.length : Nat)] S = some ((List.range as.length).map Jt.iD) := by
    show rng1 _ = _
    have : (rng 0 as.length) = (List.range as.length).map Jt.iD := by
      refine List.ext_getElem? fun i => ?_
      rw [List.getElem?_map]
      by_cases h : i < as.length
      · rw [List.getElem?_range h]
        obtain ⟨x, hx⟩ : ∃ x, (rng 0 as.length)[i]? = some x := ⟨_, List.getElem?_eq_getElem (by rw [rng_len]; exact h)⟩
        rw [hx, (rng0_get hx).2]
        rfl
      · rw [List.getElem?_eq_none (by rw [rng_len]; omega), List.getElem?_eq_none (by rw [List.length_range]; omega)]
        rfl
    rw [← this]
    have h1 : (as.length : Int) ≤ 100000 := by omega
    simp [h1]
  have eb : ∃ rho, mEars fu [some (askD as cs), none, none, none, none, none] S = .ok (.ret (.tup [.loc (S.length + 1), .loc S.length])) rho (S ++ [.lst (left.map Jt.iD), .lst (P.map pD)]) := by
    have ln : lenD [.tup (as.map atD)] S = some (.int (as.length : Nat)) := by
      show some (D.int ((as.map atD).length : Nat)) = _
      rw [List.length_map]
    refine ⟨EE (askD as cs) S.length z3 none none, ?_⟩
    have e : sWhile mEarC mEarB fu (EE (askD as cs) S.length none none none) (S ++ [.lst ((List.range as.length).map Jt.iD), .lst []]) = _ := e
    unfold mEars
    generalize as.map atD = W at e1 ln
    generalize (List.range as.length).map Jt.iD = W2 at er e
    generalize left.map Jt.iD = W3 at e ⊢
    generalize P.map pD = W4 at e ⊢
    simp [e1, ln, er, e]
  obtain ⟨rho, eb⟩ := eb
  rw [eb]
  refine (finT_retE (Tr.app S _) (d' := .tup [.lst (P.map pD), .lst (left.map Jt.iD)]) ?_).trans (by rw [take_app])
  have h1 : fzD S.length (S ++ [.lst (left.map Jt.iD), .lst (P.map pD)]) (.tup [.loc (S.length + 1), .loc S.length]) = none := by
    refine if_neg ?_
    show ¬ (decide (S.length + 1 < S.length) && (decide (S.length < S.length) && true)) = true
    simp
  have c1 : ∀ (f : Nat) (E : Store) (q : Nat × Nat), fzN (f + 2) S.length E (pD q) = some (pD q) := fun f E q => rfl
  have c2 : ∀ (f : Nat) (E : Store) (j : Nat), fzN (f + 1) S.length E (Jt.iD j) = some (Jt.iD j) := fun f E j => rfl
  have p1 : fzN 8 S.length (S ++ [.lst (left.map Jt.iD), .lst (P.map pD)]) (.loc (S.length + 1)) = some (.lst (P.map pD)) := by
    show (if S.length + 1 < S.length then some (D.loc (S.length + 1)) else match (S ++ [O.lst (left.map Jt.iD), O.lst (P.map pD)])[S.length + 1]? with
      | some (O.lst ds) => (fzL (fzN 7 S.length (S ++ [.lst (left.map Jt.iD), .lst (P.map pD)])) ds).map D.lst
      | some (O.dct kvs) => (fzL (fzN 7 S.length (S ++ [.lst (left.map Jt.iD), .lst (P.map pD)])) (kvs.map (·.2))).map fun vs => D.dct ((kvs.map (·.1)).zip vs)
      | some (O.dtt kvs) => (fzL (fzN 7 S.length (S ++ [.lst (left.map Jt.iD), .lst (P.map pD)])) (kvs.map (·.2))).map fun vs => D.dtt ((kvs.map (·.1)).zip vs)
      | _ => none) = _
    rw [if_neg (by omega), two_b]
    show (fzL (fzN 7 S.length (S ++ [.lst (left.map Jt.iD), .lst (P.map pD)])) (P.map pD)).map D.lst = _
    rw [fzL_all fun d hd => by
      obtain ⟨j, _, rfl⟩ := List.mem_map.mp hd
      exact c1 5 _ j]
    rfl
  have p2 : fzN 8 S.length (S ++ [.lst (left.map Jt.iD), .lst (P.map pD)]) (.loc S.length) = some (.lst (left.map Jt.iD)) := by
    show (if S.length < S.length then some (D.loc S.length) else match (S ++ [O.lst (left.map Jt.iD), O.lst (P.map pD)])[S.length]? with
      | some (O.lst ds) => (fzL (fzN 7 S.length (S ++ [.lst (left.map Jt.iD), .lst (P.map pD)])) ds).map D.lst
      | some (O.dct kvs) => (fzL (fzN 7 S.length (S ++ [.lst (left.map Jt.iD), .lst (P.map pD)])) (kvs.map (·.2))).map fun vs => D.dct ((kvs.map (·.1)).zip vs)
      | some (O.dtt kvs) => (fzL (fzN 7 S.length (S ++ [.lst (left.map Jt.iD), .lst (P.map pD)])) (kvs.map (·.2))).map fun vs => D.dtt ((kvs.map (·.1)).zip vs)
      | _ => none) = _
    rw [if_neg (by omega), two_a]
    show (fzL (fzN 7 S.length (S ++ [.lst (left.map Jt.iD), .lst (P.map pD)])) (left.map Jt.iD)).map D.lst = _
    rw [fzL_all fun d hd => by
      obtain ⟨j, _, rfl⟩ := List.mem_map.mp hd
      exact c2 6 _ j]
    rfl
  unfold fzE
  rw [h1]
  show (fzL (fzN 8 S.length (S ++ [.lst (left.map Jt.iD), .lst (P.map pD)])) [.loc (S.length + 1), .loc S.length]).map D.tup = _
  unfold fzL
  rw [p1]
  unfold fzL
  rw [p2]
  rfl
def mCore (fu : Nat) : SM :=
    (sSeq (sAsg (mApp 1 (FEars fu) (mCons (mVar 0) mNil)) (tgT 2 (tgsCons (tgN 1) (tgsCons (tgN 2) tgsNil))))
    (sRet (mIf (mT (mBin eqD (mCall lenD (mCons (mVar 2) mNil)) (mC (.int 1)))) (mTup mNil) (mCall tupD (mCons (mVar 2) mNil)))))
def FCore (fu : Nat) : List D → Store → R D := runT 3 (mCore fu)
def cutC (l : List Nat) : List Nat := if l.length = 1 then [] else l
def coreV (as : List At) : List Nat := cutC (earR as as.length (List.range as.length) []).2
theorem fin_core {i : Nat} {r : Dv.Env} {l : List Nat} (h : r[i]? = some (some (.lst (l.map Jt.iD)))) : sRet (mIf (mT (mBin eqD (mCall lenD (mCons (mVar i) mNil)) (mC (.int 1)))) (mTup mNil) (mCall tupD (mCons (mVar i) mNil))) r S = .ok (.ret (.tup ((cutC l).map Jt.iD))) r S := by
  have t : mT (mBin eqD (mCall lenD (mCons (mVar i) mNil)) (mC (.int 1))) r S = .ok (decide (l.length = 1)) S := by
    refine t_of (bin_of (x := .int ((l.map Jt.iD).length : Nat)) (call_of (cons_of (var_of h) nil_of) rfl) rfl ?_)
    show some (D.bl (decide (((l.map Jt.iD).length : Int) = 1))) = _
    rw [List.length_map]
    congr 2
    exact decide_eq_decide.mpr (by omega)
  refine ret_of ?_
  show (mT (mBin eqD (mCall lenD (mCons (mVar i) mNil)) (mC (.int 1))) r S).bind _ = _
  rw [t, rb_ok]
  unfold cutC
  by_cases c : l.length = 1
  · rw [if_pos c, if_pos (decide_eq_true c)]
    rfl
  · rw [if_neg c, if_neg (by simpa using c)]
    exact call_of (cons_of (var_of h) nil_of) rfl
theorem core_ok (q : Mq most many tb as cs) {fu : Nat} (hn : as.length ≤ 900) (hfu : as.length < fu) : FCore fu [askD as cs] S = .ok (.tup ((coreV as).map Jt.iD)) S := by
  refine fn_ret (cloL_iD _ _) ⟨[some (askD as cs), some (.lst ((earR as as.length (List.range as.length) []).1.map pD)), some (.lst ((earR as as.length (List.range as.length) []).2.map Jt.iD))], ?_⟩
  show mCore fu [some (askD as cs), none, none] S = _
  have e := ears_ok2 (S := S) q hn hfu
  have s1 : (sAsg (mApp 1 (FEars fu) (mCons (mVar 0) mNil)) (tgT 2 (tgsCons (tgN 1) (tgsCons (tgN 2) tgsNil)))) [some (askD as cs), none, none] S = .ok .next [some (askD as cs), some (.lst ((earR as as.length (List.range as.length) []).1.map pD)), some (.lst ((earR as as.length (List.range as.length) []).2.map Jt.iD))] S := asg_of (run_app (cons_of (var_of rfl) nil_of) rfl e) rfl
  unfold mCore
  rw [seq_next s1]
  exact fin_core rfl
theorem pl_strs {xs : List Str} (h : ∀ x ∈ xs, x ∈ abcd) : pl 1 (.lst (xs.map D.str)) = true := by
  show (xs.map D.str).all (pl 0) = true
  rw [List.all_map, List.all_eq_true]
  exact fun x hx => abcd_pl (h x hx)
theorem pl_iDs (l : List Nat) : pl 1 (.lst (l.map Jt.iD)) = true := by
  show (l.map Jt.iD).all (pl 0) = true
  rw [List.all_map, List.all_eq_true]
  exact fun _ _ => rfl
end
end Tr
namespace Re
section
variable {α : Type} [DecidableEq α]
def E (a : List α) (m : List (List α)) : Prop := ∃ b, b ∈ m ∧ ∀ y, y ∈ a → (∃ c, c ∈ m ∧ y ∈ c) → y ∈ b
inductive Red : List (List α) → Prop
  | one {l : List (List α)} {a : List α} : l.Perm [a] → Red l
  | ear {l m : List (List α)} {a : List α} : l.Perm (a :: m) → E a m → Red m → Red l
theorem Red.perm {l l' : List (List α)} (h : Red l) (p : l'.Perm l) : Red l' := by
  cases h with
  | one q => exact .one (p.trans q)
  | ear q e r => exact .ear (p.trans q) e r
theorem E.perm {a : List α} {m m' : List (List α)} (h : E a m) (p : m.Perm m') : E a m' := by
  obtain ⟨b, hb, k⟩ := h
  exact ⟨b, p.mem_iff.mp hb, fun y hy ⟨c, hc, hyc⟩ => k y hy ⟨c, p.mem_iff.mpr hc, hyc⟩⟩
theorem two {a f : List α} {m m' : List (List α)} (p : (a :: m).Perm (f :: m')) : (a = f ∧ m.Perm m') ∨ ∃ R, m.Perm (f :: R) ∧ m'.Perm (a :: R) := by
  by_cases c : a = f
  · subst c
    exact .inl ⟨rfl, p.cons_inv⟩
  · have hf : f ∈ m := by
      rcases List.mem_cons.mp (p.mem_iff.mpr List.mem_cons_self) with h | h
      · exact absurd h.symm c
      · exact h
    have p1 : m.Perm (f :: m.erase f) := List.perm_cons_erase hf
    refine .inr ⟨m.erase f, p1, ?_⟩
    have p2 : (f :: m').Perm (f :: a :: m.erase f) := p.symm.trans ((p1.cons a).trans (List.Perm.swap f a _))
    exact p2.cons_inv
theorem swap {l : List (List α)} (h : Red l) : ∀ {a b : List α} {R : List (List α)}, l.Perm (a :: R) → (∀ y, (∃ c, c ∈ R ∧ y ∈ c) → (y ∈ a ↔ y ∈ b)) → Red (b :: R) := by
  induction h with
  | @one l x q =>
    intro a b R p k
    have := (q.symm.trans p).length_eq
    cases R with
    | nil => exact .one (List.Perm.refl _)
    | cons c R => simp at this
  | @ear l m f q e r ih =>
    intro a b R p k
    rcases two (p.symm.trans q) with ⟨rfl, pm⟩ | ⟨Q, p1, p2⟩
    · obtain ⟨g, hg, kg⟩ := e
      exact .ear (List.Perm.refl _) ⟨g, pm.mem_iff.mpr hg, fun y hy ⟨c, hc, hyc⟩ => kg y ((k y ⟨c, hc, hyc⟩).mpr hy) ⟨c, pm.mem_iff.mp hc, hyc⟩⟩ (r.perm pm)
    · have kQ : ∀ y, (∃ c, c ∈ Q ∧ y ∈ c) → (y ∈ a ↔ y ∈ b) := fun y ⟨c, hc, hyc⟩ => k y ⟨c, p1.mem_iff.mpr (List.mem_cons_of_mem _ hc), hyc⟩
      have hfR : f ∈ R := p1.mem_iff.mpr List.mem_cons_self
      have ham : a ∈ m := p2.mem_iff.mpr List.mem_cons_self
      refine .ear (a := f) (m := b :: Q) ((p1.cons b).trans (List.Perm.swap f b Q)) ?_ (ih p2 kQ)
      obtain ⟨g, hg, kg⟩ := e
      rcases List.mem_cons.mp (p2.mem_iff.mp hg) with rfl | hgQ
      · refine ⟨b, List.mem_cons_self, fun y hy ⟨c, hc, hyc⟩ => ?_⟩
        rcases List.mem_cons.mp hc with rfl | hc
        · exact hyc
        · exact (k y ⟨f, hfR, hy⟩).mp (kg y hy ⟨c, p2.mem_iff.mpr (List.mem_cons_of_mem _ hc), hyc⟩)
      · refine ⟨g, List.mem_cons_of_mem _ hgQ, fun y hy ⟨c, hc, hyc⟩ => ?_⟩
        rcases List.mem_cons.mp hc with rfl | hc
        · exact kg y hy ⟨a, ham, (k y ⟨f, hfR, hy⟩).mpr hyc⟩
        · exact kg y hy ⟨c, p2.mem_iff.mpr (List.mem_cons_of_mem _ hc), hyc⟩
theorem conf {l : List (List α)} (h : Red l) : ∀ {a : List α} {m : List (List α)}, l.Perm (a :: m) → E a m → Red m := by
  induction h with
  | @one l x q =>
    intro a m p e
    have := (q.symm.trans p).length_eq
    obtain ⟨b, hb, _⟩ := e
    cases m with
    | nil => cases hb
    | cons c m => simp at this
  | @ear l m' f q e r ih =>
    intro a m p ea
    rcases two (p.symm.trans q) with ⟨rfl, pm⟩ | ⟨R, p1, p2⟩
    · exact r.perm pm
    · have hfm : f ∈ m := p1.mem_iff.mpr List.mem_cons_self
      have ham : a ∈ m' := p2.mem_iff.mpr List.mem_cons_self
      have inm : ∀ {c}, c ∈ R → c ∈ m := fun h => p1.mem_iff.mpr (List.mem_cons_of_mem _ h)
      have inm' : ∀ {c}, c ∈ R → c ∈ m' := fun h => p2.mem_iff.mpr (List.mem_cons_of_mem _ h)
      obtain ⟨b, hb, kb⟩ := ea
      obtain ⟨g, hg, kg⟩ := e
      refine Red.perm (l := f :: R) ?_ p1
      have cases_g := List.mem_cons.mp (p2.mem_iff.mp hg)
      rcases List.mem_cons.mp (p1.mem_iff.mp hb) with hbf | hbR
      · rcases cases_g with hga | hgR
        · refine swap r p2 fun y hy => ⟨fun ha => ?_, fun hf => ?_⟩
          · obtain ⟨c, hc, hyc⟩ := hy
            rw [← hbf]
            exact kb y ha ⟨c, inm hc, hyc⟩
          · obtain ⟨c, hc, hyc⟩ := hy
            rw [← hga]
            exact kg y hf ⟨c, inm' hc, hyc⟩
        · have eR : E a R := ⟨g, hgR, fun y hy ⟨c, hc, hyc⟩ => by
            have : y ∈ f := by
              rw [← hbf]
              exact kb y hy ⟨c, inm hc, hyc⟩
            exact kg y this ⟨a, ham, hy⟩⟩
          exact .ear (List.Perm.refl _) ⟨g, hgR, fun y hy ⟨c, hc, hyc⟩ => kg y hy ⟨c, inm' hc, hyc⟩⟩ (ih p2 eR)
      · have eR : E a R := ⟨b, hbR, fun y hy ⟨c, hc, hyc⟩ => kb y hy ⟨c, inm hc, hyc⟩⟩
        refine .ear (List.Perm.refl _) ?_ (ih p2 eR)
        rcases cases_g with hga | hgR
        · exact ⟨b, hbR, fun y hy ⟨c, hc, hyc⟩ => by
            have ya : y ∈ a := by
              rw [← hga]
              exact kg y hy ⟨c, inm' hc, hyc⟩
            exact kb y ya ⟨f, hfm, hy⟩⟩
        · exact ⟨g, hgR, fun y hy ⟨c, hc, hyc⟩ => kg y hy ⟨c, inm' hc, hyc⟩⟩
theorem red_ear {l m : List (List α)} {a : List α} (p : l.Perm (a :: m)) (e : E a m) : Red l ↔ Red m := ⟨fun h => conf h p e, fun h => .ear p e h⟩
theorem not_red {l : List (List α)} (h2 : 1 < l.length) (h : ∀ a m, l.Perm (a :: m) → ¬ E a m) : ¬ Red l := fun r => by
  cases r with
  | one q =>
    have := q.length_eq
    simp at this
    omega
  | ear q e _ => exact h _ _ q e
theorem red_full {W : List α} : ∀ {m : List (List α)}, (∀ c ∈ m, ∀ y ∈ c, y ∈ W) → Red (m ++ [W])
  | [], _ => .one (List.Perm.refl _)
  | c :: m, h => .ear (List.Perm.refl _) ⟨W, by simp, fun y hy _ => h c List.mem_cons_self y hy⟩ (red_full fun d hd => h d (List.mem_cons_of_mem _ hd))
theorem red_dup {l : List (List α)} {z : List α} (hz : z ∈ l) : Red (l ++ [z]) ↔ Red l := red_ear (a := z) (m := l) (List.perm_append_comm (l₁ := l) (l₂ := [z])) ⟨z, hz, fun y hy _ => hy⟩
end
end Re
namespace Re
open PySem L2 Dv Mw Jt Tr
section
variable {as : List At} {L : List Nat} {N : Nat → List Str}
def sets (as : List At) : List (List Str) := as.map fun a => nmsT a.ts []
theorem sets_ix : (List.range as.length).map (Na as) = sets as := by
  unfold sets
  refine List.ext_getElem? fun i => ?_
  rw [List.getElem?_map, List.getElem?_map]
  by_cases h : i < as.length
  · rw [List.getElem?_range h, List.getElem?_eq_getElem h]
    show some (Na as i) = some _
    rw [na_eq (List.getElem?_eq_getElem h)]
  · rw [List.getElem?_eq_none (by rw [List.length_range]; omega), List.getElem?_eq_none (by omega)]
    rfl
theorem perm_out {e : Nat} (he : e ∈ L) : (L.map N).Perm (N e :: (L.erase e).map N) := (List.perm_cons_erase he).map N
theorem hasK_iff (nd : L.Nodup) {e : Nat} (he : e ∈ L) : hasK as L e = true ↔ E (Na as e) ((L.erase e).map (Na as)) := by
  have ho : othL L e = L.erase e := by
    unfold othL
    rw [nd.erase_eq_filter]
    refine List.filter_congr fun j _ => ?_
    by_cases c : j = e
    · subst c; simp
    · simp [c]
  have hc : ∀ y, y ∈ comL as L e ↔ y ∈ Na as e ∧ ∃ c, c ∈ (L.erase e).map (Na as) ∧ y ∈ c := fun y => by
    unfold comL
    rw [List.mem_filter, List.any_eq_true, ho]
    constructor
    · rintro ⟨h1, j, hj, h2⟩
      exact ⟨h1, _, List.mem_map_of_mem hj, of_decide_eq_true h2⟩
    · rintro ⟨h1, c, hc, h2⟩
      obtain ⟨j, hj, rfl⟩ := List.mem_map.mp hc
      exact ⟨h1, j, hj, decide_eq_true h2⟩
  unfold hasK keeper
  rw [List.find?_isSome, ho]
  constructor
  · rintro ⟨j, hj, hk⟩
    refine ⟨Na as j, List.mem_map_of_mem hj, fun y hy hc2 => ?_⟩
    unfold kpB at hk
    exact of_decide_eq_true (List.all_eq_true.mp hk y ((hc y).mpr ⟨hy, hc2⟩))
  · rintro ⟨b, hb, k⟩
    obtain ⟨j, hj, rfl⟩ := List.mem_map.mp hb
    refine ⟨j, hj, ?_⟩
    unfold kpB
    rw [List.all_eq_true]
    intro y hy
    obtain ⟨h1, h2⟩ := (hc y).mp hy
    exact decide_eq_true (k y h1 h2)
theorem earR_stop {k : Nat} {P : List (Nat × Nat)} (h : ¬ 1 < L.length) : earR as k L P = (P, L) := by
  cases k with
  | zero => rfl
  | succ k =>
    unfold earR
    rw [if_neg h]
theorem earR_nil {k : Nat} {P : List (Nat × Nat)} (h : L.filter (hasK as L) = []) : earR as k L P = (P, L) := by
  cases k with
  | zero => rfl
  | succ k =>
    unfold earR
    split
    · rw [h]
    · rfl
theorem earR_cons {k : Nat} {P : List (Nat × Nat)} {e : Nat} {rest : List Nat} (h1 : 1 < L.length) (h : L.filter (hasK as L) = e :: rest) : earR as (k + 1) L P = earR as k (L.erase e) (P ++ [(e, (keeper as L e).getD 0)]) := by
  show (if 1 < L.length then match L.filter (hasK as L) with
    | [] => (P, L)
    | e :: _ => earR as k (L.erase e) (P ++ [(e, (keeper as L e).getD 0)])
    else (P, L)) = _
  rw [if_pos h1, h]
theorem earR_red : ∀ (k : Nat) (L : List Nat) (P : List (Nat × Nat)), L.Nodup → L ≠ [] → L.length ≤ k + 1 → ((earR as k L P).2.length = 1 ↔ Red (L.map (Na as)))
  | k, L, P, nd, ne, hk => by
    have hl : 0 < L.length := List.length_pos_iff.mpr ne
    by_cases h1 : 1 < L.length
    · cases k with
      | zero => omega
      | succ k =>
        cases hf : L.filter (hasK as L) with
        | nil =>
          rw [earR_nil hf]
          refine ⟨fun h => ?_, fun r => absurd r (not_red (by rw [List.length_map]; exact h1) fun a m p ea => ?_)⟩
          · have h : L.length = 1 := h
            omega
          · obtain ⟨e, he, rfl⟩ := List.mem_map.mp (p.mem_iff.mpr (List.mem_cons_self (a := a) (l := m)))
            have pm : m.Perm ((L.erase e).map (Na as)) := (p.symm.trans (perm_out he)).cons_inv
            have := List.filter_eq_nil_iff.mp hf e he
            exact this ((hasK_iff nd he).mpr (ea.perm pm))
        | cons e rest =>
          have hm := List.mem_filter.mp (show e ∈ L.filter (hasK as L) by rw [hf]; exact List.mem_cons_self)
          have hle : (L.erase e).length = L.length - 1 := List.length_erase_of_mem hm.1
          rw [earR_cons h1 hf, earR_red k (L.erase e) _ (nd.erase e) (fun q => by rw [q] at hle; simp at hle; omega) (by omega)]
          exact (red_ear (perm_out hm.1) ((hasK_iff nd hm.1).mp hm.2)).symm
    · rw [earR_stop h1]
      obtain ⟨x, rfl⟩ := List.length_eq_one_iff.mp (show L.length = 1 by omega)
      exact ⟨fun _ => .one (List.Perm.refl _), fun _ => rfl⟩
theorem earR_stuck : ∀ (k : Nat) (L : List Nat) (P : List (Nat × Nat)), L.length ≤ k + 1 → 1 < (earR as k L P).2.length → (earR as k L P).2.filter (hasK as (earR as k L P).2) = []
  | k, L, P, hk, h => by
    by_cases h1 : 1 < L.length
    · cases k with
      | zero => omega
      | succ k =>
        cases hf : L.filter (hasK as L) with
        | nil => rw [earR_nil hf]; exact hf
        | cons e rest =>
          have hm := List.mem_filter.mp (show e ∈ L.filter (hasK as L) by rw [hf]; exact List.mem_cons_self)
          have hle : (L.erase e).length = L.length - 1 := List.length_erase_of_mem hm.1
          rw [earR_cons h1 hf] at h ⊢
          exact earR_stuck k (L.erase e) _ (by omega) h
    · rw [earR_stop h1] at h
      exact absurd h h1
theorem earR_sub : ∀ (k : Nat) (L : List Nat) (P : List (Nat × Nat)), ((earR as k L P).2).Sublist L ∧ (L ≠ [] → (earR as k L P).2 ≠ [])
  | k, L, P => by
    by_cases h1 : 1 < L.length
    · cases k with
      | zero => exact ⟨List.Sublist.refl _, id⟩
      | succ k =>
        cases hf : L.filter (hasK as L) with
        | nil => rw [earR_nil hf]; exact ⟨List.Sublist.refl _, id⟩
        | cons e rest =>
          have hm := List.mem_filter.mp (show e ∈ L.filter (hasK as L) by rw [hf]; exact List.mem_cons_self)
          have hle : (L.erase e).length = L.length - 1 := List.length_erase_of_mem hm.1
          rw [earR_cons h1 hf]
          obtain ⟨a, b⟩ := earR_sub k (L.erase e) (P ++ [(e, (keeper as L e).getD 0)])
          exact ⟨a.trans List.erase_sublist, fun _ => b fun q => by rw [q] at hle; simp at hle; omega⟩
    · rw [earR_stop h1]
      exact ⟨List.Sublist.refl _, id⟩
theorem earR_ears : ∀ (k : Nat) (L L0 : List Nat) (P : List (Nat × Nat)), Ears (Na as) L0 P L → Ears (Na as) L0 (earR as k L P).1 (earR as k L P).2
  | k, L, L0, P, h => by
    by_cases h1 : 1 < L.length
    · cases k with
      | zero => exact h
      | succ k =>
        cases hf : L.filter (hasK as L) with
        | nil => rw [earR_nil hf]; exact h
        | cons e rest =>
          have hm := List.mem_filter.mp (show e ∈ L.filter (hasK as L) by rw [hf]; exact List.mem_cons_self)
          obtain ⟨p, hp⟩ := Option.isSome_iff_exists.mp hm.2
          obtain ⟨k1, k2, k3⟩ := keeper_some hp
          rw [earR_cons h1 hf, show (keeper as L e).getD 0 = p by rw [hp]; rfl]
          exact earR_ears k (L.erase e) L0 _ (h.snoc hm.1 k1 k2 k3)
    · rw [earR_stop h1]
      exact h
abbrev RedA (as : List At) : Prop := Red (sets as)
def earA (as : List At) : List (Nat × Nat) × List Nat := earR as as.length (List.range as.length) []
theorem earA_red (h : 0 < as.length) : (earA as).2.length = 1 ↔ RedA as := by
  unfold RedA
  rw [← sets_ix]
  exact earR_red as.length (List.range as.length) [] List.nodup_range (fun q => by
    have := congrArg List.length q
    rw [List.length_range] at this
    simp at this
    rw [this] at h
    exact Nat.lt_irrefl 0 h) (by rw [List.length_range]; omega)
theorem earA_ears : Ears (Na as) (List.range as.length) (earA as).1 (earA as).2 := earR_ears _ _ _ _ (.nil _)
theorem redA_perm {bs : List At} (p : as.Perm bs) : RedA as ↔ RedA bs := ⟨fun h => h.perm ((p.map _).symm), fun h => h.perm (p.map _)⟩
theorem redA_dup {z : At} (hz : z ∈ as) : RedA (as ++ [z]) ↔ RedA as := by
  unfold RedA
  have : sets (as ++ [z]) = sets as ++ [nmsT z.ts []] := by
    unfold sets
    rw [List.map_append]
    rfl
  rw [this]
  exact red_dup (List.mem_map_of_mem hz)
theorem redA_full {z : At} (hz : ∀ a ∈ as, ∀ y ∈ nmsT a.ts [], y ∈ nmsT z.ts []) : RedA (as ++ [z]) := by
  unfold RedA
  have : sets (as ++ [z]) = sets as ++ [nmsT z.ts []] := by
    unfold sets
    rw [List.map_append]
    rfl
  rw [this]
  refine red_full fun c hc => ?_
  obtain ⟨a, ha, rfl⟩ := List.mem_map.mp hc
  exact hz a ha
end
end Re
namespace Re
open PySem L2 Dv Mw Jt Tr
section
variable {as : List At} {L L' : List Nat} {N : Nat → List Str} {P : List (Nat × Nat)} {vals : List (Option Nat)} {n : Nat}
theorem has_max (f : Nat → Nat) : ∀ {L : List Nat}, L ≠ [] → ∃ a ∈ L, ∀ c ∈ L, f c ≤ f a
  | [], h => absurd rfl h
  | [a], _ => ⟨a, List.mem_cons_self, fun c hc => by rw [List.mem_singleton.mp hc]; exact Nat.le_refl _⟩
  | a :: b :: L, _ => by
    obtain ⟨m, hm, hx⟩ := has_max f (L := b :: L) (by simp)
    by_cases c : f m ≤ f a
    · exact ⟨a, List.mem_cons_self, fun z hz => by
        rcases List.mem_cons.mp hz with rfl | hz
        · exact Nat.le_refl _
        · exact Nat.le_trans (hx z hz) c⟩
    · exact ⟨m, List.mem_cons_of_mem _ hm, fun z hz => by
        rcases List.mem_cons.mp hz with rfl | hz
        · omega
        · exact hx z hz⟩
theorem tree_red_aux {par : Nat → Option Nat} (o : Ok n par) (pth : ∀ y a b, a < n → b < n → y ∈ N a → y ∈ N b → ∀ z ∈ btw (W n par a) (W n par b), y ∈ N z) : ∀ (k : Nat) (L : List Nat), L.length = k + 1 → L.Nodup → (∀ a ∈ L, a < n) → (∀ a ∈ L, ∀ b, par a = some b → b ∈ L) → Red (L.map N)
  | k, L, hl, nd, lt, cl => by
    obtain ⟨a, ha, mx⟩ := has_max (fun a => (W n par a).length) (L := L) (fun q => by rw [q] at hl; cases hl)
    cases k with
    | zero =>
      obtain ⟨x, rfl⟩ := List.length_eq_one_iff.mp hl
      exact .one (List.Perm.refl _)
    | succ k =>
      have hle : (L.erase a).length = k + 1 := by rw [List.length_erase_of_mem ha]; omega
      obtain ⟨c0, hc0⟩ := List.exists_mem_of_length_pos (l := L.erase a) (by omega)
      have hc0L := List.mem_of_mem_erase hc0
      have hne : c0 ≠ a := fun q => by rw [q] at hc0; exact (List.Nodup.not_mem_erase nd) hc0
      obtain ⟨b, hb⟩ : ∃ b, par a = some b := by
        cases q : par a with
        | some b => exact ⟨b, rfl⟩
        | none =>
          have h1 := mx c0 hc0L
          have e1 : W n par a = [a] := W_none q
          rw [e1] at h1
          cases q2 : par c0 with
          | none =>
            obtain ⟨r, _, _, hu⟩ := o.one
            exact absurd ((hu c0 (lt c0 hc0L) q2).trans (hu a (lt a ha) q).symm) hne
          | some d =>
            have e2 := W_some o (lt c0 hc0L) q2
            obtain ⟨t, ht⟩ := W_head (n := n) (par := par) d
            rw [e2, ht] at h1
            simp at h1
      have ea := W_some o (lt a ha) hb
      have la : (W n par a).length = (W n par b).length + 1 := by rw [ea]; rfl
      have hbL := cl a ha b hb
      have hba : b ≠ a := fun q => by rw [q] at la; omega
      have hbE : b ∈ L.erase a := (List.mem_erase_of_ne hba).mpr hbL
      refine .ear (perm_out ha) ⟨N b, List.mem_map_of_mem hbE, fun y hy hc => ?_⟩ (tree_red_aux o pth k (L.erase a) hle (nd.erase a) (fun c hc => lt c (List.mem_of_mem_erase hc)) fun c hc d hd => ?_)
      · obtain ⟨Nc, hNc, hyc⟩ := hc
        obtain ⟨c, hc, hcN⟩ := List.mem_map.mp hNc
        rw [← hcN] at hyc
        have hcL := List.mem_of_mem_erase hc
        have hca : c ≠ a := fun q => by rw [q] at hc; exact (List.Nodup.not_mem_erase nd) hc
        refine pth y a c (lt a ha) (lt c hcL) hy hyc b ?_
        obtain ⟨p1, p2, m, hm, e1, e2, h3, h4, h5, h6, h7⟩ := btw_eq o (lt a ha) (lt c hcL)
        have hac : a ∉ W n par c := fun q => by
          obtain ⟨s, t, e⟩ := List.append_of_mem q
          have e3 := W_tail o c (lt c hcL) s t a e
          have l1 := congrArg List.length e
          have l2 := congrArg List.length e3
          have l3 := mx c hcL
          simp only [List.length_append, List.length_cons] at l1 l2
          have hs : s.length = 0 := by omega
          rw [List.length_eq_zero_iff.mp hs] at e
          obtain ⟨t2, ht2⟩ := W_head (n := n) (par := par) c
          have e : W n par c = a :: t := e
          rw [ht2] at e
          exact hca (List.cons.inj e).1
        rw [h7]
        cases p1 with
        | nil =>
          have e1 : W n par a = W n par m := e1
          obtain ⟨t, ht⟩ := W_head (n := n) (par := par) m
          rw [ea, ht] at e1
          have : a = m := (List.cons.inj e1).1
          rw [← this] at h4
          exact absurd h4 hac
        | cons x p1 =>
          have e1 : W n par a = x :: (p1 ++ W n par m) := e1
          rw [ea] at e1
          have e1 := (List.cons.inj e1).2
          obtain ⟨t, ht⟩ := W_head (n := n) (par := par) b
          obtain ⟨t2, ht2⟩ := W_head (n := n) (par := par) m
          rw [ht, ht2] at e1
          cases p1 with
          | nil =>
            have : b = m := (List.cons.inj e1).1
            rw [this]
            simp
          | cons z p1 =>
            have : b = z := (List.cons.inj e1).1
            rw [this]
            simp
      · have hcL := List.mem_of_mem_erase hc
        have hdL := cl c hcL d hd
        refine (List.mem_erase_of_ne fun q => ?_).mpr hdL
        have e2 := W_some o (lt c hcL) hd
        have l3 := mx c hcL
        have l2 : (W n par c).length = (W n par d).length + 1 := by rw [e2]; rfl
        have l3 : (W n par c).length ≤ (W n par a).length := l3
        rw [q] at l2
        omega
theorem tree_red {d : D} (h : istB as d = true) : RedA as := by
  unfold istB at h
  split at h
  · rename_i xs
    split at h
    · rename_i hall
      obtain ⟨vals, rfl, hv⟩ := vals_of hall
      rw [List.length_map, back_vals, cnt_vals, Bool.and_eq_true, Bool.and_eq_true] at h
      obtain ⟨h1, h2, h3⟩ := h
      have hl := of_decide_eq_true h1
      unfold trB at h3
      rw [Bool.and_eq_true] at h3
      have o := ok_of hl hv (of_decide_eq_true h2) h3.1
      have hp := hang_pr (vals := vals) o
      rw [h3.2] at hp
      have hn : 0 < as.length := by
        obtain ⟨r, hr, _⟩ := o.one
        omega
      unfold RedA
      rw [← sets_ix]
      refine tree_red_aux o (fun y a b ha hb hya hyb z hz => ?_) (as.length - 1) (List.range as.length) (by rw [List.length_range]; omega) List.nodup_range (fun a ha => List.mem_range.mp ha) fun a ha b hb => List.mem_range.mpr (o.lt a b (List.mem_range.mp ha) hb)
      have p1 := List.all_eq_true.mp (List.all_eq_true.mp hp a (List.mem_range.mpr ha)) b (List.mem_range.mpr hb)
      unfold prB at p1
      have p2 := List.all_eq_true.mp p1 y (List.mem_filter.mpr ⟨mem_own.mpr hya, decide_eq_true (mem_own.mpr hyb)⟩)
      exact mem_own.mp (of_decide_eq_true (List.all_eq_true.mp p2 z hz))
    · cases h
  · cases h
theorem trP_ne {e p a : Nat} (h : a ≠ e) : trP ((e, p) :: P) a = trP P a := by
  unfold trP
  rw [List.find?_cons, decide_eq_false fun q => h q.symm]
theorem trP_eq {e p : Nat} : trP ((e, p) :: P) e = some p := by
  unfold trP
  rw [List.find?_cons, decide_eq_true rfl]
  rfl
theorem trP_mem {a b : Nat} (h : trP P a = some b) : (a, b) ∈ P := by
  unfold trP at h
  obtain ⟨q, hq, e⟩ := Option.map_eq_some_iff.mp h
  have h1 := List.find?_some hq
  have h2 := List.mem_of_find?_eq_some hq
  have h1 : q.1 = a := of_decide_eq_true h1
  rw [← h1, ← e]
  exact h2
theorem up_mono {par : Nat → Option Nat} : ∀ {k a : Nat}, upB par k a = true → upB par (k + 1) a = true
  | 0, a, h => by cases h
  | k + 1, a, h => by
    unfold upB at h ⊢
    cases q : par a with
    | none => rfl
    | some b =>
      rw [q] at h
      exact up_mono h
theorem up_same {e p : Nat} (h : Ears N (L.erase e) P L') (nd : L.Nodup) : ∀ (k a : Nat), a ∈ L.erase e → upB (trP ((e, p) :: P)) k a = upB (trP P) k a
  | 0, a, ha => rfl
  | k + 1, a, ha => by
    have hne : a ≠ e := fun q => by rw [q] at ha; exact (List.Nodup.not_mem_erase nd) ha
    unfold upB
    rw [trP_ne hne]
    cases q : trP P a with
    | none => rfl
    | some b => exact up_same h nd k b (h.mem _ (trP_mem q)).2
theorem ears_up (h : Ears N L P L') (nd : L.Nodup) : ∀ a ∈ L, upB (trP P) L.length a = true := by
  induction h with
  | nil L =>
    intro a ha
    obtain ⟨k, hk⟩ : ∃ k, L.length = k + 1 := ⟨L.length - 1, by have := List.length_pos_of_mem ha; omega⟩
    rw [hk]
    rfl
  | @cons L e p P L' he hp hne kc hE ih =>
    have hle : L.length = (L.erase e).length + 1 := by
      have := List.length_pos_of_mem he
      rw [List.length_erase_of_mem he]
      omega
    have hpE : p ∈ L.erase e := (List.mem_erase_of_ne hne).mpr hp
    intro a ha
    rw [hle]
    by_cases c : a = e
    · subst c
      show (match trP ((a, p) :: P) a with
        | none => true
        | some b => upB (trP ((a, p) :: P)) (L.erase a).length b) = true
      rw [trP_eq]
      show upB (trP ((a, p) :: P)) (L.erase a).length p = true
      rw [up_same hE nd _ p hpE]
      exact ih (nd.erase a) p hpE
    · have haE : a ∈ L.erase e := (List.mem_erase_of_ne c).mpr ha
      refine up_mono ?_
      rw [up_same hE nd _ a haE]
      exact ih (nd.erase e) a haE
theorem filter_split {q : Nat → Bool} {e : Nat} (he : e ∈ L) : (L.filter q).length = (if q e = true then 1 else 0) + ((L.erase e).filter q).length := by
  rw [((List.perm_cons_erase he).filter q).length_eq, List.filter_cons]
  split <;> simp <;> omega
theorem ears_hang (h : Ears N L P L') (nd : L.Nodup) (h1 : L'.length = 1) {s : Nat → Bool} {y : Str} (hs : ∀ a, s a = decide (y ∈ N a)) (ex : ∃ a ∈ L, s a = true) : (L.filter fun a => s a && !inS (trP P) s a).length = 1 := by
  induction h with
  | nil L =>
    obtain ⟨r, rfl⟩ := List.length_eq_one_iff.mp h1
    obtain ⟨a, ha, hsa⟩ := ex
    rw [List.mem_singleton.mp ha] at hsa
    have : (s r && !inS (trP []) s r) = true := by
      rw [hsa]
      rfl
    rw [List.filter_cons, if_pos this]
    rfl
  | @cons L e p P L' he hp hne kc hE ih =>
    have hpE : p ∈ L.erase e := (List.mem_erase_of_ne hne).mpr hp
    rw [filter_split he]
    have same : (L.erase e).filter (fun a => s a && !inS (trP ((e, p) :: P)) s a) = (L.erase e).filter (fun a => s a && !inS (trP P) s a) := by
      refine List.filter_congr fun a ha => ?_
      have hae : a ≠ e := fun q => by rw [q] at ha; exact (List.Nodup.not_mem_erase nd) ha
      unfold inS
      rw [trP_ne hae]
    have ie : inS (trP ((e, p) :: P)) s e = s p := by
      unfold inS
      rw [trP_eq]
    rw [same, ie]
    by_cases c : ∃ a ∈ L.erase e, s a = true
    · rw [ih (nd.erase e) h1 c]
      have : (s e && !s p) = false := by
        cases q : s e with
        | false => rfl
        | true =>
          obtain ⟨a, ha, hsa⟩ := c
          have hae : a ≠ e := fun q => by rw [q] at ha; exact (List.Nodup.not_mem_erase nd) ha
          rw [hs] at q hsa
          have := kc y (of_decide_eq_true q) ⟨a, List.mem_of_mem_erase ha, hae, of_decide_eq_true hsa⟩
          rw [hs p, decide_eq_true this]
          rfl
      rw [this]
      rfl
    · have h0 : (L.erase e).filter (fun a => s a && !inS (trP P) s a) = [] := by
        rw [List.filter_eq_nil_iff]
        intro a ha q
        rw [Bool.and_eq_true] at q
        exact c ⟨a, ha, q.1⟩
      have hse : s e = true := by
        obtain ⟨a, ha, hsa⟩ := ex
        by_cases hae : a = e
        · rw [← hae]; exact hsa
        · exact absurd ⟨a, (List.mem_erase_of_ne hae).mpr ha, hsa⟩ c
      have hsp : s p = false := by
        cases q : s p with
        | false => rfl
        | true => exact absurd ⟨p, hpE, q⟩ c
      rw [h0, hse, hsp]
      rfl
theorem ears_none (h : Ears N L P L') (nd : L.Nodup) : (L.filter fun a => (trP P a).isNone).length = L'.length := by
  induction h with
  | nil L =>
    have : L.filter (fun a => (trP [] a).isNone) = L := List.filter_eq_self.mpr fun a _ => rfl
    rw [this]
  | @cons L e p P L' he hp hne kc hE ih =>
    rw [filter_split he]
    have same : (L.erase e).filter (fun a => (trP ((e, p) :: P) a).isNone) = (L.erase e).filter (fun a => (trP P a).isNone) := by
      refine List.filter_congr fun a ha => ?_
      have hae : a ≠ e := fun q => by rw [q] at ha; exact (List.Nodup.not_mem_erase nd) ha
      rw [trP_ne hae]
    rw [same, trP_eq, ih (nd.erase e)]
    simp
theorem ears_tree (h : Ears (Na as) (List.range as.length) P L') (h1 : L'.length = 1) : istB as (.tux ((List.range as.length).map fun i => kD (trP P i))) = true := by
  obtain ⟨vals, hvals⟩ : ∃ vals, vals = (List.range as.length).map (trP P) := ⟨_, rfl⟩
  have ev : (List.range as.length).map (fun i => kD (trP P i)) = vals.map kD := by
    rw [hvals, List.map_map]
    rfl
  have hl : vals.length = as.length := by rw [hvals, List.length_map, List.length_range]
  have hv : ∀ i, some i ∈ vals → i < as.length := fun i hi => by
    rw [hvals] at hi
    obtain ⟨a, _, e⟩ := List.mem_map.mp hi
    exact List.mem_range.mp (h.mem _ (trP_mem e)).2
  have hp : parV vals = trP P := funext fun a => by
    unfold parV
    rw [hvals, List.getElem?_map]
    by_cases c : a < as.length
    · rw [List.getElem?_range c]
      rfl
    · rw [List.getElem?_eq_none (by rw [List.length_range]; omega)]
      cases q : trP P a with
      | none => rfl
      | some b => exact absurd (List.mem_range.mp (h.mem _ (trP_mem q)).1) c
  rw [ev, istB_vals hv, decide_eq_true hl, Bool.true_and]
  have hc : cntN vals = 1 := by
    have := ears_none h List.nodup_range
    rw [h1] at this
    unfold cntN
    rw [hvals, List.countP_map, List.countP_eq_length_filter]
    exact this
  rw [decide_eq_true hc, Bool.true_and]
  unfold trB
  rw [hp, Bool.and_eq_true]
  constructor
  · rw [List.all_eq_true]
    intro a ha
    have := ears_up h List.nodup_range a ha
    rw [List.length_range] at this
    exact this
  · rw [List.all_eq_true]
    intro y hy
    unfold hangB
    rw [hp]
    obtain ⟨a, ha⟩ := List.exists_mem_of_length_pos (show 0 < (sel as.length (hasY as y)).length from sel_pos hy)
    have hh := ears_hang h List.nodup_range h1 (s := hasY as y) (y := y) (fun a => rfl) ⟨a, List.mem_range.mpr (mem_sel.mp ha).1, (mem_sel.mp ha).2⟩
    have lp := len_parts (inS (trP P) (hasY as y)) (sel as.length (hasY as y))
    have e : ((sel as.length (hasY as y)).filter fun a => !inS (trP P) (hasY as y) a).length = 1 := by
      rw [← hh]
      unfold sel
      rw [List.filter_filter]
      congr 1
      refine List.filter_congr fun a _ => ?_
      exact Bool.and_comm _ _
    exact decide_eq_true (by omega)
end
end Re
namespace Re
open PySem L2 Dv Mw Sx Jt Tr
section
variable {most many : Nat} {tb : List Bt} {as : List At} {cs : List Ck} {S : Store} {left L L' : List Nat} {P : List (Nat × Nat)} {N : Nat → List Str}
theorem ears_len (h : Ears N L P L') : P.length + L'.length = L.length := by
  induction h with
  | nil L => simp
  | @cons L e p P L' he hp hne kc hE ih =>
    have := List.length_pos_of_mem he
    rw [List.length_erase_of_mem he] at ih
    rw [List.length_cons]
    omega
def treeD (as : List At) : D := if 1 < (earA as).2.length then .non else .tux ((List.range as.length).map fun i => kD (trP (earA as).1 i))
theorem tree_okA (q : Mq most many tb as cs) {fu : Nat} (h0 : 0 < as.length) (hn : as.length ≤ 900) (hfu : as.length < fu) : FTree fu [askD as cs] S = .ok (treeD as) S := by
  have e := ears_ok2 (S := S) q hn hfu
  have hE := earA_ears (as := as)
  have hl := ears_len hE
  rw [List.length_range] at hl
  have ne : (earA as).2 ≠ [] := (earR_sub as.length (List.range as.length) []).2 fun z => by
    have := congrArg List.length z
    rw [List.length_range] at this
    simp at this
    rw [this] at h0
    exact Nat.lt_irrefl 0 h0
  unfold treeD
  show FTree fu [askD as cs] S = .ok (if 1 < (earA as).2.length then .non else .tux ((List.range as.length).map fun i => kD (trP (earA as).1 i))) S
  have e : FEars fu [askD as cs] S = .ok (.tup [.lst ((earA as).1.map pD), .lst ((earA as).2.map Jt.iD)]) S := e
  revert e hE hl ne
  generalize earA as = PL
  obtain ⟨P, left⟩ := PL
  intro hE hl ne e
  have e : FEars fu [askD as cs] S = .ok (.tup [.lst (P.map pD), .lst (left.map Jt.iD)]) S := e
  have hl : P.length + left.length = as.length := hl
  have ne : left ≠ [] := ne
  show FTree fu [askD as cs] S = .ok (if 1 < left.length then .non else .tux ((List.range as.length).map fun i => kD (trP P i))) S
  have ln : lenD [.lst (left.map Jt.iD)] S = some (.int (left.length : Nat)) := by
    show some (D.int ((left.map Jt.iD).length : Nat)) = _
    rw [List.length_map]
  by_cases h1 : 1 < left.length
  · rw [if_pos h1]
    refine fn_ret rfl ⟨[some (askD as cs), none, some (.lst (P.map pD)), some (.lst (left.map Jt.iD)), none, none], ?_⟩
    show mTree fu [some (askD as cs), none, none, none, none, none] S = _
    have hd : (1 : Int) < (left.length : Int) := by omega
    generalize P.map pD = W at e ⊢
    generalize left.map Jt.iD = W2 at e ln ⊢
    unfold mTree
    simp [e, ln, hd]
  · obtain ⟨root, rfl⟩ : ∃ root, left = [root] := by
      cases left with
      | nil => exact absurd rfl ne
      | cons x l =>
        cases l with
        | nil => exact ⟨x, rfl⟩
        | cons y l => simp at h1
    rw [if_neg h1]
    have nd := hE.fst List.nodup_range
    have hP : P.length ≤ 900 := by simp at hl; omega
    have dc := dc_pairs (S := S) (y0 := some (askD as cs)) (y1 := none) (y2 := some (.lst (P.map pD))) (y3 := some (.lst ([root].map Jt.iD))) P [] (by simpa using nd) (by simp; omega)
    rw [List.nil_append] at dc
    have dc : dcL (tgT 2 (tgsCons (tgN 4) (tgsCons (tgN 5) tgsNil))) mYes (mVar 4) (mVar 5) [some (askD as cs), none, some (.lst (P.map pD)), some (.lst ([root].map Jt.iD)), none, none] (P.map pD) [] S = .ok (P.map kq) S := dc
    have e1 := ask_ix (S := S) as cs
    have l2 : lenD [.tup (as.map atD)] S = some (.int (as.length : Nat)) := by
      show some (D.int ((as.map atD).length : Nat)) = _
      rw [List.length_map]
    have er : rng1 [.int (as.length : Nat)] = some ((List.range as.length).map Jt.iD) := by
      have : (rng 0 as.length) = (List.range as.length).map Jt.iD := by
        refine List.ext_getElem? fun i => ?_
        rw [List.getElem?_map]
        by_cases h : i < as.length
        · rw [List.getElem?_range h]
          obtain ⟨x, hx⟩ : ∃ x, (rng 0 as.length)[i]? = some x := ⟨_, List.getElem?_eq_getElem (by rw [rng_len]; exact h)⟩
          rw [hx, (rng0_get hx).2]
          rfl
        · rw [List.getElem?_eq_none (by rw [rng_len]; omega), List.getElem?_eq_none (by rw [List.length_range]; omega)]
          rfl
      rw [← this]
      have h1 : (as.length : Int) ≤ 100000 := by omega
      simp [h1]
    have lc := lc_all (gm := tgN 4) (te := mDGet2 (mVar 1) (mVar 4) (mC .non)) (r0 := [some (askD as cs), some (.dct (P.map kq)), some (.lst (P.map pD)), some (.lst ([root].map Jt.iD)), none, none]) (S := S) Jt.iD (fun i => kD (trP P i)) (List.range as.length) fun i _ => ⟨[some (askD as cs), some (.dct (P.map kq)), some (.lst (P.map pD)), some (.lst ([root].map Jt.iD)), some (Jt.iD i), none], rfl, by
      rw [← val_kq]
      rfl⟩
    have tx : tuxD [.lst ((List.range as.length).map fun i => kD (trP P i))] S = some (.tux ((List.range as.length).map fun i => kD (trP P i))) := rfl
    refine fn_ret ?_ ⟨[some (askD as cs), some (.dct (P.map kq)), some (.lst (P.map pD)), some (.lst ([root].map Jt.iD)), none, none], ?_⟩
    · show cloL _ ((List.range as.length).map fun i => kD (trP P i)) = true
      refine (cloL_iff _ _).mpr fun d hd => ?_
      obtain ⟨i, _, rfl⟩ := List.mem_map.mp hd
      cases trP P i <;> rfl
    · show mTree fu [some (askD as cs), none, none, none, none, none] S = _
      have ln : lenD [.lst ([root].map Jt.iD)] S = some (.int 1) := rfl
      generalize (List.range as.length).map (fun i => kD (trP P i)) = W5 at lc tx ⊢
      generalize (List.range as.length).map Jt.iD = W4 at er lc
      generalize as.map atD = W3 at e1 l2
      generalize P.map pD = W at e dc lc ⊢
      generalize [root].map Jt.iD = W2 at e ln dc lc ⊢
      generalize P.map kq = W6 at dc lc ⊢
      unfold mTree
      simp [e, ln, dc, e1, l2, er, lc, tx, -rng1_int]
theorem tree_some (h0 : 0 < as.length) (h : RedA as) : treeD as = .tux ((List.range as.length).map fun i => kD (trP (earA as).1 i)) ∧ istB as (treeD as) = true := by
  have h1 := (earA_red h0).mpr h
  have e : treeD as = .tux ((List.range as.length).map fun i => kD (trP (earA as).1 i)) := by
    unfold treeD
    rw [if_neg (by omega)]
  refine ⟨e, ?_⟩
  rw [e]
  exact ears_tree earA_ears h1
theorem core_val (h0 : 0 < as.length) : (RedA as → coreV as = []) ∧ (¬ RedA as → coreV as = (earA as).2 ∧ 2 ≤ (earA as).2.length) := by
  have ne : (earA as).2 ≠ [] := (earR_sub as.length (List.range as.length) []).2 fun z => by
    have := congrArg List.length z
    rw [List.length_range] at this
    simp at this
    rw [this] at h0
    exact Nat.lt_irrefl 0 h0
  have := List.length_pos_iff.mpr ne
  have hr := earA_red h0
  constructor
  · intro h
    have h1 := hr.mpr h
    show cutC (earA as).2 = []
    unfold cutC
    rw [if_pos h1]
  · intro h
    have h1 : (earA as).2.length ≠ 1 := fun e => h (hr.mp e)
    refine ⟨?_, by omega⟩
    show cutC (earA as).2 = _
    unfold cutC
    rw [if_neg h1]
theorem tree_kd : kd1 (treeD as) = true ∧ kd2 (treeD as) = true := by
  unfold treeD
  split
  · exact ⟨rfl, rfl⟩
  · refine ⟨rfl, ?_⟩
    show ((List.range as.length).map fun i => kD (trP (earA as).1 i)).all kd1 = true
    rw [List.all_map, List.all_eq_true]
    intro i _
    show kd1 (kD (trP (earA as).1 i)) = true
    cases trP (earA as).1 i <;> rfl
def nT : BM := (mTru (mLc (mIter (mVar 3)) [5] (tgN 5) (mT (mBin inTD (mVar 6) (mApp 2 FOwn1 (mCons (mVar 0) (mCons (mVar 5) mNil))))) (mC (.int 1))))
def nK : BM := (mT (mBin eqD (mLc (mIter (mVar 4)) [6] (tgN 6) (mT (mBin ninTD (mVar 6) (mApp 2 FOwn1 (mCons (mVar 0) (mCons (mVar 5) mNil))))) (mVar 6)) (mLst mNil)))
def nB : SM := (sSeq (sSet 3 (mLc (mIter (mVar 1)) [5] (tgN 5) (mT (mBin neD (mVar 5) (mVar 2))) (mVar 5)))
    (sSeq (sSet 4 (mLc (mIter (mApp 2 FOwn1 (mCons (mVar 0) (mCons (mVar 2) mNil)))) [6] (tgN 6) nT (mVar 6)))
    (sIf (mTru (mLc (mIter (mVar 3)) [5] (tgN 5) nK (mC (.int 1)))) (sRet (mC (.bl false))) sNil)))
def mNoEar : SM :=
    (sSeq (sFor (mIter (mVar 1)) (tgN 2) nB)
    (sRet (mC (.bl true))))
def FNoEar : List D → Store → R D := runT 7 mNoEar
abbrev NE (as : List At) (cs : List Ck) (left : List Nat) (y2 y3 y4 y5 y6 : Option D) : Dv.Env := [some (askD as cs), some (.tup (left.map Jt.iD)), y2, y3, y4, y5, y6]
theorem ones_tru {α : Type} {xs : List α} {p : α → Bool} : truD (.lst ((xs.filter p).map fun _ => D.int 1)) S = some (xs.any p) := by
  show some (!((xs.filter p).map fun _ => D.int 1).isEmpty) = _
  rw [List.isEmpty_map]
  congr 1
  rw [Bool.eq_iff_iff, Bool.not_eq_true', ← Bool.not_eq_true, List.isEmpty_iff, List.filter_eq_nil_iff, List.any_eq_true]
  constructor
  · intro h
    refine Classical.byContradiction fun c => h fun a ha hp => c ⟨a, ha, hp⟩
  · rintro ⟨a, ha, hp⟩ h
    exact h a ha hp
theorem nT_ok (q : Mq most many tb as cs) {at_ : Nat} (hl : ∀ j ∈ left, j < as.length) {y : Str} (hy : y ∈ abcd) {y4 y5 : Option D} : nT (NE as cs left (some (Jt.iD at_)) (some (.lst ((othL left at_).map Jt.iD))) y4 y5 (some (.str y))) S = .ok ((othL left at_).any fun j => decide (y ∈ ownL as j)) S := by
  have lc := lc_src (gm := tgN 5) (tt := mT (mBin inTD (mVar 6) (mApp 2 FOwn1 (mCons (mVar 0) (mCons (mVar 5) mNil))))) (te := mC (.int 1)) (r0 := NE as cs left (some (Jt.iD at_)) (some (.lst ((othL left at_).map Jt.iD))) y4 none (some (.str y))) (S := S) Jt.iD (fun j => decide (y ∈ ownL as j)) (fun _ => D.int 1) (othL left at_) fun j hj => by
    refine ⟨NE as cs left (some (Jt.iD at_)) (some (.lst ((othL left at_).map Jt.iD))) y4 (some (Jt.iD j)) (some (.str y)), rfl, t_of (bin_of (var_of rfl) (run_app (cons_of (var_of rfl) (cons_of (var_of rfl) nil_of)) rfl (own1_ok (hl j (List.mem_filter.mp hj).1))) ?_), fun _ => rfl⟩
    show (inTO (.str y) (.lst ((ownL as j).map D.str))).map D.bl = _
    rw [inL_abcd hy fun x hx => own_abcd q hx]
    rfl
  exact tru_of (lc_of (iter_of (d := .lst ((othL left at_).map Jt.iD)) (var_of rfl) rfl) lc) ones_tru
def cmN (as : List At) (left : List Nat) (at_ : Nat) : List Str := (ownL as at_).filter fun y => (othL left at_).any fun j => decide (y ∈ ownL as j)
theorem nK_ok (q : Mq most many tb as cs) {at_ j : Nat} (hj : j < as.length) {acc : List Str} (hc : ∀ y ∈ acc, y ∈ abcd) {y3 y6 : Option D} : nK (NE as cs left (some (Jt.iD at_)) y3 (some (.lst (acc.map D.str))) (some (Jt.iD j)) y6) S = .ok (acc.all fun y => decide (y ∈ ownL as j)) S := by
  have lc := lc_src (gm := tgN 6) (tt := mT (mBin ninTD (mVar 6) (mApp 2 FOwn1 (mCons (mVar 0) (mCons (mVar 5) mNil))))) (te := mVar 6) (r0 := NE as cs left (some (Jt.iD at_)) y3 (some (.lst (acc.map D.str))) (some (Jt.iD j)) none) (S := S) D.str (fun y => !decide (y ∈ ownL as j)) D.str acc fun y hy => by
    refine ⟨NE as cs left (some (Jt.iD at_)) y3 (some (.lst (acc.map D.str))) (some (Jt.iD j)) (some (.str y)), rfl, t_of (bin_of (var_of rfl) (run_app (cons_of (var_of rfl) (cons_of (var_of rfl) nil_of)) rfl (own1_ok hj)) ?_), fun _ => var_of rfl⟩
    show (inTO (.str y) (.lst ((ownL as j).map D.str))).map (fun k => D.bl (!k)) = _
    rw [inL_abcd (hc y hy) fun x hx => own_abcd q hx]
    rfl
  refine t_of (bin_of (lc_of (iter_of (d := .lst (acc.map D.str)) (var_of rfl) rfl) lc) (y := .lst []) (lst_of nil_of (by simp)) ?_)
  have p1 := pl_strs (xs := acc.filter fun y => !decide (y ∈ ownL as j)) fun y hy => hc y (List.mem_filter.mp hy).1
  have e := eqD_pl (k := 1) (S := S) (a := .lst ((acc.filter fun y => !decide (y ∈ ownL as j)).map D.str)) (b := .lst []) p1 (by rfl) (by decide)
  rw [e]
  show some (D.bl (decide (D.lst ((acc.filter fun y => !decide (y ∈ ownL as j)).map D.str) = D.lst []))) = _
  congr 2
  rw [Bool.eq_iff_iff, decide_eq_true_eq, List.all_eq_true]
  constructor
  · intro h y hy
    have h := D.lst.inj h
    rw [List.map_eq_nil_iff, List.filter_eq_nil_iff] at h
    have := h y hy
    simpa using this
  · intro h
    congr 1
    rw [List.map_eq_nil_iff, List.filter_eq_nil_iff]
    intro y hy
    rw [h y hy]
    simp
theorem no_hasK {at_ : Nat} (h : hasK as left at_ = false) : ((othL left at_).any fun j => (cmN as left at_).all fun y => decide (y ∈ ownL as j)) = false := by
  rw [← Bool.not_eq_true, List.any_eq_true]
  rintro ⟨j, hj, hk⟩
  have : hasK as left at_ = true := by
    unfold hasK keeper
    rw [List.find?_isSome]
    refine ⟨j, hj, ?_⟩
    unfold kpB
    rw [List.all_eq_true] at hk ⊢
    intro y hy
    obtain ⟨c1, c2⟩ := List.mem_filter.mp hy
    obtain ⟨i, hi, c3⟩ := List.any_eq_true.mp c2
    have := hk y (List.mem_filter.mpr ⟨mem_own.mpr c1, List.any_eq_true.mpr ⟨i, hi, decide_eq_true (mem_own.mpr (of_decide_eq_true c3))⟩⟩)
    exact decide_eq_true (mem_own.mp (of_decide_eq_true this))
  rw [this] at h
  cases h
theorem nB_ok (q : Mq most many tb as cs) {at_ : Nat} (ha : at_ < as.length) (hl : ∀ j ∈ left, j < as.length) (hk : hasK as left at_ = false) {y3 y4 : Option D} : ∃ z3 z4, nB (NE as cs left (some (Jt.iD at_)) y3 y4 none none) S = .ok .next (NE as cs left (some (Jt.iD at_)) z3 z4 none none) S := by
  have l1 := lc_src (gm := tgN 5) (tt := mT (mBin neD (mVar 5) (mVar 2))) (te := mVar 5) (r0 := NE as cs left (some (Jt.iD at_)) y3 y4 none none) (S := S) Jt.iD (fun j => decide (j ≠ at_)) Jt.iD left fun j _ => ⟨NE as cs left (some (Jt.iD at_)) y3 y4 (some (Jt.iD j)) none, rfl, by
    show (ofO (some (D.bl (!decide ((j : Int) = (at_ : Int))))) S).bind _ = _
    have : (!decide ((j : Int) = (at_ : Int))) = decide (j ≠ at_) := by
      by_cases e : j = at_
      · subst e; simp
      · have e2 : ¬ (j : Int) = (at_ : Int) := by omega
        simp [e, e2]
    rw [this]
    rfl, fun _ => rfl⟩
  have s1 : (sSet 3 (mLc (mIter (mVar 1)) [5] (tgN 5) (mT (mBin neD (mVar 5) (mVar 2))) (mVar 5))) (NE as cs left (some (Jt.iD at_)) y3 y4 none none) S = .ok .next (NE as cs left (some (Jt.iD at_)) (some (.lst ((othL left at_).map Jt.iD))) y4 none none) S := set_of (lc_of (iter_of (d := .tup (left.map Jt.iD)) (var_of rfl) rfl) l1)
  have l2 := lc_src (gm := tgN 6) (tt := nT) (te := mVar 6) (r0 := NE as cs left (some (Jt.iD at_)) (some (.lst ((othL left at_).map Jt.iD))) y4 none none) (S := S) D.str (fun y => (othL left at_).any fun j => decide (y ∈ ownL as j)) D.str (ownL as at_) fun y hy => ⟨NE as cs left (some (Jt.iD at_)) (some (.lst ((othL left at_).map Jt.iD))) y4 none (some (.str y)), rfl, nT_ok q hl (own_abcd q hy), fun _ => rfl⟩
  have s2 : (sSet 4 (mLc (mIter (mApp 2 FOwn1 (mCons (mVar 0) (mCons (mVar 2) mNil)))) [6] (tgN 6) nT (mVar 6))) (NE as cs left (some (Jt.iD at_)) (some (.lst ((othL left at_).map Jt.iD))) y4 none none) S = .ok .next (NE as cs left (some (Jt.iD at_)) (some (.lst ((othL left at_).map Jt.iD))) (some (.lst ((cmN as left at_).map D.str))) none none) S := set_of (lc_of (iter_of (d := .lst ((ownL as at_).map D.str)) (run_app (cons_of (var_of rfl) (cons_of (var_of rfl) nil_of)) rfl (own1_ok ha)) rfl) l2)
  have l3 := lc_src (gm := tgN 5) (tt := nK) (te := mC (.int 1)) (r0 := NE as cs left (some (Jt.iD at_)) (some (.lst ((othL left at_).map Jt.iD))) (some (.lst ((cmN as left at_).map D.str))) none none) (S := S) Jt.iD (fun j => (cmN as left at_).all fun y => decide (y ∈ ownL as j)) (fun _ => D.int 1) (othL left at_) fun j hj => ⟨NE as cs left (some (Jt.iD at_)) (some (.lst ((othL left at_).map Jt.iD))) (some (.lst ((cmN as left at_).map D.str))) (some (Jt.iD j)) none, rfl, nK_ok q (hl j (List.mem_filter.mp hj).1) fun y hy => own_abcd q (List.mem_filter.mp hy).1, fun _ => rfl⟩
  have s3 : sIf (mTru (mLc (mIter (mVar 3)) [5] (tgN 5) nK (mC (.int 1)))) (sRet (mC (.bl false))) sNil (NE as cs left (some (Jt.iD at_)) (some (.lst ((othL left at_).map Jt.iD))) (some (.lst ((cmN as left at_).map D.str))) none none) S = .ok .next (NE as cs left (some (Jt.iD at_)) (some (.lst ((othL left at_).map Jt.iD))) (some (.lst ((cmN as left at_).map D.str))) none none) S := by
    refine (if_no ?_).trans rfl
    rw [← no_hasK hk]
    exact tru_of (lc_of (iter_of (d := .lst ((othL left at_).map Jt.iD)) (var_of rfl) rfl) l3) ones_tru
  refine ⟨some (.lst ((othL left at_).map Jt.iD)), some (.lst ((cmN as left at_).map D.str)), ?_⟩
  unfold nB
  rw [seq_next s1, seq_next s2]
  exact s3
theorem nB_loop (q : Mq most many tb as cs) (hl : ∀ j ∈ left, j < as.length) : ∀ (xs : List Nat) (y2 y3 y4 : Option D), (∀ a ∈ xs, a < as.length ∧ hasK as left a = false) → ∃ z2 z3 z4, sLoop (tgN 2) nB (xs.map Jt.iD) (NE as cs left y2 y3 y4 none none) S = .ok .next (NE as cs left z2 z3 z4 none none) S
  | [], y2, y3, y4, _ => ⟨y2, y3, y4, rfl⟩
  | a :: xs, y2, y3, y4, h => by
    obtain ⟨z3, z4, e⟩ := nB_ok (S := S) (y3 := y3) (y4 := y4) q (h a List.mem_cons_self).1 hl (h a List.mem_cons_self).2
    obtain ⟨w2, w3, w4, e2⟩ := nB_loop q hl xs (some (Jt.iD a)) z3 z4 fun c hc => h c (List.mem_cons_of_mem _ hc)
    refine ⟨w2, w3, w4, ?_⟩
    rw [List.map_cons, loop_step (r1 := NE as cs left (some (Jt.iD a)) y3 y4 none none) rfl e, e2]
theorem noEar_ok (q : Mq most many tb as cs) (hl : ∀ j ∈ left, j < as.length) (hk : left.filter (hasK as left) = []) : FNoEar [askD as cs, .tup (left.map Jt.iD)] S = .ok (.bl true) S := by
  obtain ⟨z2, z3, z4, e⟩ := nB_loop (S := S) q hl left none none none fun a ha => ⟨hl a ha, by
    have := List.filter_eq_nil_iff.mp hk a ha
    simpa using this⟩
  refine fn_ret rfl ⟨NE as cs left z2 z3 z4 none none, ?_⟩
  show mNoEar (NE as cs left none none none none none) S = _
  unfold mNoEar
  rw [seq_next ((for_of (iter_of (d := .tup (left.map Jt.iD)) (var_of rfl) rfl)).trans e)]
  rfl
end
end Re
namespace Re
open PySem L2 Dv Mw Sx Jt Tr
def evC : SM := (sSet 3 (mBin addXD (mVar 3) (mLc (mIterX (mBin addXD (mLst (mCons (mC .non) mNil)) (mCall lstRngD (mCons (mVar 0) mNil)))) [5] (tgN 5) mYes (mBin addXD (mVar 4) (mTux (mCons (mVar 5) mNil))))))
def evB : SM := (sSeq (sSet 3 (mLst mNil)) (sSeq (sFor (mIterX (mVar 1)) (tgN 4) evC) (sSet 1 (mVar 3))))
def evP : BM := (mT (mBin eqD (mCall lenXD (mCons (mLc (mIterX (mVar 4)) [5] (tgN 5) (mT (mBin isND (mVar 5) (mC .non))) (mC (.int 1))) mNil)) (mC (.int 1))))
def mEvery : SM :=
    (sSeq (sSet 1 (mLst (mCons (mTux mNil) mNil)))
    (sSeq (sFor (mRng1 (mCons (mVar 0) mNil)) (tgN 2) evB)
    (sRet (mLc (mIterX (mVar 1)) [4] (tgN 4) evP (mVar 4)))))
def FEvery : List D → Store → R D := runT 6 mEvery
def rowX (r : List (Option Nat)) : D := .tux (r.map kD)
def opts (m : Nat) : List (Option Nat) := none :: (List.range m).map some
def ext (m : Nat) (r : List (Option Nat)) : List (List (Option Nat)) := (opts m).map fun o => r ++ [o]
def evs (m : Nat) : Nat → List (List (Option Nat))
  | 0 => [[]]
  | k + 1 => (evs m k).flatMap (ext m)
section
variable {S : Store} {m : Nat}
theorem opts_len : (opts m).length = m + 1 := by
  unfold opts
  rw [List.length_cons, List.length_map, List.length_range]
theorem ext_len (r : List (Option Nat)) : (ext m r).length = m + 1 := by
  unfold ext
  rw [List.length_map, opts_len]
theorem flat_len : ∀ xs : List (List (Option Nat)), (xs.flatMap (ext m)).length = xs.length * (m + 1)
  | [] => by simp
  | x :: xs => by
    rw [List.flatMap_cons, List.length_append, ext_len, flat_len xs, List.length_cons, Nat.succ_mul]
    omega
theorem evs_len : ∀ k, (evs m k).length = (m + 1) ^ k
  | 0 => rfl
  | k + 1 => by
    show ((evs m k).flatMap (ext m)).length = _
    rw [flat_len, evs_len k, Nat.pow_succ]
theorem evs_row : ∀ (k : Nat) (r : List (Option Nat)), r ∈ evs m k → r.length = k
  | 0, r, h => by
    rw [List.mem_singleton.mp h]
    rfl
  | k + 1, r, h => by
    obtain ⟨x, hx, hr⟩ := List.mem_flatMap.mp h
    obtain ⟨o, _, rfl⟩ := List.mem_map.mp hr
    rw [List.length_append, evs_row k x hx]
    rfl
theorem evs_small {k : Nat} (h4 : m ≤ 4) (hk : k ≤ 4) : (evs m k).length ≤ 625 := by
  rw [evs_len]
  have h1 : (m + 1) ^ k ≤ 5 ^ k := Nat.pow_le_pow_left (by omega) k
  have h2 : 5 ^ k ≤ 5 ^ 4 := Nat.pow_le_pow_right (by omega) hk
  omega
abbrev EV (m : Nat) (y1 y2 y3 y4 y5 : Option D) : Dv.Env := [some (.int (m : Nat)), y1, y2, y3, y4, y5]
theorem evC_ok (h4 : m ≤ 4) {y1 y2 : Option D} {acc : List (List (Option Nat))} {r : List (Option Nat)} (ha : acc.length ≤ 10000) (hr : r.length ≤ 100) : evC (EV m y1 y2 (some (.lst (acc.map rowX))) (some (rowX r)) none) S = .ok .next (EV m y1 y2 (some (.lst ((acc ++ ext m r).map rowX))) (some (rowX r)) none) S := by
  have it : mIterX (mBin addXD (mLst (mCons (mC .non) mNil)) (mCall lstRngD (mCons (mVar 0) mNil))) (EV m y1 y2 (some (.lst (acc.map rowX))) (some (rowX r)) none) S = .ok ((opts m).map kD) S := by
    refine itX_of (d := .lst ((opts m).map kD)) ?_ rfl
    refine bin_of (x := .lst [.non]) (y := .lst ((List.range m).map Jt.iD)) (lst_of (cons_of rfl nil_of) (by simp)) (call_of (cons_of (var_of rfl) nil_of) ?_) ?_
    · show (rng1 [.int (m : Nat)]).map D.lst = _
      rw [rng_iD _ (by omega)]
      rfl
    · show addD (.lst [.non]) (.lst ((List.range m).map Jt.iD)) S = _
      rw [addD_lst, if_pos (by rw [List.length_map, List.length_range, List.length_singleton]; omega)]
      unfold opts
      rw [List.map_cons, List.map_map]
      rfl
  have lc := lc_all (gm := tgN 5) (te := mBin addXD (mVar 4) (mTux (mCons (mVar 5) mNil))) (r0 := EV m y1 y2 (some (.lst (acc.map rowX))) (some (rowX r)) none) (S := S) kD (fun o => rowX (r ++ [o])) (opts m) fun o _ => by
    refine ⟨EV m y1 y2 (some (.lst (acc.map rowX))) (some (rowX r)) (some (kD o)), rfl, ?_⟩
    refine bin_of (x := rowX r) (y := .tux [kD o]) (var_of rfl) rfl ?_
    show (if (r.map kD).length + 1 ≤ 100000 then some (D.tux (r.map kD ++ [kD o])) else none) = _
    rw [if_pos (by rw [List.length_map]; omega)]
    unfold rowX
    rw [List.map_append]
    rfl
  refine set_of (bin_of (x := .lst (acc.map rowX)) (y := .lst ((ext m r).map rowX)) (var_of rfl) ?_ ?_)
  · have e := lc_of (im := mIterX (mBin addXD (mLst (mCons (mC .non) mNil)) (mCall lstRngD (mCons (mVar 0) mNil)))) (vs := [5]) (r := EV m y1 y2 (some (.lst (acc.map rowX))) (some (rowX r)) none) it lc
    have ex : (ext m r).map rowX = (opts m).map fun o => rowX (r ++ [o]) := by
      unfold ext
      rw [List.map_map]
      rfl
    rw [ex]
    exact e
  · show addD (.lst (acc.map rowX)) (.lst ((ext m r).map rowX)) S = _
    have := ext_len (m := m) r
    rw [addD_lst, if_pos (by rw [List.length_map, List.length_map]; omega), ← List.map_append]
theorem evC_loop (h4 : m ≤ 4) {y1 y2 : Option D} : ∀ (rs acc : List (List (Option Nat))) (y4 : Option D), (∀ r ∈ rs, r.length ≤ 100) → acc.length + 5 * rs.length ≤ 10000 →
    ∃ z4, sLoop (tgN 4) evC (rs.map rowX) (EV m y1 y2 (some (.lst (acc.map rowX))) y4 none) S = .ok .next (EV m y1 y2 (some (.lst ((acc ++ rs.flatMap (ext m)).map rowX))) z4 none) S
  | [], acc, y4, _, _ => ⟨y4, by rw [List.flatMap_nil, List.append_nil]; rfl⟩
  | r :: rs, acc, y4, h, hl => by
    rw [List.length_cons] at hl
    have e := evC_ok (S := S) (y1 := y1) (y2 := y2) (acc := acc) (r := r) h4 (by omega) (h r List.mem_cons_self)
    have := ext_len (m := m) r
    obtain ⟨z4, e2⟩ := evC_loop h4 (y1 := y1) (y2 := y2) rs (acc ++ ext m r) (some (rowX r)) (fun x hx => h x (List.mem_cons_of_mem _ hx)) (by rw [List.length_append]; omega)
    refine ⟨z4, ?_⟩
    rw [List.map_cons, loop_step (r1 := EV m y1 y2 (some (.lst (acc.map rowX))) (some (rowX r)) none) rfl e, e2, List.flatMap_cons, List.append_assoc]
theorem evB_ok (h4 : m ≤ 4) {k : Nat} (hk : k ≤ 4) {y2 y3 y4 : Option D} : ∃ z3 z4, evB (EV m (some (.lst ((evs m k).map rowX))) y2 y3 y4 none) S = .ok .next (EV m (some (.lst ((evs m (k + 1)).map rowX))) y2 z3 z4 none) S := by
  have sm := evs_small h4 hk
  obtain ⟨z4, e⟩ := evC_loop (S := S) h4 (y1 := some (.lst ((evs m k).map rowX))) (y2 := y2) (evs m k) [] y4 (fun r hr => by rw [evs_row k r hr]; omega) (by rw [List.length_nil]; omega)
  rw [List.nil_append] at e
  have s1 : (sSet 3 (mLst mNil)) (EV m (some (.lst ((evs m k).map rowX))) y2 y3 y4 none) S = .ok .next (EV m (some (.lst ((evs m k).map rowX))) y2 (some (.lst (([] : List (List (Option Nat))).map rowX))) y4 none) S := set_of (lst_of nil_of (by simp))
  have s2 := (for_of (gm := tgN 4) (b := evC) (itX_of (m := mVar 1) (r := EV m (some (.lst ((evs m k).map rowX))) y2 (some (.lst (([] : List (List (Option Nat))).map rowX))) y4 none) (S := S) (d := .lst ((evs m k).map rowX)) (var_of rfl) rfl)).trans e
  refine ⟨some (.lst ((evs m (k + 1)).map rowX)), z4, ?_⟩
  unfold evB
  rw [seq_next s1, seq_next s2]
  exact set_of (var_of rfl)
theorem evB_loop (h4 : m ≤ 4) : ∀ (ks : List Nat) (k : Nat) (y2 y3 y4 : Option D), k + ks.length ≤ 4 → ∃ z2 z3 z4, sLoop (tgN 2) evB (ks.map Jt.iD) (EV m (some (.lst ((evs m k).map rowX))) y2 y3 y4 none) S = .ok .next (EV m (some (.lst ((evs m (k + ks.length)).map rowX))) z2 z3 z4 none) S
  | [], k, y2, y3, y4, _ => ⟨y2, y3, y4, rfl⟩
  | j :: ks, k, y2, y3, y4, h => by
    rw [List.length_cons] at h
    obtain ⟨z3, z4, e⟩ := evB_ok (S := S) h4 (k := k) (by omega) (y2 := some (Jt.iD j)) (y3 := y3) (y4 := y4)
    obtain ⟨w2, w3, w4, e2⟩ := evB_loop h4 ks (k + 1) (some (Jt.iD j)) z3 z4 (by omega)
    refine ⟨w2, w3, w4, ?_⟩
    rw [List.map_cons, loop_step (r1 := EV m (some (.lst ((evs m k).map rowX))) (some (Jt.iD j)) y3 y4 none) rfl e, e2, List.length_cons, show k + 1 + ks.length = k + (ks.length + 1) by omega]
def oneN (r : List (Option Nat)) : Bool := decide ((r.filter fun o => o.isNone).length = 1)
theorem every_ok (h4 : m ≤ 4) : FEvery [.int (m : Nat)] S = .ok (.lst (((evs m m).filter oneN).map rowX)) S := by
  obtain ⟨z2, z3, z4, e⟩ := evB_loop (S := S) h4 (List.range m) 0 none none none (by rw [List.length_range]; omega)
  rw [List.length_range, Nat.zero_add] at e
  have s1 : (sSet 1 (mLst (mCons (mTux mNil) mNil))) (EV m none none none none none) S = .ok .next (EV m (some (.lst ((evs m 0).map rowX))) none none none none) S := rfl
  have s2 := (for_of (gm := tgN 2) (b := evB) (mrng (ms := mCons (mVar 0) mNil) (r := EV m (some (.lst ((evs m 0).map rowX))) none none none none) (S := S) (n := m) (cons_of (var_of rfl) nil_of) (by omega))).trans e
  have lc := lc_src (gm := tgN 4) (tt := evP) (te := mVar 4) (r0 := EV m (some (.lst ((evs m m).map rowX))) z2 z3 none none) (S := S) rowX oneN rowX (evs m m) fun r _ => by
    refine ⟨EV m (some (.lst ((evs m m).map rowX))) z2 z3 (some (rowX r)) none, rfl, ?_, fun _ => var_of rfl⟩
    have l2 := lc_src (gm := tgN 5) (tt := mT (mBin isND (mVar 5) (mC .non))) (te := mC (.int 1)) (r0 := EV m (some (.lst ((evs m m).map rowX))) z2 z3 (some (rowX r)) none) (S := S) kD (fun o => o.isNone) (fun _ => D.int 1) r fun o _ => ⟨EV m (some (.lst ((evs m m).map rowX))) z2 z3 (some (rowX r)) (some (kD o)), rfl, t_of (bin_of (var_of rfl) rfl (isN_kD o)), fun _ => rfl⟩
    refine t_of (bin_of (x := .int (((r.filter fun o => o.isNone).map fun _ => D.int 1).length : Nat)) (call_of (cons_of (lc_of (itX_of (d := rowX r) (var_of rfl) rfl) l2) nil_of) rfl) rfl ?_)
    show some (D.bl (decide ((((r.filter fun o => o.isNone).map fun _ => D.int 1).length : Int) = 1))) = _
    rw [List.length_map]
    congr 2
    exact decide_eq_decide.mpr (by omega)
  refine fn_ret ?_ ⟨EV m (some (.lst ((evs m m).map rowX))) z2 z3 z4 none, ?_⟩
  · show cloL _ (((evs m m).filter oneN).map rowX) = true
    refine (cloL_iff _ _).mpr fun d hd => ?_
    obtain ⟨r, _, rfl⟩ := List.mem_map.mp hd
    show cloL _ (r.map kD) = true
    refine (cloL_iff _ _).mpr fun d hd => ?_
    obtain ⟨o, _, rfl⟩ := List.mem_map.mp hd
    cases o <;> rfl
  · show mEvery (EV m none none none none none) S = _
    unfold mEvery
    rw [seq_next s1, seq_next s2]
    exact ret_of (lc_of (itX_of (d := .lst ((evs m m).map rowX)) (var_of rfl) rfl) lc)
theorem rowX_kd (r : List (Option Nat)) : kd1 (rowX r) = true ∧ kd2 (rowX r) = true := by
  refine ⟨rfl, ?_⟩
  show (r.map kD).all kd1 = true
  rw [List.all_map, List.all_eq_true]
  intro o _
  show kd1 (kD o) = true
  cases o <;> rfl
end
end Re
namespace Jt
open PySem L2 Dv Mw
section
variable {V : List Int} {N : Nat → List Str} {L L' : List Nat} {P : List (Nat × Nat)}
end
section
variable {g : List Int → Nat} {rows : List (List Int)} {r : List Int}
end
end Jt
namespace Dv
open PySem PySem.Spec PyProof.Rows L2
section
end
section
variable {X : Cx} {K : PySem.W.Frag} {mg : Str → Option Value}
end
end Dv
namespace Mw
open PySem L2 Dv
section
variable {most many fu : Nat} {tb : List Bt} {as : List At} {cs : List Ck} {S : Store} {ord : List Str} {d : D}
end
end Mw
namespace Jt
open PySem L2 Dv Mw
section
variable {most many : Nat} {tb : List Bt} {as : List At} {cs : List Ck} {S T : Store} {bk tr ai : D} {y4 y7 y8 y9 y10 y11 y12 y13 y14 : Option D} {nm : D} {fl : Nat} {c i : Nat}
end
end Jt
namespace Dv
open PySem PySem.Spec PyProof.Rows L2
section
variable {X : Cx} {Wx : WX} {e : Expr} {ms : AM} {pos p tpos : Pos} {elts : List Expr} {kk : Nat}
end
end Dv
namespace Qw
open PySem L2 Dv Mw Jt
section
variable {S : Store} {ns : List Int} {n t : Nat}
theorem er_perm {α : Type} : ∀ (l : List α) (q : Nat) (h : q < l.length), (l[q] :: l.eraseIdx q).Perm l
  | x :: l, 0, _ => List.Perm.refl _
  | x :: l, q + 1, h => (List.Perm.swap x (l[q]'(Nat.lt_of_succ_lt_succ h)) _).trans ((er_perm l q (Nat.lt_of_succ_lt_succ h)).cons x)
theorem mixD_ok {fu : Nat} (h63 : ns.length ≤ 63) {d0 : D} {xs : List D} (hd0 : lstN [d0] S = some xs) (hcl : ∀ m, cloL m xs = true) (hl : xs.length < fu) (hx : xs.length ≤ 100) (tw : Twn t n S) (hn : n ≤ 20000) : ∃ (ys : List D) (S' : Store), FMixed fu [.scr ns, .loc t, d0] S = .ok (.lst ys) S' ∧ ys.Perm xs ∧ Twn t (n + 2 * xs.length) S' ∧ Dif t S S' := by
  have ht := twn_lt tw
  obtain ⟨r', S1, e, ys, ⟨rfl, hS1⟩, h1, h3, h4, h5⟩ := whl_inv (c := mTru (mVar 3)) (b := mMxB)
    (fun k r S' => ∃ rest ys : List D, (r = [some (.scr ns), some (.loc t), some d0, some (.loc S.length), some (.loc (S.length + 1))] ∧ S'[S.length]? = some (.lst rest) ∧ S'[S.length + 1]? = some (.lst ys)) ∧ rest.length = k ∧ (ys ++ rest).Perm xs ∧ ys.length + rest.length = xs.length ∧ Twn t (n + 2 * ys.length) S' ∧ S'.length = S.length + 2 ∧ ∀ i, i < S.length → i ≠ t → S'[i]? = S[i]?)
    (fun r S' => ∃ ys : List D, (r = [some (.scr ns), some (.loc t), some d0, some (.loc S.length), some (.loc (S.length + 1))] ∧ S'[S.length + 1]? = some (.lst ys)) ∧ ys.Perm xs ∧ Twn t (n + 2 * xs.length) S' ∧ S'.length = S.length + 2 ∧ ∀ i, i < S.length → i ≠ t → S'[i]? = S[i]?)
    (fun k r S2 hI => by
      obtain ⟨rest, ys, ⟨rfl, hA, hB⟩, hk, hr, hsum, tw2, hlen, keep⟩ := hI
      cases rest with
      | nil =>
        refine .inl ⟨by simp [hA], ys, ⟨rfl, hB⟩, by simpa using hr, tw2.mono ?_, hlen, keep⟩
        simp at hsum
        omega
      | cons z0 zr =>
        refine .inr ⟨by simp [hA], ?_⟩
        rw [List.length_cons] at hsum hk
        obtain ⟨q, S3, hq, tw3, df, e3⟩ := draw_tw (many := ((zr.length + 1 : Nat) : Int)) h63 tw2 (by omega) (by omega)
        have hq2 : q < (z0 :: zr).length := by rw [List.length_cons]; omega
        have hA3 : S3[S.length]? = some (.lst (z0 :: zr)) := by rw [df.other (by omega)]; exact hA
        have hB3 : S3[S.length + 1]? = some (.lst ys) := by rw [df.other (by omega)]; exact hB
        have hget : (z0 :: zr)[q]? = some (z0 :: zr)[q] := List.getElem?_eq_getElem hq2
        have hBn : (List.set S3 S.length (.lst ((z0 :: zr).eraseIdx q)))[S.length + 1]? = some (.lst ys) := by rw [List.getElem?_set_ne (by omega)]; exact hB3
        have hyl : ys.length < 100000 := by omega
        have hql : (q : Int) < 100000 := by omega
        have pa : popAtD (.loc S.length) (.int q) S3 = .ok (z0 :: zr)[q] (List.set S3 S.length (.lst ((z0 :: zr).eraseIdx q))) := by
          show (match S3[S.length]? with
            | some (.lst xs) => if 0 ≤ (q : Int) ∧ (q : Int) < 100000 then (match xs[(q : Int).toNat]? with
              | some y => R.ok y (List.set S3 S.length (.lst (xs.eraseIdx (q : Int).toNat)))
              | none => R.bad) else R.bad
            | _ => R.bad) = _
          rw [hA3]
          simp only [if_pos (show 0 ≤ (q : Int) ∧ (q : Int) < 100000 from ⟨by omega, hql⟩), Int.toNat_natCast, hget]
        refine ⟨_, List.set (List.set S3 S.length (.lst ((z0 :: zr).eraseIdx q))) (S.length + 1) (.lst (ys ++ [(z0 :: zr)[q]])), ((z0 :: zr).eraseIdx q).length, ?_, ?_, (z0 :: zr).eraseIdx q, ys ++ [(z0 :: zr)[q]], ⟨rfl, ?_, ?_⟩, rfl, ?_, ?_, ?_, ?_, fun i h1 h2 => ?_⟩
        · have ln : lenD [.loc S.length] S2 = some (.int ((zr.length + 1 : Nat) : Int)) := by simp [hA]
          have mp : mPopAt (mVar 3) (mApp 3 FDraw (mCons (mVar 0) (mCons (mVar 1) (mCons (mCall lenD (mCons (mVar 3) mNil)) mNil)))) [some (.scr ns), some (.loc t), some d0, some (.loc S.length), some (.loc (S.length + 1))] S2 = .ok (z0 :: zr)[q] (List.set S3 S.length (.lst ((z0 :: zr).eraseIdx q))) := by
            have il : isLoc (.loc S.length) S2 = true := by rw [isLoc_ap, hA]
            show (if isLoc (.loc S.length) S2 = true then ((mApp 3 FDraw (mCons (mVar 0) (mCons (mVar 1) (mCons (mCall lenD (mCons (mVar 3) mNil)) mNil)))) [some (.scr ns), some (.loc t), some d0, some (.loc S.length), some (.loc (S.length + 1))] S2).bind (fun d S4 => popAtD (.loc S.length) d S4) else .bad) = _
            rw [if_pos il]
            have : (mApp 3 FDraw (mCons (mVar 0) (mCons (mVar 1) (mCons (mCall lenD (mCons (mVar 3) mNil)) mNil)))) [some (.scr ns), some (.loc t), some d0, some (.loc S.length), some (.loc (S.length + 1))] S2 = .ok (.int q) S3 := by
              simp only [mApp_ap, mCons_ap, mVar_ap, mCall_ap, mNil_ap, List.getElem?_cons_zero, List.getElem?_cons_succ, rb_ok, ln, ofO_some]
              exact e3
            rw [this]
            exact pa
          unfold mMxB
          simp only [sDrop_ap, mAppend_ap, mVar_ap, List.getElem?_cons_zero, List.getElem?_cons_succ, rb_ok, isLoc_ap, hB, if_true, mp, appD_ap, hBn, if_pos hyl]
          rfl
        · rw [List.length_eraseIdx_of_lt hq2, List.length_cons]; omega
        · rw [List.getElem?_set_ne (by omega), List.getElem?_set_self (by rw [df.len, hlen]; omega)]
        · rw [List.getElem?_set_self (by rw [List.length_set, df.len, hlen]; omega)]
        · refine List.Perm.trans ?_ hr
          rw [List.append_assoc]
          exact List.Perm.append_left ys (er_perm _ q hq2)
        · rw [List.length_append, List.length_singleton, List.length_eraseIdx_of_lt hq2, List.length_cons]; omega
        · rw [List.length_append, List.length_singleton]
          exact twn_set (by omega) (twn_set (by omega) (tw3.mono (by omega)))
        · rw [List.length_set, List.length_set, df.len, hlen]
        · rw [List.getElem?_set_ne (by omega), List.getElem?_set_ne (by omega), df.other h2, keep i h1 h2])
    fu xs.length [some (.scr ns), some (.loc t), some d0, some (.loc S.length), some (.loc (S.length + 1))] (S ++ [.lst xs] ++ [.lst []]) hl
    ⟨xs, [], ⟨rfl, by simp, by simp⟩, rfl, by simp, by simp, twn_app (twn_app tw), by simp, fun i h1 _ => by rw [List.append_assoc, List.getElem?_append_left h1]⟩
  have hcy : cloL S.length ys = true := (cloL_iff _ _).mpr fun d hd => (cloL_iff _ _).mp (hcl S.length) d (h1.mem_iff.mp hd)
  obtain ⟨S', ef, tw', d'⟩ := fin_difz (S := S) (S1 := S1) (n := n + 2 * xs.length) (rho := [some (.scr ns), some (.loc t), some d0, some (.loc S.length), some (.loc (S.length + 1))]) (d := .loc (S.length + 1)) (d' := .lst ys) ht (by omega) h3 h5 (by
    show (if S.length + 1 < S.length then _ else match S1[S.length + 1]? with
      | some (.lst ds) => if cloL S.length ds = true then some (D.lst ds) else none
      | some (.dct kvs) => if cloK S.length kvs = true then some (D.dct kvs) else none
      | some (.dtt kvs) => if cloT S.length kvs = true then some (D.dtt kvs) else none
      | _ => none) = _
    rw [if_neg (by omega), hS1]
    exact if_pos hcy)
  refine ⟨ys, S', ?_, h1, tw', d'⟩
  show finT S (mMixed fu (frame 5 _) S) = _
  have efr : frame 5 [.scr ns, .loc t, d0] = [some (.scr ns), some (.loc t), some d0, none, none] := rfl
  have eb : mMixed fu [some (.scr ns), some (.loc t), some d0, none, none] S = .ok (.ret (.loc (S.length + 1))) [some (.scr ns), some (.loc t), some d0, some (.loc S.length), some (.loc (S.length + 1))] S1 := by
    have e' : sWhile (mTru (mVar 3)) mMxB fu [some (.scr ns), some (.loc t), some d0, some (.loc S.length), some (.loc (S.length + 1))] (S ++ [.lst xs, .lst []]) = .ok .next [some (.scr ns), some (.loc t), some d0, some (.loc S.length), some (.loc (S.length + 1))] S1 := by
      have := e
      rw [List.append_assoc] at this
      exact this
    unfold mMixed
    simp [hd0, e']
  rw [efr, eb]
  exact ef
end
end Qw
namespace Qw
open PySem L2 Dv Mw Jt
abbrev five : List Str := ["a", "b", "c", "d", "e"]
def T5 : Tm → Prop
  | .nm x => x ∈ five
  | .vl i => 0 ≤ i ∧ i < 2
structure Own (ts : List Tm) : Prop where
  ok : ∀ t ∈ ts, T5 t
  has : ∃ x, Tm.nm x ∈ ts
def w1 : SM := (sSet 6 (mApp 3 FPick (mCons (mVar 0) (mCons (mVar 1) (mCons (mLst (mCons (mC (.int 1)) (mCons (mC (.int 2)) (mCons (mC (.int 2)) (mCons (mC (.int 2)) (mCons (mC (.int 3)) mNil)))))) mNil)))))
def w2 (fu : Nat) : SM := (sSet 7 (mSl (mApp 3 (FMixed fu) (mCons (mVar 0) (mCons (mVar 1) (mCons (mSl (mVar 4) mNoP (mP (mBin addD (mC (.int 2)) (mApp 3 FDraw (mCons (mVar 0) (mCons (mVar 1) (mCons (mC (.int 4)) mNil))))))) mNil)))) mNoP (mP (mVar 6))))
def w3 (fu : Nat) : SM := (sIf (mAndT (mT (mBin gtD (mVar 3) (mC (.int 0)))) (mT (mBin eqD (mApp 3 FDraw (mCons (mVar 0) (mCons (mVar 1) (mCons (mC (.int 3)) mNil)))) (mC (.int 0))))) (sSet 7 (mSl (mBin addD (mSl (mApp 3 (FMixed fu) (mCons (mVar 0) (mCons (mVar 1) (mCons (mBin ixD (mBin ixD (mVar 5) (mUn negD (mC (.int 1)))) (mC (.int 1))) mNil)))) mNoP (mP (mC (.int 1)))) (mVar 7)) mNoP (mP (mC (.int 3))))) sNil)
def w4 : SM := (sSet 7 (mBin addD (mVar 7) (mBin mulD (mLst (mCons (mApp 3 FDraw (mCons (mVar 0) (mCons (mVar 1) (mCons (mC (.int 2)) mNil)))) mNil)) (mCall intD (mCons (mBin eqD (mApp 3 FDraw (mCons (mVar 0) (mCons (mVar 1) (mCons (mC (.int 6)) mNil)))) (mC (.int 0))) mNil)))))
def w5 : SM := (sDrop (mAppend (mVar 5) (mTup (mCons (mBin ixD (mC (.str "pqrst")) (mBin subD (mCall lenD (mCons (mVar 7) mNil)) (mC (.int 1)))) (mCons (mCall tupD (mCons (mVar 7) mNil)) mNil)))))
def wB (fu : Nat) : SM := sSeq w1 (sSeq (w2 fu) (sSeq (w3 fu) (sSeq w4 w5)))
def mWeb (fu : Nat) : SM :=
    (sSeq (sPar 4 5 (mCons (mLst (mCons (mC (.str "a")) (mCons (mC (.str "b")) (mCons (mC (.str "c")) (mCons (mC (.str "d")) (mCons (mC (.str "e")) mNil)))))) (mCons (mNewL mNil) mNil)))
    (sSeq (sFor (mRng1 (mCons (mBin addD (mC (.int 1)) (mApp 3 FDraw (mCons (mVar 0) (mCons (mVar 1) (mCons (mVar 2) mNil))))) mNil)) (tgN 3) (wB fu))
    (sRet (mTup (mCons (mCall tupD (mCons (mVar 5) mNil)) (mCons (mTup mNil) mNil))))))
def FWeb (fu : Nat) : List D → Store → R D := runT 8 (mWeb fu)
abbrev WE (ns : List Int) (t : Nat) (k : Option D) (L : Nat) (y6 y7 : Option D) : Dv.Env := [some (.scr ns), some (.loc t), some (.int 4), k, some (.lst (five.map D.str)), some (.loc L), y6, y7]
def wrd (i : Nat) : Str := ((["p", "q", "r", "s", "t"] : List Str)[i]?).getD "p"
structure WebA (a : At) : Prop where
  own : Own a.ts
  lo : 1 ≤ a.ts.length
  hi : a.ts.length ≤ 4
  w : a.w = wrd (a.ts.length - 1)
section
variable {S : Store} {ns : List Int} {n t L fu : Nat} {y3 y6 y7 : Option D}
theorem tms_of {ts : List Tm} : ∀ {ds : List D}, (∀ d ∈ ds, d ∈ ts.map trD) → ∃ m : List Tm, ds = m.map trD ∧ ∀ z ∈ m, z ∈ ts
  | [], _ => ⟨[], rfl, by simp⟩
  | d :: ds, h => by
    obtain ⟨l, hl, rfl⟩ := List.mem_map.mp (h d List.mem_cons_self)
    obtain ⟨m, rfl, hm⟩ := tms_of (ts := ts) fun e he => h e (List.mem_cons_of_mem _ he)
    exact ⟨l :: m, rfl, fun z hz => by
      rcases List.mem_cons.mp hz with rfl | hz
      · exact hl
      · exact hm z hz⟩
theorem w1_ok (h63 : ns.length ≤ 63) (tw : Twn t n S) (hn : n ≤ 20000) : ∃ (k : Nat) (S' : Store), 1 ≤ k ∧ k ≤ 3 ∧ w1 (WE ns t y3 L y6 y7) S = .ok .next (WE ns t y3 L (some (.int k)) y7) S' ∧ Twn t (n + 2) S' ∧ Dif t S S' := by
  obtain ⟨i, d, S1, hd, tw1, d1, e1⟩ := pick_tw (seq := .lst [.int 1, .int 2, .int 2, .int 2, .int 3]) h63 tw (by omega) (.inl rfl) (by simp) (fun m => rfl)
  obtain ⟨wd, hk0, hk, rfl⟩ : ∃ k : Nat, 1 ≤ k ∧ k ≤ 3 ∧ d = .int k := by
    match i, hd with
    | 0, hd => cases hd; exact ⟨1, by omega, by omega, rfl⟩
    | 1, hd => cases hd; exact ⟨2, by omega, by omega, rfl⟩
    | 2, hd => cases hd; exact ⟨2, by omega, by omega, rfl⟩
    | 3, hd => cases hd; exact ⟨2, by omega, by omega, rfl⟩
    | 4, hd => cases hd; exact ⟨3, by omega, by omega, rfl⟩
    | i + 5, hd => cases hd
  refine ⟨wd, S1, hk0, hk, ?_, tw1, d1⟩
  unfold w1
  simp [e1]
theorem w2_ok (h63 : ns.length ≤ 63) (hfu : 10 < fu) (tw : Twn t n S) (hn : n ≤ 19000) {k : Nat} (h1 : 1 ≤ k) (h3 : k ≤ 3) : ∃ (ts : List Tm) (S' : Store), Own ts ∧ (∀ z ∈ ts, ∃ x, z = Tm.nm x) ∧ 1 ≤ ts.length ∧ ts.length ≤ 3 ∧ w2 fu (WE ns t y3 L (some (.int k)) y7) S = .ok .next (WE ns t y3 L (some (.int k)) (some (.lst (ts.map trD)))) S' ∧ Twn t (n + 14) S' ∧ Dif t S S' := by
  obtain ⟨r, S1, hr, tw1, d1, e1⟩ := draw_tw (many := 4) h63 tw (by omega) (by decide)
  have e1 : FDraw [.scr ns, .loc t, .int 4] S = .ok (.int r) S1 := e1
  have sl1 : slD (.lst (five.map D.str)) none (some (2 + (r : Int))) S1 = some (.lst ((five.take (2 + r)).map D.str)) := by
    show some (D.lst (cutL (five.map D.str) none (some (2 + (r : Int))))) = _
    have e : (2 + (r : Int)) = ((2 + r : Nat) : Int) := by omega
    rw [e, cut_take, List.map_take]
  have l5 : (five.take (2 + r)).length ≤ 5 := by rw [List.length_take]; exact Nat.min_le_right _ _
  obtain ⟨ys, S2, e2, pm, tw2, d2⟩ := mixD_ok (fu := fu) (d0 := .lst ((five.take (2 + r)).map D.str)) (xs := (five.take (2 + r)).map D.str) h63 rfl (fun m => cloL_strs m _) (by rw [List.length_map]; omega) (by rw [List.length_map]; omega) tw1 (by omega)
  rw [List.length_map] at tw2
  have sl2 : slD (.lst ys) none (some (k : Int)) S2 = some (.lst (ys.take k)) := by
    show some (D.lst (cutL ys none (some (k : Int)))) = _
    rw [cut_take]
  obtain ⟨ts, ets, hts⟩ := tms_of (ts := five.map Tm.nm) (ds := ys.take k) fun d hd => by
    have := pm.mem_iff.mp (List.mem_of_mem_take hd)
    obtain ⟨x, hx, rfl⟩ := List.mem_map.mp this
    exact List.mem_map.mpr ⟨.nm x, List.mem_map_of_mem (List.mem_of_mem_take hx), rfl⟩
  have hyl : ys.length = (five.take (2 + r)).length := by rw [pm.length_eq, List.length_map]
  have htl : ts.length = min k ys.length := by
    have := congrArg List.length ets
    rw [List.length_take, List.length_map] at this
    exact this.symm
  have hy2 : 2 ≤ ys.length := by
    rw [hyl, List.length_take]
    show 2 ≤ min (2 + r) 5
    omega
  refine ⟨ts, S2, ⟨fun z hz => ?_, ?_⟩, fun z hz => ?_, by omega, by omega, ?_, tw2.mono (by omega), d1.trans d2⟩
  · obtain ⟨x, hx, rfl⟩ := List.mem_map.mp (hts z hz)
    exact hx
  · obtain ⟨z, hz⟩ := List.exists_mem_of_length_pos (l := ts) (by omega)
    obtain ⟨x, hx, rfl⟩ := List.mem_map.mp (hts z hz)
    exact ⟨x, hz⟩
  · obtain ⟨x, hx, rfl⟩ := List.mem_map.mp (hts z hz)
    exact ⟨x, rfl⟩
  · rw [ets] at sl2
    generalize (five.take (2 + r)).map D.str = W at sl1 e2
    generalize ts.map trD = W2 at sl2 ⊢
    unfold WE
    generalize five.map D.str = W3 at sl1 ⊢
    unfold w2
    simp [e1, sl1, e2, sl2, -slD_lst]
theorem w3_ok (h63 : ns.length ≤ 63) (hfu : 10 < fu) (tw : Twn t n S) (hn : n ≤ 19000) (hL : L ≠ t) {k : Nat} {ats : List At} (ha : ∀ a ∈ ats, WebA a) (hk : 0 < k → ats ≠ []) (hS : S[L]? = some (.lst (ats.map atD))) {ts : List Tm} (ho : Own ts) (hnm : ∀ z ∈ ts, ∃ x, z = Tm.nm x) (h1 : 1 ≤ ts.length) (h3 : ts.length ≤ 3) :
    ∃ (ts' : List Tm) (S' : Store), Own ts' ∧ 1 ≤ ts'.length ∧ ts'.length ≤ 3 ∧ w3 fu (WE ns t (some (.int (k : Nat))) L y6 (some (.lst (ts.map trD)))) S = .ok .next (WE ns t (some (.int (k : Nat))) L y6 (some (.lst (ts'.map trD)))) S' ∧ Twn t (n + 10) S' ∧ Dif t S S' := by
  have gt : gtD (.int (k : Int)) (.int 0) S = some (.bl (decide (0 < (k : Int)))) := rfl
  by_cases hk0 : 0 < k
  · rw [decide_eq_true (by omega : 0 < (k : Int))] at gt
    obtain ⟨r, S1, hr, tw1, d1, e1⟩ := draw_tw (many := 3) h63 tw (by omega) (by decide)
    have e1 : FDraw [.scr ns, .loc t, .int 3] S = .ok (.int r) S1 := e1
    by_cases c : r = 0
    · subst c
      have eq0 : eqD (.int ((0 : Nat) : Int)) (.int 0) S1 = some (.bl true) := rfl
      have hS1 : S1[L]? = some (.lst (ats.map atD)) := by rw [d1.other hL]; exact hS
      obtain ⟨bs, a, rfl⟩ : ∃ bs a, ats = bs ++ [a] := ⟨_, _, (List.dropLast_concat_getLast (hk hk0)).symm⟩
      have hA := ha a (by simp)
      have i1 : ixD (.loc L) (.int (-1)) S1 = some (atD a) := by
        show (match S1[L]? with
          | some (.lst xs) => atI xs (-1)
          | _ => none) = _
        rw [hS1, List.map_append]
        exact atI_last _ _
      have i2 : ixD (atD a) (.int 1) S1 = some (.tup (a.ts.map trD)) := rfl
      obtain ⟨ys, S2, e2, pm, tw2, d2⟩ := mixD_ok (fu := fu) (d0 := .tup (a.ts.map trD)) (xs := a.ts.map trD) h63 rfl (fun m => cloL_trs m _) (by rw [List.length_map]; have := hA.hi; omega) (by rw [List.length_map]; have := hA.hi; omega) tw1 (by omega)
      rw [List.length_map] at tw2
      obtain ⟨zs, ez, hz⟩ := tms_of (ts := a.ts) (ds := ys.take 1) fun d hd => pm.mem_iff.mp (List.mem_of_mem_take hd)
      have sl1 : slD (.lst ys) none (some 1) S2 = some (.lst (zs.map trD)) := by
        show some (D.lst (cutL ys none (some ((1 : Nat) : Int)))) = _
        rw [cut_take, ez]
      have hzl : zs.length ≤ 1 := by
        have := congrArg List.length ez
        rw [List.length_take, List.length_map] at this
        omega
      have ad : addD (.lst (zs.map trD)) (.lst (ts.map trD)) S2 = some (.lst ((zs ++ ts).map trD)) := by
        rw [addD_lst, if_pos (by rw [List.length_map, List.length_map]; omega), List.map_append]
      have sl2 : slD (.lst ((zs ++ ts).map trD)) none (some 3) S2 = some (.lst (((zs ++ ts).take 3).map trD)) := by
        show some (D.lst (cutL ((zs ++ ts).map trD) none (some ((3 : Nat) : Int)))) = _
        rw [cut_take, List.map_take]
      have ln : ((zs ++ ts).take 3).length = min 3 (zs.length + ts.length) := by rw [List.length_take, List.length_append]
      refine ⟨(zs ++ ts).take 3, S2, ⟨fun z hz2 => ?_, ?_⟩, by omega, by omega, ?_, tw2.mono (by have := hA.hi; omega), d1.trans d2⟩
      · rcases List.mem_append.mp (List.mem_of_mem_take hz2) with h | h
        · exact hA.own.ok z (hz z h)
        · exact ho.ok z h
      · obtain ⟨u, us, rfl⟩ : ∃ u us, ts = u :: us := by
          cases ts with
          | nil => simp at h1
          | cons u us => exact ⟨u, us, rfl⟩
        obtain ⟨x, rfl⟩ := hnm u List.mem_cons_self
        refine ⟨x, ?_⟩
        match zs, hzl with
        | [], _ => simp
        | [z], _ => simp
      · have ug : negD (.int 1) S1 = some (.int (-1)) := rfl
        generalize ts.map trD = W at ad ⊢
        generalize a.ts.map trD = W2 at i2 e2
        generalize zs.map trD = W3 at sl1 ad
        generalize (zs ++ ts).map trD = W4 at ad sl2
        generalize ((zs ++ ts).take 3).map trD = W5 at sl2 ⊢
        unfold w3
        simp [gt, e1, eq0, ug, i1, i2, e2, sl1, ad, sl2, -slD_lst, -addD_lst, -gtD_int, -ixD_loc]
    · have eq0 : eqD (.int (r : Int)) (.int 0) S1 = some (.bl false) := by simp [c]
      refine ⟨ts, S1, ho, h1, h3, ?_, tw1.mono (by omega), d1⟩
      generalize ts.map trD = W
      unfold w3
      simp [gt, e1, eq0, c, -gtD_int]
  · rw [decide_eq_false (by omega : ¬ 0 < (k : Int))] at gt
    refine ⟨ts, S, ho, h1, h3, ?_, tw.mono (by omega), tw.dif⟩
    generalize ts.map trD = W
    unfold w3
    simp [gt, -gtD_int]
theorem w4_ok (h63 : ns.length ≤ 63) (tw : Twn t n S) (hn : n ≤ 19000) {ts : List Tm} (ho : Own ts) (h1 : 1 ≤ ts.length) (h3 : ts.length ≤ 3) :
    ∃ (ts' : List Tm) (S' : Store), Own ts' ∧ 1 ≤ ts'.length ∧ ts'.length ≤ 4 ∧ w4 (WE ns t y3 L y6 (some (.lst (ts.map trD)))) S = .ok .next (WE ns t y3 L y6 (some (.lst (ts'.map trD)))) S' ∧ Twn t (n + 4) S' ∧ Dif t S S' := by
  obtain ⟨i, S1, hi, tw1, d1, e1⟩ := draw_tw (many := 2) h63 tw (by omega) (by decide)
  have e1 : FDraw [.scr ns, .loc t, .int 2] S = .ok (.int i) S1 := e1
  obtain ⟨r, S2, hr, tw2, d2, e2⟩ := draw_tw (many := 6) h63 tw1 (by omega) (by decide)
  have e2 : FDraw [.scr ns, .loc t, .int 6] S1 = .ok (.int r) S2 := e2
  by_cases c : r = 0
  · subst c
    have m1 : mulD (.lst [.int (i : Int)]) (.int 1) S2 = some (.lst [.int (i : Int)]) := rfl
    have ad : addD (.lst (ts.map trD)) (.lst [.int (i : Int)]) S2 = some (.lst ((ts ++ [Tm.vl (i : Int)]).map trD)) := by
      rw [addD_lst, if_pos (by rw [List.length_map, List.length_singleton]; omega), List.map_append]
      rfl
    refine ⟨ts ++ [.vl (i : Int)], S2, ⟨fun z hz => ?_, ?_⟩, by rw [List.length_append]; omega, by rw [List.length_append, List.length_singleton]; omega, ?_, tw2.mono (by omega), d1.trans d2⟩
    · rcases List.mem_append.mp hz with h | h
      · exact ho.ok z h
      · rw [List.mem_singleton.mp h]
        exact ⟨by omega, by omega⟩
    · obtain ⟨x, hx⟩ := ho.has
      exact ⟨x, List.mem_append_left _ hx⟩
    · have eq0 : eqD (.int ((0 : Nat) : Int)) (.int 0) S2 = some (.bl true) := rfl
      generalize ts.map trD = W at ad ⊢
      generalize (ts ++ [Tm.vl (i : Int)]).map trD = W2 at ad ⊢
      unfold w4
      simp [e1, e2, eq0, m1, ad, -addD_lst, -mulD_lst]
  · have m1 : mulD (.lst [.int (i : Int)]) (.int 0) S2 = some (.lst []) := rfl
    have ad : addD (.lst (ts.map trD)) (.lst []) S2 = some (.lst (ts.map trD)) := by
      rw [addD_lst, if_pos (by rw [List.length_map, List.length_nil]; omega), List.append_nil]
    refine ⟨ts, S2, ho, h1, by omega, ?_, tw2.mono (by omega), d1.trans d2⟩
    have eq0 : eqD (.int (r : Int)) (.int 0) S2 = some (.bl false) := by simp [c]
    generalize ts.map trD = W at ad ⊢
    unfold w4
    simp [e1, e2, eq0, c, m1, ad, -addD_lst, -mulD_lst]
theorem wrd_ix {j : Nat} (h : j < 5) : ixD (.str "pqrst") (.int (j : Nat)) S = some (.str (wrd j)) := by
  match j, h with
  | 0, _ => rfl
  | 1, _ => rfl
  | 2, _ => rfl
  | 3, _ => rfl
  | 4, _ => rfl
theorem w5_ok {ats : List At} (hl : ats.length ≤ 100) (hS : S[L]? = some (.lst (ats.map atD))) {ts : List Tm} (h1 : 1 ≤ ts.length) (h4 : ts.length ≤ 4) :
    w5 (WE ns t y3 L y6 (some (.lst (ts.map trD)))) S = .ok .next (WE ns t y3 L y6 (some (.lst (ts.map trD)))) (List.set S L (.lst ((ats ++ [(⟨wrd (ts.length - 1), ts⟩ : At)]).map atD))) := by
  have ln : lenD [.lst (ts.map trD)] S = some (.int (ts.length : Nat)) := by
    show some (D.int ((ts.map trD).length : Nat)) = _
    rw [List.length_map]
  have sb : subD (.int (ts.length : Nat)) (.int 1) S = some (.int ((ts.length - 1 : Nat) : Int)) := by
    show some (D.int ((ts.length : Int) - 1)) = _
    rw [show (ts.length : Int) - 1 = ((ts.length - 1 : Nat) : Int) by omega]
  have ix := wrd_ix (S := S) (j := ts.length - 1) (by omega)
  have tp : tupD [.lst (ts.map trD)] S = some (.tup (ts.map trD)) := rfl
  have em : (ats ++ [(⟨wrd (ts.length - 1), ts⟩ : At)]).map atD = ats.map atD ++ [.tup [.str (wrd (ts.length - 1)), .tup (ts.map trD)]] := by
    rw [List.map_append]
    rfl
  have hl2 : (ats.map atD).length < 100000 := by rw [List.length_map]; omega
  rw [em]
  generalize ats.map atD = W2 at hS hl2 ⊢
  generalize ts.map trD = W at ln tp ⊢
  unfold w5
  simp [hS, hl2, ln, sb, ix, tp, -lenD_lst, -subD_int, -tupD_lst]
theorem wB_ok (h63 : ns.length ≤ 63) (hfu : 10 < fu) (tw : Twn t n S) (hn : n ≤ 18000) (hL : L ≠ t) {k : Nat} {ats : List At} (ha : ∀ a ∈ ats, WebA a) (hl : ats.length ≤ 50) (hk : 0 < k → ats ≠ []) (hS : S[L]? = some (.lst (ats.map atD))) :
    ∃ (a : At) (S' : Store) (z6 z7 : Option D), WebA a ∧ wB fu (WE ns t (some (.int (k : Nat))) L y6 y7) S = .ok .next (WE ns t (some (.int (k : Nat))) L z6 z7) S' ∧ Twn t (n + 40) S' ∧ S'[L]? = some (.lst ((ats ++ [a]).map atD)) ∧ S'.length = S.length ∧ ∀ i, i ≠ t → i ≠ L → S'[i]? = S[i]? := by
  obtain ⟨sz, S1, s1, s3, tw1, u1, e1⟩ : ∃ (sz : Nat) (S1 : Store), 1 ≤ sz ∧ sz ≤ 3 ∧ Twn t (n + 2) S1 ∧ Dif t S S1 ∧ w1 (WE ns t (some (.int (k : Nat))) L y6 y7) S = .ok .next (WE ns t (some (.int (k : Nat))) L (some (.int sz)) y7) S1 := by
    obtain ⟨sz, S1, a, b, c, d, e⟩ := w1_ok (S := S) (n := n) (L := L) (y3 := some (.int (k : Nat))) (y6 := y6) (y7 := y7) h63 tw (by omega)
    exact ⟨sz, S1, a, b, d, e, c⟩
  obtain ⟨ts, S2, o2, nm2, l2, l3, e2, tw2, u2⟩ := w2_ok (S := S1) (L := L) (y3 := some (.int (k : Nat))) (y7 := y7) h63 hfu tw1 (by omega) s1 s3
  have hS2 : S2[L]? = some (.lst (ats.map atD)) := by rw [(u1.trans u2).other hL]; exact hS
  obtain ⟨ts3, S3, o3, a3, b3, e3, tw3, u3⟩ := w3_ok (S := S2) (y6 := some (.int sz)) h63 hfu tw2 (by omega) hL ha hk hS2 o2 nm2 l2 l3
  obtain ⟨ts4, S4, o4, a4, b4, e4, tw4, u4⟩ := w4_ok (S := S3) (L := L) (y3 := some (.int (k : Nat))) (y6 := some (.int sz)) h63 tw3 (by omega) o3 a3 b3
  have u := ((u1.trans u2).trans u3).trans u4
  have hS4 : S4[L]? = some (.lst (ats.map atD)) := by rw [u.other hL]; exact hS
  have e5 := w5_ok (S := S4) (ns := ns) (t := t) (y3 := some (.int (k : Nat))) (y6 := some (.int sz)) (by omega : ats.length ≤ 100) hS4 a4 b4
  have hLl : L < S4.length := (List.getElem?_eq_some_iff.mp hS4).1
  refine ⟨⟨wrd (ts4.length - 1), ts4⟩, _, some (.int sz), some (.lst (ts4.map trD)), ⟨o4, a4, b4, rfl⟩, ?_, twn_set hL (tw4.mono (by omega)), List.getElem?_set_self hLl, by rw [List.length_set, u.len], fun i h1 h2 => ?_⟩
  · unfold wB
    rw [seq_ok e1, seq_ok e2, seq_ok e3, seq_ok e4]
    exact e5
  · rw [List.getElem?_set_ne (fun q => h2 q.symm), u.other h1]
theorem web_ok (h63 : ns.length ≤ 63) (hfu : 10 < fu) (tw : Twn t n S) (hn : n ≤ 17000) : ∃ (as : List At) (S' : Store), (∀ a ∈ as, WebA a) ∧ 1 ≤ as.length ∧ as.length ≤ 4 ∧ FWeb fu [.scr ns, .loc t, .int 4] S = .ok (askD as []) S' ∧ Twn t (n + 200) S' ∧ Dif t S S' := by
  have ht := twn_lt tw
  obtain ⟨m, S1, hm, tw1, d1, e1⟩ := draw_tw (S := S ++ [.lst []]) (many := 4) h63 (twn_app (E := [.lst []]) tw) (by omega) (by decide)
  have e1 : FDraw [.scr ns, .loc t, .int 4] (S ++ [.lst []]) = .ok (.int m) S1 := e1
  have hS1 : S1[S.length]? = some (.lst []) := by rw [d1.other (by omega)]; simp
  obtain ⟨r', S2, e, ats, z3, z6, z7, rfl, ha, hl, tw2, hS2, sl, ot⟩ := loop_inv (gm := tgN 3) (b := wB fu)
    (fun i r S' => ∃ (ats : List At) (z3 z6 z7 : Option D), r = WE ns t z3 S.length z6 z7 ∧ (∀ a ∈ ats, WebA a) ∧ ats.length = i ∧ Twn t (n + 2 + 40 * i) S' ∧ S'[S.length]? = some (.lst (ats.map atD)) ∧ S'.length = S.length + 1 ∧ ∀ i, i < S.length → i ≠ t → S'[i]? = S[i]?)
    (rng 0 (1 + m)) 0 (WE ns t none S.length none none) S1 (fun i d r S' hd hi => by
      obtain ⟨hi2, rfl⟩ := rng0_get hd
      obtain ⟨ats, z3, z6, z7, rfl, ha, hl, twi, hS, sl, ot⟩ := hi
      obtain ⟨a, S'', u6, u7, hA, e, tw', hS', sl', ot'⟩ := wB_ok (S := S') (y6 := z6) (y7 := z7) (k := i) h63 hfu twi (by omega) (by omega) ha (by omega) (fun h0 q => by rw [q, List.length_nil] at hl; omega) hS
      refine ⟨_, _, S'', rfl, .inl e, ats ++ [a], _, _, _, rfl, fun b hb => ?_, by rw [List.length_append, List.length_singleton]; omega, tw'.mono (by omega), hS', by rw [sl', sl], fun j h1 h2 => by rw [ot' j h2 (by omega), ot j h1 h2]⟩
      rcases List.mem_append.mp hb with h | h
      · exact ha b h
      · rw [List.mem_singleton.mp h]
        exact hA) ⟨[], none, none, none, rfl, (by simp), rfl, tw1.mono (by omega), hS1, by rw [d1.len, List.length_append]; rfl, fun i h1 h2 => by rw [d1.other h2, List.getElem?_append_left h1]⟩
  rw [rng_len, Nat.zero_add] at hl tw2
  obtain ⟨S', ef, tw', d'⟩ := fin_dif (S := S) (S1 := S2) (n := n + 2 + 40 * (1 + m)) (rho := WE ns t z3 S.length z6 z7) (d := askD ats []) ht (by omega) tw2 ot (clo_ask _ _ _)
  refine ⟨ats, S', ha, by omega, by omega, ?_, tw'.mono (by omega), d'⟩
  show finT S (mWeb fu [some (.scr ns), some (.loc t), some (.int 4), none, none, none, none, none] S) = _
  have tp : tupD [.loc S.length] S2 = some (.tup (ats.map atD)) := by
    show (match S2[S.length]? with
      | some (.lst xs) => some (D.tup xs)
      | _ => none) = _
    rw [hS2]
  have rg : rng1 [.int (1 + (m : Int))] = some (rng 0 (1 + m)) := by
    show (if -100000 ≤ (1 + (m : Int)) ∧ (1 + (m : Int)) ≤ 100000 then some (rng 0 (1 + (m : Int)).toNat) else none) = _
    rw [if_pos (by omega), show (1 + (m : Int)).toNat = 1 + m by omega]
  have ad : addD (.int 1) (.int (m : Int)) S1 = some (.int (1 + (m : Int))) := rfl
  have eb : mWeb fu [some (.scr ns), some (.loc t), some (.int 4), none, none, none, none, none] S = .ok (.ret (askD ats [])) (WE ns t z3 S.length z6 z7) S2 := by
    have ea : askD ats [] = .tup [.tup (ats.map atD), .tup []] := rfl
    have e' : sLoop (tgN 3) (wB fu) (rng 0 (1 + m)) [some (.scr ns), some (.loc t), some (.int 4), none, some (.lst [.str "a", .str "b", .str "c", .str "d", .str "e"]), some (.loc S.length), none, none] S1 = .ok .next (WE ns t z3 S.length z6 z7) S2 := e
    rw [ea]
    generalize ats.map atD = W at tp ⊢
    unfold mWeb
    simp [e1, ad, rg, e', tp, -addD_int]
  rw [eb]
  exact ef
end
end Qw
namespace Re
open PySem L2 Dv Mw Sx Jt Tr Qw
def tbF (n : Nat) : List Bt := [⟨"p", 1, []⟩, ⟨"q", 2, []⟩, ⟨"r", 3, []⟩, ⟨"s", 4, []⟩, ⟨"w", n, []⟩]
structure FA (n : Nat) (a : At) : Prop where
  own : ∀ t ∈ a.ts, T5 t
  hi : a.ts.length ≤ 16
  w : (1 ≤ a.ts.length ∧ a.ts.length ≤ 4 ∧ a.w = wrd (a.ts.length - 1)) ∨ (a.w = "w" ∧ a.ts.length = n)
theorem FA.web {n : Nat} {a : At} (h : WebA a) : FA n a := ⟨h.own.ok, by have := h.hi; omega, .inl ⟨h.lo, h.hi, h.w⟩⟩
theorem t5_okF {t : Tm} (h : T5 t) : t.Ok := by
  cases t with
  | nm x =>
    have h : x ∈ five := h
    show x ∈ abcd
    simp only [five, List.mem_cons, List.not_mem_nil, or_false] at h
    simp only [abcd, List.mem_cons, List.not_mem_nil, or_false]
    rcases h with h | h | h | h | h <;> simp [h]
  | vl i =>
    have h : 0 ≤ i ∧ i < 2 := h
    exact ⟨h.1, by omega⟩
theorem webF_mq {n : Nat} {as : List At} (ha : ∀ a ∈ as, FA n a) (hx : ∃ a ∈ as, ∃ x, Tm.nm x ∈ a.ts) (hl : as.length ≤ 5) : Mq 1 5 (tbF n) as [] := by
  refine ⟨fun x hx => ?_, by show (["p", "q", "r", "s", "w"] : List Str).Nodup; decide, fun x hx => ?_, fun a hA => ⟨?_, fun t ht => t5_okF ((ha a hA).own t ht)⟩, fun a hA => (ha a hA).hi, hl, fun e => ?_, fun c h => (nomatch h), nodup_sub (m := five) (nodup_nms as) fun x hx => ?_, by decide, by decide⟩
  · simp only [tbF, List.mem_cons, List.not_mem_nil, or_false] at hx
    rcases hx with rfl | rfl | rfl | rfl | rfl
    · exact (by decide : ("p" : Str) ∈ pqrs)
    · exact (by decide : ("q" : Str) ∈ pqrs)
    · exact (by decide : ("r" : Str) ∈ pqrs)
    · exact (by decide : ("s" : Str) ∈ pqrs)
    · exact (by decide : ("w" : Str) ∈ pqrs)
  · simp only [tbF, List.mem_cons, List.not_mem_nil, or_false] at hx
    rcases hx with rfl | rfl | rfl | rfl | rfl <;> exact ⟨Nat.zero_le _, fun r h => nomatch h⟩
  · rcases (ha a hA).w with ⟨lo, hi, hw⟩ | ⟨hw, hn⟩
    · generalize hn : a.ts.length = k at lo hi hw
      match k, lo, hi with
      | 1, _, _ => exact ⟨⟨"p", 1, []⟩, by simp [tbF], hw, rfl⟩
      | 2, _, _ => exact ⟨⟨"q", 2, []⟩, by simp [tbF], hw, rfl⟩
      | 3, _, _ => exact ⟨⟨"r", 3, []⟩, by simp [tbF], hw, rfl⟩
      | 4, _, _ => exact ⟨⟨"s", 4, []⟩, by simp [tbF], hw, rfl⟩
    · exact ⟨⟨"w", n, []⟩, by simp [tbF], hw, hn⟩
  · obtain ⟨a, hA, x, hx⟩ := hx
    have := mem_usd.mpr ⟨a, hA, hx⟩
    rw [e] at this
    cases this
  · obtain ⟨a, h1, h2⟩ := mem_usd.mp (mem_nms.mp hx)
    exact (ha a h1).own _ h2
theorem perm_map_inv {α β : Type} {f : α → β} {ys l : List β} (h : ys.Perm l) : ∀ xs : List α, l = xs.map f → ∃ zs : List α, ys = zs.map f ∧ zs.Perm xs := by
  induction h with
  | nil =>
    intro xs e
    exact ⟨xs, e, List.Perm.refl _⟩
  | cons x p ih =>
    intro xs e
    cases xs with
    | nil => cases e
    | cons a xs =>
      rw [List.map_cons] at e
      obtain ⟨zs, e2, p2⟩ := ih xs (List.cons.inj e).2
      exact ⟨a :: zs, by rw [List.map_cons, ← (List.cons.inj e).1, e2], p2.cons a⟩
  | swap x y l =>
    intro xs e
    match xs, e with
    | a :: b :: xs, e =>
      rw [List.map_cons, List.map_cons] at e
      have e1 := List.cons.inj e
      have e2 := List.cons.inj e1.2
      exact ⟨b :: a :: xs, by rw [List.map_cons, List.map_cons, ← e1.1, ← e2.1, ← e2.2], List.Perm.swap a b xs⟩
  | trans _ _ ih1 ih2 =>
    intro xs e
    obtain ⟨zs, e1, p1⟩ := ih2 xs e
    obtain ⟨ws, e2, p2⟩ := ih1 zs e1
    exact ⟨ws, e2, p2.trans p1⟩
def nmG (as : List At) : List Nat → List Str → List Str
  | [], acc => acc
  | a :: l, acc => nmG as l (acc ++ (ownL as a).filter fun y => !decide (y ∈ acc))
section
variable {as : List At}
theorem nmG_old : ∀ (l : List Nat) (acc : List Str) (y : Str), y ∈ acc → y ∈ nmG as l acc
  | [], acc, y, h => h
  | a :: l, acc, y, h => nmG_old l _ y (List.mem_append_left _ h)
theorem nmG_new : ∀ (l : List Nat) (acc : List Str) (a : Nat) (y : Str), a ∈ l → y ∈ ownL as a → y ∈ nmG as l acc
  | [], acc, a, y, h, _ => nomatch h
  | b :: l, acc, a, y, h, hy => by
    rcases List.mem_cons.mp h with rfl | h
    · refine nmG_old l _ y ?_
      by_cases c : y ∈ acc
      · exact List.mem_append_left _ c
      · exact List.mem_append_right _ (List.mem_filter.mpr ⟨hy, by simpa using c⟩)
    · exact nmG_new l _ a y h hy
theorem nmG_five (ho : ∀ a y, y ∈ ownL as a → y ∈ five) : ∀ (l : List Nat) (acc : List Str), (∀ y ∈ acc, y ∈ five) → ∀ y ∈ nmG as l acc, y ∈ five
  | [], acc, h => h
  | a :: l, acc, h => nmG_five ho l _ fun y hy => (List.mem_append.mp hy).elim (h y) fun q => ho a y (List.mem_filter.mp q).1
theorem nmG_len (ho : ∀ a, (ownL as a).length ≤ 4) : ∀ (l : List Nat) (acc : List Str), (nmG as l acc).length ≤ acc.length + 4 * l.length
  | [], acc => by simp [nmG]
  | a :: l, acc => by
    have h := nmG_len ho l (acc ++ (ownL as a).filter fun y => !decide (y ∈ acc))
    have h2 := List.length_filter_le (fun y => !decide (y ∈ acc)) (ownL as a)
    have h3 := ho a
    rw [List.length_append] at h
    show (nmG as l _).length ≤ _
    rw [List.length_cons]
    omega
end
theorem neD_bl (a b : Bool) (S : Store) : neD (.bl a) (.bl b) S = some (.bl (a != b)) := by
  cases a <;> cases b <;> rfl
end Re
namespace Law
open PySem L2 Dv
def top (i : Nat) : Stmt := PySem.Challenge.pw_meetloft_k15_whole_tree_or_core.main.body.getD i (.Pass ⟨0, 0, 0, 0⟩)
abbrev s__law_draw : Stmt := top 13
abbrev N__law_draw : List Str := ["script", "town", "many", "k", "cell", "digits", "number", "more"]
abbrev P__law_draw : List Str := ["script", "town", "many"]
theorem sc__law_draw : FnScope N__law_draw P__law_draw (defScope s__law_draw) := ⟨rfl, rfl, rfl, by decide +kernel, rfl, by decide +kernel, by decide +kernel⟩
abbrev s__law_pick : Stmt := top 14
abbrev N__law_pick : List Str := ["script", "town", "some"]
abbrev P__law_pick : List Str := ["script", "town", "some"]
theorem sc__law_pick : FnScope N__law_pick P__law_pick (defScope s__law_pick) := ⟨rfl, rfl, rfl, by decide +kernel, rfl, by decide +kernel, by decide +kernel⟩
abbrev s__law_mixed : Stmt := top 15
abbrev N__law_mixed : List Str := ["script", "town", "things", "rest", "found"]
abbrev P__law_mixed : List Str := ["script", "town", "things"]
theorem sc__law_mixed : FnScope N__law_mixed P__law_mixed (defScope s__law_mixed) := ⟨rfl, rfl, rfl, by decide +kernel, rfl, by decide +kernel, by decide +kernel⟩
abbrev s__law_drawn_web : Stmt := top 16
abbrev N__law_drawn_web : List Str := ["script", "town", "many", "k", "names", "atoms", "size", "own"]
abbrev P__law_drawn_web : List Str := ["script", "town", "many"]
theorem sc__law_drawn_web : FnScope N__law_drawn_web P__law_drawn_web (defScope s__law_drawn_web) := ⟨rfl, rfl, rfl, by decide +kernel, rfl, by decide +kernel, by decide +kernel⟩
abbrev s_names_in : Stmt := top 2
abbrev N_names_in : List Str := ["terms", "found", "term"]
abbrev P_names_in : List Str := ["terms"]
theorem sc_names_in : FnScope N_names_in P_names_in (defScope s_names_in) := ⟨rfl, rfl, rfl, by decide +kernel, rfl, by decide +kernel, by decide +kernel⟩
abbrev s_names_at : Stmt := top 4
abbrev N_names_at : List Str := ["ask", "at"]
abbrev P_names_at : List Str := ["ask", "at"]
theorem sc_names_at : FnScope N_names_at P_names_at (defScope s_names_at) := ⟨rfl, rfl, rfl, by decide +kernel, rfl, by decide +kernel, by decide +kernel⟩
abbrev s_keeper_of : Stmt := top 5
abbrev N_keeper_of : List Str := ["ask", "at", "left", "others", "common", "one", "name"]
abbrev P_keeper_of : List Str := ["ask", "at", "left"]
theorem sc_keeper_of : FnScope N_keeper_of P_keeper_of (defScope s_keeper_of) := ⟨rfl, rfl, rfl, by decide +kernel, rfl, by decide +kernel, by decide +kernel⟩
abbrev s_ears : Stmt := top 6
abbrev N_ears : List Str := ["ask", "left", "found", "pairs", "at", "keeper"]
abbrev P_ears : List Str := ["ask"]
theorem sc_ears : FnScope N_ears P_ears (defScope s_ears) := ⟨rfl, rfl, rfl, by decide +kernel, rfl, by decide +kernel, by decide +kernel⟩
abbrev s_tree_for : Stmt := top 8
abbrev N_tree_for : List Str := ["ask", "keepers", "found", "left", "at", "keeper"]
abbrev P_tree_for : List Str := ["ask"]
theorem sc_tree_for : FnScope N_tree_for P_tree_for (defScope s_tree_for) := ⟨rfl, rfl, rfl, by decide +kernel, rfl, by decide +kernel, by decide +kernel⟩
abbrev s_core : Stmt := top 7
abbrev N_core : List Str := ["ask", "found", "left"]
abbrev P_core : List Str := ["ask"]
theorem sc_core : FnScope N_core P_core (defScope s_core) := ⟨rfl, rfl, rfl, by decide +kernel, rfl, by decide +kernel, by decide +kernel⟩
abbrev s__law_same : Stmt := top 12
abbrev N__law_same : List Str := ["got", "due", "one", "other"]
abbrev P__law_same : List Str := ["got", "due"]
theorem sc__law_same : FnScope N__law_same P__law_same (defScope s__law_same) := ⟨rfl, rfl, rfl, by decide +kernel, rfl, by decide +kernel, by decide +kernel⟩
abbrev s_leads_up : Stmt := top 9
abbrev N_leads_up : List Str := ["thing", "at", "k"]
abbrev P_leads_up : List Str := ["thing", "at"]
theorem sc_leads_up : FnScope N_leads_up P_leads_up (defScope s_leads_up) := ⟨rfl, rfl, rfl, by decide +kernel, rfl, by decide +kernel, by decide +kernel⟩
abbrev s_is_whole : Stmt := top 1
abbrev N_is_whole : List Str := ["thing"]
abbrev P_is_whole : List Str := ["thing"]
theorem sc_is_whole : FnScope N_is_whole P_is_whole (defScope s_is_whole) := ⟨rfl, rfl, rfl, by decide +kernel, rfl, by decide +kernel, by decide +kernel⟩
abbrev s_is_tree : Stmt := top 10
abbrev N_is_tree : List Str := ["ask", "thing", "many", "name", "some", "word", "terms", "term", "at", "one"]
abbrev P_is_tree : List Str := ["ask", "thing"]
theorem sc_is_tree : FnScope N_is_tree P_is_tree (defScope s_is_tree) := ⟨rfl, rfl, rfl, by decide +kernel, rfl, by decide +kernel, by decide +kernel⟩
abbrev s__law_own : Stmt := top 18
abbrev N__law_own : List Str := ["ask", "at", "one"]
abbrev P__law_own : List Str := ["ask", "at"]
theorem sc__law_own : FnScope N__law_own P__law_own (defScope s__law_own) := ⟨rfl, rfl, rfl, by decide +kernel, rfl, by decide +kernel, by decide +kernel⟩
abbrev s__law_no_ear : Stmt := top 19
abbrev N__law_no_ear : List Str := ["ask", "some", "at", "others", "common", "one", "name"]
abbrev P__law_no_ear : List Str := ["ask", "some"]
theorem sc__law_no_ear : FnScope N__law_no_ear P__law_no_ear (defScope s__law_no_ear) := ⟨rfl, rfl, rfl, by decide +kernel, rfl, by decide +kernel, by decide +kernel⟩
abbrev s__law_every : Stmt := top 17
abbrev N__law_every : List Str := ["many", "found", "at", "longer", "row", "one"]
abbrev P__law_every : List Str := ["many"]
theorem sc__law_every : FnScope N__law_every P__law_every (defScope s__law_every) := ⟨rfl, rfl, rfl, by decide +kernel, rfl, by decide +kernel, by decide +kernel⟩
abbrev s_law : Stmt := top 20
abbrev N_law : List Str := ["script", "town", "k", "ask", "names", "at", "full", "other", "atoms", "many", "found", "left", "row", "name"]
abbrev P_law : List Str := ["script"]
theorem sc_law : FnScope N_law P_law (defScope s_law) := ⟨rfl, rfl, rfl, by decide +kernel, rfl, by decide +kernel, by decide +kernel⟩
def m__law_draw (fu : Nat) : SM :=
    (sSeq (sIf (mNotT (mTru (mVar 1))) (sDrop (mAppend (mVar 1) (mCall maxD (mCons (mBin addD (mLc (mIter (mVar 0)) [4] (tgN 4) mYes (mCall absD (mCons (mVar 4) mNil))) (mLst (mCons (mC (.int 0)) mNil))) mNil)))) sNil)
    (sSeq (sDrop (mAppend (mVar 1) (mC (.int 0))))
    (sSeq (sSet 3 (mCall lenD (mCons (mVar 1) mNil)))
    (sSeq (sSet 4 (mIf (mTru (mVar 0)) (mBin ixD (mVar 0) (mBin modD (mVar 3) (mCall lenD (mCons (mVar 0) mNil)))) (mC (.int 0))))
    (sSeq (sSet 5 (mBin modD (mBin ixD (mVar 1) (mC (.int 0))) (mC (.int 65536))))
    (sSeq (sSetIx (mVar 1) (mC (.int 0)) (mBin fdivD (mBin ixD (mVar 1) (mC (.int 0))) (mC (.int 65536))))
    (sSeq (sSet 6 (mBin modD (mBin addD (mBin addD (mVar 4) (mBin mulD (mC (.int 40503)) (mVar 5))) (mBin mulD (mC (.int 104729)) (mVar 3))) (mC (.int 4294967291))))
    (sSeq (sSet 6 (mBin modD (mBin mulD (mBin modD (mBin mulD (mVar 6) (mVar 6)) (mC (.int 4294967279))) (mC (.int 48271))) (mC (.int 4294967291))))
    (sSeq (sSet 7 (mBin modD (mBin mulD (mBin modD (mBin mulD (mVar 6) (mVar 6)) (mC (.int 4294967279))) (mC (.int 69621))) (mC (.int 4294967291))))
    (sRet (mBin modD (mBin addD (mBin mulD (mBin fdivD (mVar 6) (mC (.int 64))) (mC (.int 67108864))) (mBin fdivD (mVar 7) (mC (.int 64)))) (mVar 2))))))))))))
def F__law_draw (fu : Nat) : List D → Store → R D := runT 8 (m__law_draw fu)
def m__law_pick (fu : Nat) : SM :=
    (sRet (mBin ixD (mVar 2) (mApp 3 (F__law_draw fu) (mCons (mVar 0) (mCons (mVar 1) (mCons (mCall lenD (mCons (mVar 2) mNil)) mNil))))))
def F__law_pick (fu : Nat) : List D → Store → R D := runT 3 (m__law_pick fu)
def m__law_mixed (fu : Nat) : SM :=
    (sSeq (sPar 3 4 (mCons (mCallN lstN (mCons (mVar 2) mNil)) (mCons (mNewL mNil) mNil)))
    (sSeq (sWhile (mTru (mVar 3)) (sDrop (mAppend (mVar 4) (mPopAt (mVar 3) (mApp 3 (F__law_draw fu) (mCons (mVar 0) (mCons (mVar 1) (mCons (mCall lenD (mCons (mVar 3) mNil)) mNil))))))) fu)
    (sRet (mVar 4))))
def F__law_mixed (fu : Nat) : List D → Store → R D := runT 5 (m__law_mixed fu)
def m__law_drawn_web (fu : Nat) : SM :=
    (sSeq (sPar 4 5 (mCons (mLst (mCons (mC (.str "a")) (mCons (mC (.str "b")) (mCons (mC (.str "c")) (mCons (mC (.str "d")) (mCons (mC (.str "e")) mNil)))))) (mCons (mNewL mNil) mNil)))
    (sSeq (sFor (mRng1 (mCons (mBin addD (mC (.int 1)) (mApp 3 (F__law_draw fu) (mCons (mVar 0) (mCons (mVar 1) (mCons (mVar 2) mNil))))) mNil)) (tgN 3) (sSeq (sSet 6 (mApp 3 (F__law_pick fu) (mCons (mVar 0) (mCons (mVar 1) (mCons (mLst (mCons (mC (.int 1)) (mCons (mC (.int 2)) (mCons (mC (.int 2)) (mCons (mC (.int 2)) (mCons (mC (.int 3)) mNil)))))) mNil)))))
    (sSeq (sSet 7 (mSl (mApp 3 (F__law_mixed fu) (mCons (mVar 0) (mCons (mVar 1) (mCons (mSl (mVar 4) mNoP (mP (mBin addD (mC (.int 2)) (mApp 3 (F__law_draw fu) (mCons (mVar 0) (mCons (mVar 1) (mCons (mC (.int 4)) mNil))))))) mNil)))) mNoP (mP (mVar 6))))
    (sSeq (sIf (mAndT (mT (mBin gtD (mVar 3) (mC (.int 0)))) (mT (mBin eqD (mApp 3 (F__law_draw fu) (mCons (mVar 0) (mCons (mVar 1) (mCons (mC (.int 3)) mNil)))) (mC (.int 0))))) (sSet 7 (mSl (mBin addD (mSl (mApp 3 (F__law_mixed fu) (mCons (mVar 0) (mCons (mVar 1) (mCons (mBin ixD (mBin ixD (mVar 5) (mUn negD (mC (.int 1)))) (mC (.int 1))) mNil)))) mNoP (mP (mC (.int 1)))) (mVar 7)) mNoP (mP (mC (.int 3))))) sNil)
    (sSeq (sSet 7 (mBin addD (mVar 7) (mBin mulD (mLst (mCons (mApp 3 (F__law_draw fu) (mCons (mVar 0) (mCons (mVar 1) (mCons (mC (.int 2)) mNil)))) mNil)) (mCall intD (mCons (mBin eqD (mApp 3 (F__law_draw fu) (mCons (mVar 0) (mCons (mVar 1) (mCons (mC (.int 6)) mNil)))) (mC (.int 0))) mNil)))))
    (sDrop (mAppend (mVar 5) (mTup (mCons (mBin ixD (mC (.str "pqrst")) (mBin subD (mCall lenD (mCons (mVar 7) mNil)) (mC (.int 1)))) (mCons (mCall tupD (mCons (mVar 7) mNil)) mNil))))))))))
    (sRet (mTup (mCons (mCall tupD (mCons (mVar 5) mNil)) (mCons (mTup mNil) mNil))))))
def F__law_drawn_web (fu : Nat) : List D → Store → R D := runT 8 (m__law_drawn_web fu)
def m_names_in (fu : Nat) : SM :=
    (sSeq (sSet 1 (mNewL mNil))
    (sSeq (sFor (mIter (mVar 0)) (tgN 2) (sIf (mAndT (mTru (mCall isiD (mCons (mVar 2) (mCons (mC (.ty "str")) mNil)))) (mT (mBin ninTD (mVar 2) (mVar 1)))) (sDrop (mAppend (mVar 1) (mVar 2))) sNil))
    (sRet (mCall tupD (mCons (mVar 1) mNil)))))
def F_names_in (fu : Nat) : List D → Store → R D := runT 3 (m_names_in fu)
def m_names_at (fu : Nat) : SM :=
    (sRet (mApp 1 (F_names_in fu) (mCons (mBin ixD (mBin ixD (mBin ixD (mVar 0) (mC (.int 0))) (mVar 1)) (mC (.int 1))) mNil)))
def F_names_at (fu : Nat) : List D → Store → R D := runT 2 (m_names_at fu)
def m_keeper_of (fu : Nat) : SM :=
    (sSeq (sSet 3 (mLcG false (mIterG (mVar 2)) [5] (tgN 5) (mT (mBin neD (mVar 5) (mVar 1))) (mVar 5)))
    (sSeq (sSet 4 (mLc (mIter (mApp 2 (F_names_at fu) (mCons (mVar 0) (mCons (mVar 1) mNil)))) [6] (tgN 6) (mTru (mCall anyD (mCons (mLc (mIter (mVar 3)) [5] (tgN 5) mYes (mBin inTD (mVar 6) (mApp 2 (F_names_at fu) (mCons (mVar 0) (mCons (mVar 5) mNil))))) mNil))) (mVar 6)))
    (sSeq (sFor (mIter (mVar 3)) (tgN 5) (sIf (mTru (mCall allD (mCons (mLc (mIter (mVar 4)) [6] (tgN 6) mYes (mBin inTD (mVar 6) (mApp 2 (F_names_at fu) (mCons (mVar 0) (mCons (mVar 5) mNil))))) mNil))) (sRet (mVar 5)) sNil))
    (sRet (mC .non)))))
def F_keeper_of (fu : Nat) : List D → Store → R D := runT 7 (m_keeper_of fu)
def m_ears (fu : Nat) : SM :=
    (sSeq (sAsg (mTup (mCons (mCallN listRngN (mCons (mCall lenD (mCons (mBin ixD (mVar 0) (mC (.int 0))) mNil)) mNil)) (mCons (mNewL mNil) mNil))) (tgT 2 (tgsCons (tgN 1) (tgsCons (tgN 2) tgsNil))))
    (sSeq (sWhile (mT (mBin gtD (mCall lenD (mCons (mVar 1) mNil)) (mC (.int 1)))) (sSeq (sSet 3 (mLcG false (mIterG (mVar 1)) [4] (tgN 4) mYes (mTup (mCons (mVar 4) (mCons (mApp 3 (F_keeper_of fu) (mCons (mVar 0) (mCons (mVar 4) (mCons (mVar 1) mNil)))) mNil)))))
    (sSeq (sSet 3 (mLc (mIter (mVar 3)) [4, 5] (tgT 2 (tgsCons (tgN 4) (tgsCons (tgN 5) tgsNil))) (mT (mBin notND (mVar 5) (mC .non))) (mTup (mCons (mVar 4) (mCons (mVar 5) mNil)))))
    (sSeq (sIf (mNotT (mTru (mVar 3))) sBrk sNil)
    (sSeq (sDrop (mAppend (mVar 2) (mBin ixD (mVar 3) (mC (.int 0)))))
    (sDrop (mRemove (mVar 1) (mBin ixD (mBin ixD (mVar 3) (mC (.int 0))) (mC (.int 0))))))))) fu)
    (sRet (mTup (mCons (mVar 2) (mCons (mVar 1) mNil))))))
def F_ears (fu : Nat) : List D → Store → R D := runT 6 (m_ears fu)
def m_tree_for (fu : Nat) : SM :=
    (sSeq (sAsg (mApp 1 (F_ears fu) (mCons (mVar 0) mNil)) (tgT 2 (tgsCons (tgN 2) (tgsCons (tgN 3) tgsNil))))
    (sSeq (sIf (mT (mBin gtD (mCall lenD (mCons (mVar 3) mNil)) (mC (.int 1)))) (sRet (mC .non)) sNil)
    (sSeq (sSet 1 (mDc false (mIter (mVar 2)) [4, 5] (tgT 2 (tgsCons (tgN 4) (tgsCons (tgN 5) tgsNil))) mYes (mVar 4) (mVar 5)))
    (sRet (mCall tuxD (mCons (mLc (mRng1 (mCons (mCall lenD (mCons (mBin ixD (mVar 0) (mC (.int 0))) mNil)) mNil)) [4] (tgN 4) mYes (mDGet2 (mVar 1) (mVar 4) (mC .non))) mNil))))))
def F_tree_for (fu : Nat) : List D → Store → R D := runT 6 (m_tree_for fu)
def m_core (fu : Nat) : SM :=
    (sSeq (sAsg (mApp 1 (F_ears fu) (mCons (mVar 0) mNil)) (tgT 2 (tgsCons (tgN 1) (tgsCons (tgN 2) tgsNil))))
    (sRet (mIf (mT (mBin eqD (mCall lenD (mCons (mVar 2) mNil)) (mC (.int 1)))) (mTup mNil) (mCall tupD (mCons (mVar 2) mNil)))))
def F_core (fu : Nat) : List D → Store → R D := runT 3 (m_core fu)
def m__law_same (fu : Nat) (self : List D → Store → R D) : SM :=
    (sSeq (sIf (mT (mBin isND (mVar 1) (mC .non))) (sRet (mBin isND (mVar 0) (mC .non))) sNil)
    (sSeq (sIf (mTru (mCall isiD (mCons (mVar 1) (mCons (mC (.ty "bool")) mNil)))) (sRet (mAnd (mCall isiD (mCons (mVar 0) (mCons (mC (.ty "bool")) mNil))) (mBin eqD (mVar 0) (mVar 1)))) sNil)
    (sSeq (sIf (mTru (mCall isiD (mCons (mVar 1) (mCons (mC (.ty "tuple")) mNil)))) (sSeq (sIf (mOrT (mNotT (mTru (mCall isiD (mCons (mVar 0) (mCons (mC (.ty "tuple")) mNil))))) (mT (mBin neD (mCall lenD (mCons (mVar 0) mNil)) (mCall lenD (mCons (mVar 1) mNil))))) (sRet (mC (.bl false))) sNil)
    (sRet (mCall allD (mCons (mLc (mZip (mCons (mVar 0) (mCons (mVar 1) mNil))) [2, 3] (tgT 2 (tgsCons (tgN 2) (tgsCons (tgN 3) tgsNil))) mYes (mApp 2 self (mCons (mVar 2) (mCons (mVar 3) mNil)))) mNil)))) sNil)
    (sSeq (sIf (mTru (mCall isiD (mCons (mVar 1) (mCons (mC (.ty "str")) mNil)))) (sRet (mAnd (mCall isiD (mCons (mVar 0) (mCons (mC (.ty "str")) mNil))) (mBin eqD (mVar 0) (mVar 1)))) sNil)
    (sRet (mAnd (mCall isiD (mCons (mVar 0) (mCons (mC (.ty "int")) mNil))) (mAnd (mNot (mCall isiD (mCons (mVar 0) (mCons (mC (.ty "bool")) mNil)))) (mBin eqD (mVar 0) (mVar 1)))))))))
def F__law_same (fu : Nat) : Nat → List D → Store → R D
  | 0 => fun _ _ => .bad
  | n + 1 => runT 4 (m__law_same fu (F__law_same fu n))
def m_leads_up (fu : Nat) : SM :=
    (sSeq (sFor (mRng1 (mCons (mCall lenXD (mCons (mVar 0) mNil)) mNil)) (tgN 2) (sSeq (sIf (mT (mBin isND (mBin ixXD (mVar 0) (mVar 1)) (mC .non))) (sRet (mC (.bl true))) sNil)
    (sSet 1 (mBin ixXD (mVar 0) (mVar 1)))))
    (sRet (mC (.bl false))))
def F_leads_up (fu : Nat) : List D → Store → R D := runT 3 (m_leads_up fu)
def m_is_whole (fu : Nat) : SM :=
    (sRet (mAnd (mCall isiXD (mCons (mVar 0) (mCons (mC (.ty "int")) mNil))) (mNot (mCall isiXD (mCons (mVar 0) (mCons (mC (.ty "bool")) mNil))))))
def F_is_whole (fu : Nat) : List D → Store → R D := runT 1 (m_is_whole fu)
def m_is_tree (fu : Nat) : SM :=
    (sSeq (sSet 2 (mCall lenXD (mCons (mBin ixXD (mVar 0) (mC (.int 0))) mNil)))
    (sSeq (sIf (mOrT (mNotT (mTruX (mCall isiXD (mCons (mVar 1) (mCons (mC (.ty "tuple")) mNil))))) (mT (mBin neD (mCall lenXD (mCons (mVar 1) mNil)) (mVar 2)))) (sRet (mC (.bl false))) sNil)
    (sSeq (sIf (mOrT (mNotT (mTruX (mCall allD (mCons (mLc (mIterX (mVar 1)) [9] (tgN 9) mYes (mOr (mBin isND (mVar 9) (mC .non)) (mAnd (mApp 1 (F_is_whole fu) (mCons (mVar 9) mNil)) (mChain leD ltD (mC (.int 0)) (mVar 9) (mVar 2))))) mNil)))) (mT (mBin neD (mCntX (mVar 1) (mC .non)) (mC (.int 1))))) (sRet (mC (.bl false))) sNil)
    (sSeq (sIf (mNotT (mTruX (mCall allD (mCons (mLc (mRng1 (mCons (mVar 2) mNil)) [8] (tgN 8) mYes (mApp 2 (F_leads_up fu) (mCons (mVar 1) (mCons (mVar 8) mNil)))) mNil)))) (sRet (mC (.bl false))) sNil)
    (sSeq (sFor (mIterX (mApp 1 (F_names_in fu) (mCons (mLc2 (mIterX (mBin ixXD (mVar 0) (mC (.int 0)))) [5, 6, 7] (tgT 2 (tgsCons (tgN 5) (tgsCons (tgN 6) tgsNil))) mYes (mIterX (mVar 6)) [7] (tgN 7) mYes (mVar 7)) mNil))) (tgN 3) (sSeq (sSet 4 (mLc (mRng1 (mCons (mVar 2) mNil)) [8] (tgN 8) (mT (mBin inTD (mVar 3) (mApp 2 (F_names_at fu) (mCons (mVar 0) (mCons (mVar 8) mNil))))) (mVar 8)))
    (sIf (mT (mBin neD (mCall lenXD (mCons (mLc (mIterX (mVar 4)) [8] (tgN 8) (mT (mBin inTD (mBin ixXD (mVar 1) (mVar 8)) (mVar 4))) (mVar 8)) mNil)) (mBin subD (mCall lenXD (mCons (mVar 4) mNil)) (mC (.int 1))))) (sRet (mC (.bl false))) sNil)))
    (sRet (mC (.bl true))))))))
def F_is_tree (fu : Nat) : List D → Store → R D := runT 10 (m_is_tree fu)
def m__law_own (fu : Nat) : SM :=
    (sRet (mLc (mIter (mBin ixD (mBin ixD (mBin ixD (mVar 0) (mC (.int 0))) (mVar 1)) (mC (.int 1)))) [2] (tgN 2) (mTru (mCall isiD (mCons (mVar 2) (mCons (mC (.ty "str")) mNil)))) (mVar 2)))
def F__law_own (fu : Nat) : List D → Store → R D := runT 3 (m__law_own fu)
def m__law_no_ear (fu : Nat) : SM :=
    (sSeq (sFor (mIter (mVar 1)) (tgN 2) (sSeq (sSet 3 (mLc (mIter (mVar 1)) [5] (tgN 5) (mT (mBin neD (mVar 5) (mVar 2))) (mVar 5)))
    (sSeq (sSet 4 (mLc (mIter (mApp 2 (F__law_own fu) (mCons (mVar 0) (mCons (mVar 2) mNil)))) [6] (tgN 6) (mTru (mLc (mIter (mVar 3)) [5] (tgN 5) (mT (mBin inTD (mVar 6) (mApp 2 (F__law_own fu) (mCons (mVar 0) (mCons (mVar 5) mNil))))) (mC (.int 1)))) (mVar 6)))
    (sIf (mTru (mLc (mIter (mVar 3)) [5] (tgN 5) (mT (mBin eqD (mLc (mIter (mVar 4)) [6] (tgN 6) (mT (mBin ninTD (mVar 6) (mApp 2 (F__law_own fu) (mCons (mVar 0) (mCons (mVar 5) mNil))))) (mVar 6)) (mLst mNil))) (mC (.int 1)))) (sRet (mC (.bl false))) sNil))))
    (sRet (mC (.bl true))))
def F__law_no_ear (fu : Nat) : List D → Store → R D := runT 7 (m__law_no_ear fu)
def m__law_every (fu : Nat) : SM :=
    (sSeq (sSet 1 (mLst (mCons (mTux mNil) mNil)))
    (sSeq (sFor (mRng1 (mCons (mVar 0) mNil)) (tgN 2) (sSeq (sSet 3 (mLst mNil))
    (sSeq (sFor (mIterX (mVar 1)) (tgN 4) (sSet 3 (mBin addXD (mVar 3) (mLc (mIterX (mBin addXD (mLst (mCons (mC .non) mNil)) (mCall lstRngD (mCons (mVar 0) mNil)))) [5] (tgN 5) mYes (mBin addXD (mVar 4) (mTux (mCons (mVar 5) mNil)))))))
    (sSet 1 (mVar 3)))))
    (sRet (mLc (mIterX (mVar 1)) [4] (tgN 4) (mT (mBin eqD (mCall lenXD (mCons (mLc (mIterX (mVar 4)) [5] (tgN 5) (mT (mBin isND (mVar 5) (mC .non))) (mC (.int 1))) mNil)) (mC (.int 1)))) (mVar 4)))))
def F__law_every (fu : Nat) : List D → Store → R D := runT 6 (m__law_every fu)
def m_law (fu : Nat) : SM :=
    (sSeq (sSet 1 (mNewL mNil))
    (sSeq (sFor (mRng1 (mCons (mC (.int 4)) mNil)) (tgN 2) (sSeq (sSet 3 (mApp 3 (F__law_drawn_web fu) (mCons (mVar 0) (mCons (mVar 1) (mCons (mC (.int 4)) mNil)))))
    (sSeq (sPar 8 9 (mCons (mBin ixD (mVar 3) (mC (.int 0))) (mCons (mCall lenD (mCons (mBin ixD (mVar 3) (mC (.int 0))) mNil)) mNil)))
    (sSeq (sPar 10 11 (mCons (mApp 1 (F_tree_for fu) (mCons (mVar 3) mNil)) (mCons (mApp 1 (F_core fu) (mCons (mVar 3) mNil)) mNil)))
    (sSeq (sIf (mT (mBin neD (mBin isND (mVar 10) (mC .non)) (mBin neD (mVar 11) (mTup mNil)))) (sRet (mC (.bl false))) sNil)
    (sSeq (sIf (mAndT (mT (mBin notND (mVar 10) (mC .non))) (mNotT (mTru (mApp 2 (F__law_same fu 4) (mCons (mApp 2 (F_is_tree fu) (mCons (mVar 3) (mCons (mVar 10) mNil))) (mCons (mC (.bl true)) mNil)))))) (sRet (mC (.bl false))) sNil)
    (sSeq (sIf (mT (mBin isND (mVar 10) (mC .non))) (sSeq (sIf (mOrT (mT (mBin ltD (mCall lenD (mCons (mVar 11) mNil)) (mC (.int 2)))) (mOrT (mNotT (mTru (mApp 2 (F__law_no_ear fu) (mCons (mVar 3) (mCons (mVar 11) mNil))))) (mT (mBin neD (mCall lstD (mCons (mVar 11) mNil)) (mCall sortSetTD (mCons (mVar 11) mNil)))))) (sRet (mC (.bl false))) sNil)
    (sIf (mTru (mLc (mIter (mApp 1 (F__law_every fu) (mCons (mVar 9) mNil))) [12] (tgN 12) (mTru (mApp 2 (F_is_tree fu) (mCons (mVar 3) (mCons (mVar 12) mNil)))) (mC (.int 1)))) (sRet (mC (.bl false))) sNil)) sNil)
    (sSeq (sSet 4 (mLst mNil))
    (sSeq (sFor (mRng1 (mCons (mVar 9) mNil)) (tgN 5) (sSet 4 (mBin addD (mVar 4) (mLc (mIter (mApp 2 (F__law_own fu) (mCons (mVar 3) (mCons (mVar 5) mNil)))) [13] (tgN 13) (mT (mBin ninTD (mVar 13) (mVar 4))) (mVar 13)))))
    (sSeq (sSet 6 (mTup (mCons (mBin addD (mVar 8) (mTup (mCons (mTup (mCons (mC (.str "w")) (mCons (mCall tupD (mCons (mVar 4) mNil)) mNil))) mNil))) (mCons (mTup mNil) mNil))))
    (sSeq (sIf (mOrT (mT (mBin neD (mApp 1 (F_core fu) (mCons (mVar 6) mNil)) (mTup mNil))) (mNotT (mTru (mApp 2 (F_is_tree fu) (mCons (mVar 6) (mCons (mApp 1 (F_tree_for fu) (mCons (mVar 6) mNil)) mNil)))))) (sRet (mC (.bl false))) sNil)
    (sFor (mIter (mTup (mCons (mBin addD (mVar 8) (mSl (mVar 8) (mP (mUn negD (mC (.int 1)))) mNoP)) (mCons (mCall tupD (mCons (mApp 3 (F__law_mixed fu) (mCons (mVar 0) (mCons (mVar 1) (mCons (mVar 8) mNil)))) mNil)) mNil)))) (tgN 7) (sIf (mT (mBin neD (mBin isND (mApp 1 (F_tree_for fu) (mCons (mTup (mCons (mVar 7) (mCons (mTup mNil) mNil))) mNil)) (mC .non)) (mBin isND (mVar 10) (mC .non)))) (sRet (mC (.bl false))) sNil)))))))))))))
    (sRet (mC (.bl true)))))
def F_law (fu : Nat) : List D → Store → R D := runT 14 (m_law fu)
end Law
namespace Law
open PySem L2 Dv
structure Tx (K : PySem.W.Frag) (mg : Str → Option Value) (a__law_draw a__law_pick a__law_mixed a__law_drawn_web a_names_in a_names_at a_keeper_of a_ears a_tree_for a_core a__law_same a_leads_up a_is_whole a_is_tree a__law_own a__law_no_ear a__law_every a_law : Addr) (d__law_draw d__law_pick d__law_mixed d__law_drawn_web d_names_in d_names_at d_keeper_of d_ears d_tree_for d_core d__law_same d_leads_up d_is_whole d_is_tree d__law_own d__law_no_ear d__law_every d_law : FuncData) : Prop where
  z_abs : mg "abs" = none
  z_all : mg "all" = none
  z_any : mg "any" = none
  z_bool : mg "bool" = none
  z_int : mg "int" = none
  z_isinstance : mg "isinstance" = none
  z_len : mg "len" = none
  z_list : mg "list" = none
  z_max : mg "max" = none
  z_range : mg "range" = none
  z_set : mg "set" = none
  z_sorted : mg "sorted" = none
  z_str : mg "str" = none
  z_tuple : mg "tuple" = none
  z_zip : mg "zip" = none
  F__law_draw : Fun K "_law_draw" "_law_draw" s__law_draw a__law_draw d__law_draw
  b__law_draw : Binds K d__law_draw P__law_draw []
  g__law_draw : mg "_law_draw" = some (.ref a__law_draw)
  F__law_pick : Fun K "_law_pick" "_law_pick" s__law_pick a__law_pick d__law_pick
  b__law_pick : Binds K d__law_pick P__law_pick []
  g__law_pick : mg "_law_pick" = some (.ref a__law_pick)
  F__law_mixed : Fun K "_law_mixed" "_law_mixed" s__law_mixed a__law_mixed d__law_mixed
  b__law_mixed : Binds K d__law_mixed P__law_mixed []
  g__law_mixed : mg "_law_mixed" = some (.ref a__law_mixed)
  F__law_drawn_web : Fun K "_law_drawn_web" "_law_drawn_web" s__law_drawn_web a__law_drawn_web d__law_drawn_web
  b__law_drawn_web : Binds K d__law_drawn_web P__law_drawn_web []
  g__law_drawn_web : mg "_law_drawn_web" = some (.ref a__law_drawn_web)
  F_names_in : Fun K "names_in" "names_in" s_names_in a_names_in d_names_in
  b_names_in : Binds K d_names_in P_names_in []
  g_names_in : mg "names_in" = some (.ref a_names_in)
  F_names_at : Fun K "names_at" "names_at" s_names_at a_names_at d_names_at
  b_names_at : Binds K d_names_at P_names_at []
  g_names_at : mg "names_at" = some (.ref a_names_at)
  F_keeper_of : Fun K "keeper_of" "keeper_of" s_keeper_of a_keeper_of d_keeper_of
  b_keeper_of : Binds K d_keeper_of P_keeper_of []
  g_keeper_of : mg "keeper_of" = some (.ref a_keeper_of)
  F_ears : Fun K "ears" "ears" s_ears a_ears d_ears
  b_ears : Binds K d_ears P_ears []
  g_ears : mg "ears" = some (.ref a_ears)
  F_tree_for : Fun K "tree_for" "tree_for" s_tree_for a_tree_for d_tree_for
  b_tree_for : Binds K d_tree_for P_tree_for []
  g_tree_for : mg "tree_for" = some (.ref a_tree_for)
  F_core : Fun K "core" "core" s_core a_core d_core
  b_core : Binds K d_core P_core []
  g_core : mg "core" = some (.ref a_core)
  F__law_same : Fun K "_law_same" "_law_same" s__law_same a__law_same d__law_same
  b__law_same : Binds K d__law_same P__law_same []
  g__law_same : mg "_law_same" = some (.ref a__law_same)
  F_leads_up : Fun K "leads_up" "leads_up" s_leads_up a_leads_up d_leads_up
  b_leads_up : Binds K d_leads_up P_leads_up []
  g_leads_up : mg "leads_up" = some (.ref a_leads_up)
  F_is_whole : Fun K "is_whole" "is_whole" s_is_whole a_is_whole d_is_whole
  b_is_whole : Binds K d_is_whole P_is_whole []
  g_is_whole : mg "is_whole" = some (.ref a_is_whole)
  F_is_tree : Fun K "is_tree" "is_tree" s_is_tree a_is_tree d_is_tree
  b_is_tree : Binds K d_is_tree P_is_tree []
  g_is_tree : mg "is_tree" = some (.ref a_is_tree)
  F__law_own : Fun K "_law_own" "_law_own" s__law_own a__law_own d__law_own
  b__law_own : Binds K d__law_own P__law_own []
  g__law_own : mg "_law_own" = some (.ref a__law_own)
  F__law_no_ear : Fun K "_law_no_ear" "_law_no_ear" s__law_no_ear a__law_no_ear d__law_no_ear
  b__law_no_ear : Binds K d__law_no_ear P__law_no_ear []
  g__law_no_ear : mg "_law_no_ear" = some (.ref a__law_no_ear)
  F__law_every : Fun K "_law_every" "_law_every" s__law_every a__law_every d__law_every
  b__law_every : Binds K d__law_every P__law_every []
  g__law_every : mg "_law_every" = some (.ref a__law_every)
  F_law : Fun K "law" "law" s_law a_law d_law
  b_law : Binds K d_law P_law []
  g_law : mg "law" = some (.ref a_law)
section
variable {P : Program} {w : World} {K : PySem.W.Frag} {mg : Str → Option Value} {base : Heap} {a__law_draw a__law_pick a__law_mixed a__law_drawn_web a_names_in a_names_at a_keeper_of a_ears a_tree_for a_core a__law_same a_leads_up a_is_whole a_is_tree a__law_own a__law_no_ear a__law_every a_law : Addr} {d__law_draw d__law_pick d__law_mixed d__law_drawn_web d_names_in d_names_at d_keeper_of d_ears d_tree_for d_core d__law_same d_leads_up d_is_whole d_is_tree d__law_own d__law_no_ear d__law_every d_law : FuncData}
variable (T : Tx K mg a__law_draw a__law_pick a__law_mixed a__law_drawn_web a_names_in a_names_at a_keeper_of a_ears a_tree_for a_core a__law_same a_leads_up a_is_whole a_is_tree a__law_own a__law_no_ear a__law_every a_law d__law_draw d__law_pick d__law_mixed d__law_drawn_web d_names_in d_names_at d_keeper_of d_ears d_tree_for d_core d__law_same d_leads_up d_is_whole d_is_tree d__law_own d__law_no_ear d__law_every d_law)
include T
theorem ok__law_draw (fu : Nat) : FnOk P w K mg base (L2.CX P w) 1 a__law_draw d__law_draw P__law_draw (spD K mg 3 (F__law_draw fu)) := by
  refine fnT (N := N__law_draw) (b := m__law_draw fu) T.F__law_draw sc__law_draw fun cdv A outer s H E hr => ?_
  have tk : Takes (cxOf (L2.CX P w) P w K mg base N__law_draw "_law_draw" (defScope s__law_draw) a__law_draw cdv A outer s H E) (fun c d _ H => E c d H) := takes_of rfl rfl rfl rfl
  exact (js_cons (js_if (jt_not (jt_tru (jv 1))) (js_one (js_drop (j_append (jv 1) (j_callB (cr_max rfl) pok_max (by rfl) T.z_max (by decide +kernel) (ja_cons (j_bin op_addA pok_add (j_lc (own := [("cell", 4)]) (sl := [4]) (by decide) rfl sc__law_draw.nd (ji_seq (jv 0)) (blkOk_by (own := [("cell", 4)]) (N := N__law_draw) (sc := defScope s__law_draw) (by decide +kernel)) (fun _ _ _ _ _ => (jgn 4 sc__law_draw.nd)) (fun _ _ _ _ _ => jts_nil) (fun _ _ _ _ _ => (j_callB call_abs pok_abs (by rfl) T.z_abs (by decide +kernel) (ja_cons (jv 4) ja_nil)))) (j_lst (ja_cons j_int ja_nil))) ja_nil))))) js_nil)
    (js_cons (js_drop (j_append (jv 1) j_int))
    (js_cons (js_set (i := 3) sc__law_draw.nd rfl (by first | exact Or.inl rfl | exact Or.inr rfl) (j_callB call_len pok_len (by rfl) T.z_len (by decide +kernel) (ja_cons (jv 1) ja_nil)))
    (js_cons (js_set (i := 4) sc__law_draw.nd rfl (by first | exact Or.inl rfl | exact Or.inr rfl) (j_if (jt_tru (jv 0)) (j_ix ix_seq pok_ix (fun _ _ => rfl) (jv 0) (j_bin op_mod pok_mod (jv 3) (j_callB call_len pok_len (by rfl) T.z_len (by decide +kernel) (ja_cons (jv 0) ja_nil)))) j_int))
    (js_cons (js_set (i := 5) sc__law_draw.nd rfl (by first | exact Or.inl rfl | exact Or.inr rfl) (j_bin op_mod pok_mod (j_ix ix_seq pok_ix (fun _ _ => rfl) (jv 1) j_int) j_int))
    (js_cons (js_setIx (j_bin op_fdiv pok_fdiv (j_ix ix_seq pok_ix (fun _ _ => rfl) (jv 1) j_int) j_int) (jv 1) j_int)
    (js_cons (js_set (i := 6) sc__law_draw.nd rfl (by first | exact Or.inl rfl | exact Or.inr rfl) (j_bin op_mod pok_mod (j_bin op_addA pok_add (j_bin op_addA pok_add (jv 4) (j_bin op_mulA pok_mul j_int (jv 5))) (j_bin op_mulA pok_mul j_int (jv 3))) j_int))
    (js_cons (js_set (i := 6) sc__law_draw.nd rfl (by first | exact Or.inl rfl | exact Or.inr rfl) (j_bin op_mod pok_mod (j_bin op_mulA pok_mul (j_bin op_mod pok_mod (j_bin op_mulA pok_mul (jv 6) (jv 6)) j_int) j_int) j_int))
    (js_cons (js_set (i := 7) sc__law_draw.nd rfl (by first | exact Or.inl rfl | exact Or.inr rfl) (j_bin op_mod pok_mod (j_bin op_mulA pok_mul (j_bin op_mod pok_mod (j_bin op_mulA pok_mul (jv 6) (jv 6)) j_int) j_int) j_int))
    (js_one (js_ret (j_bin op_mod pok_mod (j_bin op_addA pok_add (j_bin op_mulA pok_mul (j_bin op_fdiv pok_fdiv (jv 6) j_int) j_int) (j_bin op_fdiv pok_fdiv (jv 7) j_int)) (jv 2)))))))))))))
theorem ok__law_pick (fu : Nat) : FnOk P w K mg base (L2.CX P w) 2 a__law_pick d__law_pick P__law_pick (spD K mg 3 (F__law_pick fu)) := by
  refine fnT (N := N__law_pick) (b := m__law_pick fu) T.F__law_pick sc__law_pick fun cdv A outer s H E hr => ?_
  have tk : Takes (cxOf (L2.CX P w) P w K mg base N__law_pick "_law_pick" (defScope s__law_pick) a__law_pick cdv A outer s H E) (fun c d _ H => E c d H) := takes_of rfl rfl rfl rfl
  exact (js_one (js_ret (j_ix ix_seq pok_ix (fun _ _ => rfl) (jv 2) (j_call (ok__law_draw T fu) (hr.mono (by decide)) (by rfl) T.g__law_draw T.F__law_draw.kp T.b__law_draw tk (ja_cons (jv 0) (ja_cons (jv 1) (ja_cons (j_callB call_len pok_len (by rfl) T.z_len (by decide +kernel) (ja_cons (jv 2) ja_nil)) ja_nil)))))))
theorem ok__law_mixed (fu : Nat) : FnOk P w K mg base (L2.CX P w) 2 a__law_mixed d__law_mixed P__law_mixed (spD K mg 3 (F__law_mixed fu)) := by
  refine fnT (N := N__law_mixed) (b := m__law_mixed fu) T.F__law_mixed sc__law_mixed fun cdv A outer s H E hr => ?_
  have tk : Takes (cxOf (L2.CX P w) P w K mg base N__law_mixed "_law_mixed" (defScope s__law_mixed) a__law_mixed cdv A outer s H E) (fun c d _ H => E c d H) := takes_of rfl rfl rfl rfl
  exact (js_cons (js_par (i := 3) (j := 4) rfl sc__law_mixed.nd rfl rfl (by decide) rfl rfl (ja_cons (j_callTN call_list_of pok_lstN (by rfl) T.z_list (by decide +kernel) (ja_cons (jv 2) ja_nil)) (ja_cons (j_newL ja_nil) ja_nil)) (by rfl))
    (js_cons (js_while fu (passes_of rfl) (jt_tru (jv 3)) (js_one (js_drop (j_append (jv 4) (j_popAt (jv 3) (j_call (ok__law_draw T fu) (hr.mono (by decide)) (by rfl) T.g__law_draw T.F__law_draw.kp T.b__law_draw tk (ja_cons (jv 0) (ja_cons (jv 1) (ja_cons (j_callB call_len pok_len (by rfl) T.z_len (by decide +kernel) (ja_cons (jv 3) ja_nil)) ja_nil)))))))))
    (js_one (js_ret (jv 4)))))
theorem ok__law_drawn_web (fu : Nat) : FnOk P w K mg base (L2.CX P w) 3 a__law_drawn_web d__law_drawn_web P__law_drawn_web (spD K mg 3 (F__law_drawn_web fu)) := by
  refine fnT (N := N__law_drawn_web) (b := m__law_drawn_web fu) T.F__law_drawn_web sc__law_drawn_web fun cdv A outer s H E hr => ?_
  have tk : Takes (cxOf (L2.CX P w) P w K mg base N__law_drawn_web "_law_drawn_web" (defScope s__law_drawn_web) a__law_drawn_web cdv A outer s H E) (fun c d _ H => E c d H) := takes_of rfl rfl rfl rfl
  exact (js_cons (js_par (i := 4) (j := 5) rfl sc__law_drawn_web.nd rfl rfl (by decide) rfl rfl (ja_cons (j_lst (ja_cons j_str (ja_cons j_str (ja_cons j_str (ja_cons j_str (ja_cons j_str ja_nil)))))) (ja_cons (j_newL ja_nil) ja_nil)) (by rfl))
    (js_cons (js_for (passes_of rfl) rfl (ji_rng1 (by rfl) T.z_range (ja_cons (j_bin op_addA pok_add j_int (j_call (ok__law_draw T fu) (hr.mono (by decide)) (by rfl) T.g__law_draw T.F__law_draw.kp T.b__law_draw tk (ja_cons (jv 0) (ja_cons (jv 1) (ja_cons (jv 2) ja_nil))))) ja_nil)) (jgn 3 sc__law_drawn_web.nd) (js_cons (js_set (i := 6) sc__law_drawn_web.nd rfl (by first | exact Or.inl rfl | exact Or.inr rfl) (j_call (ok__law_pick T fu) (hr.mono (by decide)) (by rfl) T.g__law_pick T.F__law_pick.kp T.b__law_pick tk (ja_cons (jv 0) (ja_cons (jv 1) (ja_cons (j_lst (ja_cons j_int (ja_cons j_int (ja_cons j_int (ja_cons j_int (ja_cons j_int ja_nil)))))) ja_nil)))))
    (js_cons (js_set (i := 7) sc__law_drawn_web.nd rfl (by first | exact Or.inl rfl | exact Or.inr rfl) (j_slice (j_call (ok__law_mixed T fu) (hr.mono (by decide)) (by rfl) T.g__law_mixed T.F__law_mixed.kp T.b__law_mixed tk (ja_cons (jv 0) (ja_cons (jv 1) (ja_cons (j_slice (jv 4) jo_none (jo_some (j_bin op_addA pok_add j_int (j_call (ok__law_draw T fu) (hr.mono (by decide)) (by rfl) T.g__law_draw T.F__law_draw.kp T.b__law_draw tk (ja_cons (jv 0) (ja_cons (jv 1) (ja_cons j_int ja_nil))))))) ja_nil)))) jo_none (jo_some (jv 6))))
    (js_cons (js_if (jw_pt (jw_and (jt_cmp op_gt pok_gt (nomark _) (jv 3) j_int) (jw_and1 (jt_cmp (op_eqA hr.units) pok_eq (nomark _) (j_call (ok__law_draw T fu) (hr.mono (by decide)) (by rfl) T.g__law_draw T.F__law_draw.kp T.b__law_draw tk (ja_cons (jv 0) (ja_cons (jv 1) (ja_cons j_int ja_nil)))) j_int)))) (js_one (js_set (i := 7) sc__law_drawn_web.nd rfl (by first | exact Or.inl rfl | exact Or.inr rfl) (j_slice (j_bin op_addA pok_add (j_slice (j_call (ok__law_mixed T fu) (hr.mono (by decide)) (by rfl) T.g__law_mixed T.F__law_mixed.kp T.b__law_mixed tk (ja_cons (jv 0) (ja_cons (jv 1) (ja_cons (j_ix ix_seq pok_ix (fun _ _ => rfl) (j_ix ix_seq pok_ix (fun _ _ => rfl) (jv 5) (j_un un_neg pok_neg j_int)) j_int) ja_nil)))) jo_none (jo_some j_int)) (jv 7)) jo_none (jo_some j_int)))) js_nil)
    (js_cons (js_set (i := 7) sc__law_drawn_web.nd rfl (by first | exact Or.inl rfl | exact Or.inr rfl) (j_bin op_addA pok_add (jv 7) (j_bin op_mulA pok_mul (j_lst (ja_cons (j_call (ok__law_draw T fu) (hr.mono (by decide)) (by rfl) T.g__law_draw T.F__law_draw.kp T.b__law_draw tk (ja_cons (jv 0) (ja_cons (jv 1) (ja_cons j_int ja_nil)))) ja_nil)) (j_callT call_int1 pok_int (by rfl) T.z_int (by decide +kernel) (ja_cons (j_cmp (op_eqA hr.units) pok_eq (nomark _) (j_call (ok__law_draw T fu) (hr.mono (by decide)) (by rfl) T.g__law_draw T.F__law_draw.kp T.b__law_draw tk (ja_cons (jv 0) (ja_cons (jv 1) (ja_cons j_int ja_nil)))) j_int) ja_nil)))))
    (js_one (js_drop (j_append (jv 5) (j_tup (ja_cons (j_ix ix_seq pok_ix (fun _ _ => rfl) j_str (j_bin op_sub pok_sub (j_callB call_len pok_len (by rfl) T.z_len (by decide +kernel) (ja_cons (jv 7) ja_nil)) j_int)) (ja_cons (j_callT call_tuple_of pok_tup (by rfl) T.z_tuple (by decide +kernel) (ja_cons (jv 7) ja_nil)) ja_nil)))))))))))
    (js_one (js_ret (j_tup (ja_cons (j_callT call_tuple_of pok_tup (by rfl) T.z_tuple (by decide +kernel) (ja_cons (jv 5) ja_nil)) (ja_cons (j_tup ja_nil) ja_nil)))))))
theorem ok_names_in (fu : Nat) : FnOk P w K mg base (L2.CX P w) 1 a_names_in d_names_in P_names_in (spD K mg 1 (F_names_in fu)) := by
  refine fnT (N := N_names_in) (b := m_names_in fu) T.F_names_in sc_names_in fun cdv A outer s H E hr => ?_
  have tk : Takes (cxOf (L2.CX P w) P w K mg base N_names_in "names_in" (defScope s_names_in) a_names_in cdv A outer s H E) (fun c d _ H => E c d H) := takes_of rfl rfl rfl rfl
  exact (js_cons (js_set (i := 1) sc_names_in.nd rfl (by first | exact Or.inl rfl | exact Or.inr rfl) (j_newL ja_nil))
    (js_cons (js_for (passes_of rfl) rfl (ji_seq (jv 0)) (jgn 2 sc_names_in.nd) (js_one (js_if (jw_pt (jw_and (jt_tru (j_callB call_isi pok_isi (by rfl) T.z_isinstance (by decide +kernel) (ja_cons (jv 2) (ja_cons (j_ty (by rfl) T.z_str (by decide +kernel)) ja_nil)))) (jw_and1 (jt_cmp (op_ninT (room65 hr)) pok_ninT (by rfl) (jv 2) (jv 1))))) (js_one (js_drop (j_append (jv 1) (jv 2)))) js_nil)))
    (js_one (js_ret (j_callT call_tuple_of pok_tup (by rfl) T.z_tuple (by decide +kernel) (ja_cons (jv 1) ja_nil))))))
theorem ok_names_at (fu : Nat) : FnOk P w K mg base (L2.CX P w) 2 a_names_at d_names_at P_names_at (spD K mg 2 (F_names_at fu)) := by
  refine fnT (N := N_names_at) (b := m_names_at fu) T.F_names_at sc_names_at fun cdv A outer s H E hr => ?_
  have tk : Takes (cxOf (L2.CX P w) P w K mg base N_names_at "names_at" (defScope s_names_at) a_names_at cdv A outer s H E) (fun c d _ H => E c d H) := takes_of rfl rfl rfl rfl
  exact (js_one (js_ret (j_call (ok_names_in T fu) (hr.mono (by decide)) (by rfl) T.g_names_in T.F_names_in.kp T.b_names_in tk (ja_cons (j_ix ix_seq pok_ix (fun _ _ => rfl) (j_ix ix_seq pok_ix (fun _ _ => rfl) (j_ix ix_seq pok_ix (fun _ _ => rfl) (jv 0) j_int) (jv 1)) j_int) ja_nil))))
theorem ok_keeper_of (fu : Nat) : FnOk P w K mg base (L2.CX P w) 3 a_keeper_of d_keeper_of P_keeper_of (spD K mg 3 (F_keeper_of fu)) := by
  refine fnT (N := N_keeper_of) (b := m_keeper_of fu) T.F_keeper_of sc_keeper_of fun cdv A outer s H E hr => ?_
  have tk : Takes (cxOf (L2.CX P w) P w K mg base N_keeper_of "keeper_of" (defScope s_keeper_of) a_keeper_of cdv A outer s H E) (fun c d _ H => E c d H) := takes_of rfl rfl rfl rfl
  exact (js_cons (js_set (i := 3) sc_keeper_of.nd rfl (by first | exact Or.inl rfl | exact Or.inr rfl) (j_lcG (own := [("one", 5)]) (sl := [5]) (by decide) rfl sc_keeper_of.nd (ji_seqG (jv 2)) (blkOk_by (own := [("one", 5)]) (N := N_keeper_of) (sc := defScope s_keeper_of) (by decide +kernel)) (fun _ _ _ _ _ => (jgn 5 sc_keeper_of.nd)) (fun _ _ _ _ _ => (jts_one (jt_cmp (op_neA hr.units) pok_ne (nomark _) (jv 5) (jv 1)))) (fun _ _ _ _ _ => (jv 5))))
    (js_cons (js_setLc (i := 4) (own := [("name", 6)]) (sl := [6]) (by decide) rfl sc_keeper_of.nd rfl rfl (sw_true rfl rfl rfl (by decide +kernel)) (ji_seq (j_call (ok_names_at T fu) (hr.mono (by decide)) (by rfl) T.g_names_at T.F_names_at.kp T.b_names_at tk (ja_cons (jv 0) (ja_cons (jv 1) ja_nil)))) (blkOk_by (own := [("name", 6)]) (N := N_keeper_of) (sc := defScope s_keeper_of) (by decide +kernel)) (fun _ _ _ _ _ => (jgn 6 sc_keeper_of.nd)) (fun _ _ _ _ _ => (jts_one (jt_tru (j_callB (cr_any rfl) pok_any (by rfl) T.z_any (by decide +kernel) (ja_cons (j_lc (own := [("one", 5)]) (sl := [5]) (by decide) rfl sc_keeper_of.nd (ji_seq (jv 3)) (blkOk_by (own := [("one", 5)]) (by kernel_rfl)) (fun _ _ _ _ _ => (jgn 5 sc_keeper_of.nd)) (fun _ _ _ _ _ => jts_nil) (fun _ _ _ _ _ => (j_cmp (op_inT (room65 hr)) pok_inT (by rfl) (jv 6) (j_call (ok_names_at T fu) (hr.mono (by decide)) (by rfl) T.g_names_at T.F_names_at.kp T.b_names_at takes0 (ja_cons (jv 0) (ja_cons (jv 5) ja_nil)))))) ja_nil))))) (fun _ _ _ _ _ => (jv 6)))
    (js_cons (js_for (passes_of rfl) rfl (ji_seq (jv 3)) (jgn 5 sc_keeper_of.nd) (js_one (js_if (jt_tru (j_callB (cr_all rfl) pok_all (by rfl) T.z_all (by decide +kernel) (ja_cons (j_lc (own := [("name", 6)]) (sl := [6]) (by decide) rfl sc_keeper_of.nd (ji_seq (jv 4)) (blkOk_by (own := [("name", 6)]) (N := N_keeper_of) (sc := defScope s_keeper_of) (by decide +kernel)) (fun _ _ _ _ _ => (jgn 6 sc_keeper_of.nd)) (fun _ _ _ _ _ => jts_nil) (fun _ _ _ _ _ => (j_cmp (op_inT (room65 hr)) pok_inT (by rfl) (jv 6) (j_call (ok_names_at T fu) (hr.mono (by decide)) (by rfl) T.g_names_at T.F_names_at.kp T.b_names_at takes0 (ja_cons (jv 0) (ja_cons (jv 5) ja_nil)))))) ja_nil))) (js_one (js_ret (jv 5))) js_nil)))
    (js_one (js_ret j_non)))))
theorem ok_ears (fu : Nat) : FnOk P w K mg base (L2.CX P w) 4 a_ears d_ears P_ears (spD K mg 1 (F_ears fu)) := by
  refine fnT (N := N_ears) (b := m_ears fu) T.F_ears sc_ears fun cdv A outer s H E hr => ?_
  have tk : Takes (cxOf (L2.CX P w) P w K mg base N_ears "ears" (defScope s_ears) a_ears cdv A outer s H E) (fun c d _ H => E c d H) := takes_of rfl rfl rfl rfl
  exact (js_cons (js_asg (j_tup (ja_cons (j_newRng rfl (by rfl) T.z_list (by decide +kernel) (by rfl) T.z_range (by decide +kernel) (ja_cons (j_callB call_len pok_len (by rfl) T.z_len (by decide +kernel) (ja_cons (j_ix ix_seq pok_ix (fun _ _ => rfl) (jv 0) j_int) ja_nil)) ja_nil)) (ja_cons (j_newL ja_nil) ja_nil))) (jg_tup rfl (jgs_cons (jgn 1 sc_ears.nd) (jgs_cons (jgn 2 sc_ears.nd) jgs_nil))))
    (js_cons (js_while fu (passes_of rfl) (jt_cmp op_gt pok_gt (nomark _) (j_callB call_len pok_len (by rfl) T.z_len (by decide +kernel) (ja_cons (jv 1) ja_nil)) j_int) (js_cons (js_setLcG (i := 3) (own := [("at", 4)]) (sl := [4]) (by decide) rfl sc_ears.nd rfl rfl (sw_true rfl rfl rfl (by decide +kernel)) (ji_seqG (jv 1)) (blkOk_by (own := [("at", 4)]) (N := N_ears) (sc := defScope s_ears) (by decide +kernel)) (fun _ _ _ _ _ => (jgn 4 sc_ears.nd)) (fun _ _ _ _ _ => jts_nil) (fun _ _ _ _ _ => (j_tup (ja_cons (jv 4) (ja_cons (j_call (ok_keeper_of T fu) (hr.mono (by decide)) (by rfl) T.g_keeper_of T.F_keeper_of.kp T.b_keeper_of takes0 (ja_cons (jv 0) (ja_cons (jv 4) (ja_cons (jv 1) ja_nil)))) ja_nil)))))
    (js_cons (js_setLc (i := 3) (own := [("at", 4), ("keeper", 5)]) (sl := [4, 5]) (by decide) rfl sc_ears.nd rfl rfl (sw_true rfl rfl rfl (by decide +kernel)) (ji_seq (jv 3)) (blkOk_by (own := [("at", 4), ("keeper", 5)]) (N := N_ears) (sc := defScope s_ears) (by decide +kernel)) (fun _ _ _ _ _ => (jg_tup rfl (jgs_cons (jgn 4 sc_ears.nd) (jgs_cons (jgn 5 sc_ears.nd) jgs_nil)))) (fun _ _ _ _ _ => (jts_one (jt_cmp op_notN pok_notN (nomark _) (jv 5) j_non))) (fun _ _ _ _ _ => (j_tup (ja_cons (jv 4) (ja_cons (jv 5) ja_nil)))))
    (js_cons (js_if (jt_not (jt_tru (jv 3))) (js_one js_brk) js_nil)
    (js_cons (js_drop (j_append (jv 2) (j_ix ix_seq pok_ix (fun _ _ => rfl) (jv 3) j_int)))
    (js_one (js_drop (j_remove (jv 1) (j_ix ix_seq pok_ix (fun _ _ => rfl) (j_ix ix_seq pok_ix (fun _ _ => rfl) (jv 3) j_int) j_int)))))))))
    (js_one (js_ret (j_tup (ja_cons (jv 2) (ja_cons (jv 1) ja_nil)))))))
theorem ok_tree_for (fu : Nat) : FnOk P w K mg base (L2.CX P w) 5 a_tree_for d_tree_for P_tree_for (spD K mg 1 (F_tree_for fu)) := by
  refine fnT (N := N_tree_for) (b := m_tree_for fu) T.F_tree_for sc_tree_for fun cdv A outer s H E hr => ?_
  have tk : Takes (cxOf (L2.CX P w) P w K mg base N_tree_for "tree_for" (defScope s_tree_for) a_tree_for cdv A outer s H E) (fun c d _ H => E c d H) := takes_of rfl rfl rfl rfl
  exact (js_cons (js_asg (j_call (ok_ears T fu) (hr.mono (by decide)) (by rfl) T.g_ears T.F_ears.kp T.b_ears tk (ja_cons (jv 0) ja_nil)) (jg_tup rfl (jgs_cons (jgn 2 sc_tree_for.nd) (jgs_cons (jgn 3 sc_tree_for.nd) jgs_nil))))
    (js_cons (js_if (jt_cmp op_gt pok_gt (nomark _) (j_callB call_len pok_len (by rfl) T.z_len (by decide +kernel) (ja_cons (jv 3) ja_nil)) j_int) (js_one (js_ret j_non)) js_nil)
    (js_cons (js_set (i := 1) sc_tree_for.nd rfl (by first | exact Or.inl rfl | exact Or.inr rfl) (j_dc (nw := false) (own := [("at", 4), ("keeper", 5)]) (sl := [4, 5]) (by decide) rfl sc_tree_for.nd (ji_seq (jv 2)) (blkOk_by (own := [("at", 4), ("keeper", 5)]) (N := N_tree_for) (sc := defScope s_tree_for) (by decide +kernel)) (fun _ _ _ _ _ => (jg_tup rfl (jgs_cons (jgn 4 sc_tree_for.nd) (jgs_cons (jgn 5 sc_tree_for.nd) jgs_nil)))) (fun _ _ _ _ _ => jts_nil) (fun _ _ _ _ _ => (jv 4)) (fun _ _ _ _ _ => (jv 5))))
    (js_one (js_ret (j_callT call_tux pok_tux (by rfl) T.z_tuple (by decide +kernel) (ja_cons (j_lc (own := [("at", 4)]) (sl := [4]) (by decide) rfl sc_tree_for.nd (ji_rng1 (by rfl) T.z_range (ja_cons (j_callB call_len pok_len (by rfl) T.z_len (by decide +kernel) (ja_cons (j_ix ix_seq pok_ix (fun _ _ => rfl) (jv 0) j_int) ja_nil)) ja_nil)) (blkOk_by (own := [("at", 4)]) (N := N_tree_for) (sc := defScope s_tree_for) (by decide +kernel)) (fun _ _ _ _ _ => (jgn 4 sc_tree_for.nd)) (fun _ _ _ _ _ => jts_nil) (fun _ _ _ _ _ => (j_dget2 (Nat.lt_of_succ_lt (room65 hr)) (jv 1) (jv 4) j_non ⟨rfl, rfl, rfl, rfl⟩))) ja_nil)))))))
theorem ok_core (fu : Nat) : FnOk P w K mg base (L2.CX P w) 5 a_core d_core P_core (spD K mg 1 (F_core fu)) := by
  refine fnT (N := N_core) (b := m_core fu) T.F_core sc_core fun cdv A outer s H E hr => ?_
  have tk : Takes (cxOf (L2.CX P w) P w K mg base N_core "core" (defScope s_core) a_core cdv A outer s H E) (fun c d _ H => E c d H) := takes_of rfl rfl rfl rfl
  exact (js_cons (js_asg (j_call (ok_ears T fu) (hr.mono (by decide)) (by rfl) T.g_ears T.F_ears.kp T.b_ears tk (ja_cons (jv 0) ja_nil)) (jg_tup rfl (jgs_cons (jgn 1 sc_core.nd) (jgs_cons (jgn 2 sc_core.nd) jgs_nil))))
    (js_one (js_ret (j_if (jt_cmp (op_eqA hr.units) pok_eq (nomark _) (j_callB call_len pok_len (by rfl) T.z_len (by decide +kernel) (ja_cons (jv 2) ja_nil)) j_int) (j_tup ja_nil) (j_callT call_tuple_of pok_tup (by rfl) T.z_tuple (by decide +kernel) (ja_cons (jv 2) ja_nil))))))
theorem ok__law_same (fu : Nat) : ∀ n : Nat, FnOk P w K mg base (L2.CX P w) (1 + n) a__law_same d__law_same P__law_same (spD K mg 2 (F__law_same fu n))
  | 0 => fn_bad
  | n + 1 => by
    have ih := ok__law_same fu n
    refine fnT (k := 1 + n) (N := N__law_same) (b := m__law_same fu (F__law_same fu n)) T.F__law_same sc__law_same fun cdv A outer s H E hr => ?_
    have tk : Takes (cxOf (L2.CX P w) P w K mg base N__law_same "_law_same" (defScope s__law_same) a__law_same cdv A outer s H E) (fun c d _ H => E c d H) := takes_of rfl rfl rfl rfl
    exact (js_cons (js_if (jt_cmp op_isN pok_isN (nomark _) (jv 1) j_non) (js_one (js_ret (j_cmp op_isN pok_isN (nomark _) (jv 0) j_non))) js_nil)
    (js_cons (js_if (jt_tru (j_callB call_isi pok_isi (by rfl) T.z_isinstance (by decide +kernel) (ja_cons (jv 1) (ja_cons (j_ty (by rfl) T.z_bool (by decide +kernel)) ja_nil)))) (js_one (js_ret (j_and (j_callB call_isi pok_isi (by rfl) T.z_isinstance (by decide +kernel) (ja_cons (jv 0) (ja_cons (j_ty (by rfl) T.z_bool (by decide +kernel)) ja_nil))) (j_one (j_cmp (op_eqA hr.units) pok_eq (nomark _) (jv 0) (jv 1)))))) js_nil)
    (js_cons (js_if (jt_tru (j_callB call_isi pok_isi (by rfl) T.z_isinstance (by decide +kernel) (ja_cons (jv 1) (ja_cons (j_ty (by rfl) T.z_tuple (by decide +kernel)) ja_nil)))) (js_cons (js_if (jw_pt (jw_or (jt_not (jt_tru (j_callB call_isi pok_isi (by rfl) T.z_isinstance (by decide +kernel) (ja_cons (jv 0) (ja_cons (j_ty (by rfl) T.z_tuple (by decide +kernel)) ja_nil))))) (jw_or1 (jt_cmp (op_neA hr.units) pok_ne (nomark _) (j_callB call_len pok_len (by rfl) T.z_len (by decide +kernel) (ja_cons (jv 0) ja_nil)) (j_callB call_len pok_len (by rfl) T.z_len (by decide +kernel) (ja_cons (jv 1) ja_nil)))))) (js_one (js_ret j_bl)) js_nil)
    (js_one (js_ret (j_callB (cr_all rfl) pok_all (by rfl) T.z_all (by decide +kernel) (ja_cons (j_lc (own := [("one", 2), ("other", 3)]) (sl := [2, 3]) (by decide) rfl sc__law_same.nd (ji_zip (by rfl) T.z_zip (ja_cons (jv 0) (ja_cons (jv 1) ja_nil))) (blkOk_by (own := [("one", 2), ("other", 3)]) (N := N__law_same) (sc := defScope s__law_same) (by decide +kernel)) (fun _ _ _ _ _ => (jg_tup rfl (jgs_cons (jgn 2 sc__law_same.nd) (jgs_cons (jgn 3 sc__law_same.nd) jgs_nil)))) (fun _ _ _ _ _ => jts_nil) (fun _ _ _ _ _ => (j_call ih (hr.mono (by omega)) (by rfl) T.g__law_same T.F__law_same.kp T.b__law_same takes0 (ja_cons (jv 2) (ja_cons (jv 3) ja_nil))))) ja_nil))))) js_nil)
    (js_cons (js_if (jt_tru (j_callB call_isi pok_isi (by rfl) T.z_isinstance (by decide +kernel) (ja_cons (jv 1) (ja_cons (j_ty (by rfl) T.z_str (by decide +kernel)) ja_nil)))) (js_one (js_ret (j_and (j_callB call_isi pok_isi (by rfl) T.z_isinstance (by decide +kernel) (ja_cons (jv 0) (ja_cons (j_ty (by rfl) T.z_str (by decide +kernel)) ja_nil))) (j_one (j_cmp (op_eqA hr.units) pok_eq (nomark _) (jv 0) (jv 1)))))) js_nil)
    (js_one (js_ret (j_and (j_callB call_isi pok_isi (by rfl) T.z_isinstance (by decide +kernel) (ja_cons (jv 0) (ja_cons (j_ty (by rfl) T.z_int (by decide +kernel)) ja_nil))) (j_and (j_not (j_callB call_isi pok_isi (by rfl) T.z_isinstance (by decide +kernel) (ja_cons (jv 0) (ja_cons (j_ty (by rfl) T.z_bool (by decide +kernel)) ja_nil)))) (j_one (j_cmp (op_eqA hr.units) pok_eq (nomark _) (jv 0) (jv 1)))))))))))
theorem ok_leads_up (fu : Nat) : FnOk P w K mg base (L2.CX P w) 1 a_leads_up d_leads_up P_leads_up (spD K mg 2 (F_leads_up fu)) := by
  refine fnT (N := N_leads_up) (b := m_leads_up fu) T.F_leads_up sc_leads_up fun cdv A outer s H E hr => ?_
  have tk : Takes (cxOf (L2.CX P w) P w K mg base N_leads_up "leads_up" (defScope s_leads_up) a_leads_up cdv A outer s H E) (fun c d _ H => E c d H) := takes_of rfl rfl rfl rfl
  exact (js_cons (js_for (passes_of rfl) rfl (ji_rng1 (by rfl) T.z_range (ja_cons (j_callB call_len pok_lenX (by rfl) T.z_len (by decide +kernel) (ja_cons (jv 0) ja_nil)) ja_nil)) (jgn 2 sc_leads_up.nd) (js_cons (js_if (jt_cmp op_isN pok_isN (nomark _) (j_ix ix_seq pok_ixX (fun _ _ => rfl) (jv 0) (jv 1)) j_non) (js_one (js_ret j_bl)) js_nil)
    (js_one (js_set (i := 1) sc_leads_up.nd rfl (by first | exact Or.inl rfl | exact Or.inr rfl) (j_ix ix_seq pok_ixX (fun _ _ => rfl) (jv 0) (jv 1))))))
    (js_one (js_ret j_bl)))
theorem ok_is_whole (fu : Nat) : FnOk P w K mg base (L2.CX P w) 1 a_is_whole d_is_whole P_is_whole (spD K mg 1 (F_is_whole fu)) := by
  refine fnT (N := N_is_whole) (b := m_is_whole fu) T.F_is_whole sc_is_whole fun cdv A outer s H E hr => ?_
  have tk : Takes (cxOf (L2.CX P w) P w K mg base N_is_whole "is_whole" (defScope s_is_whole) a_is_whole cdv A outer s H E) (fun c d _ H => E c d H) := takes_of rfl rfl rfl rfl
  exact (js_one (js_ret (j_and (j_callB call_isi pok_isiX (by rfl) T.z_isinstance (by decide +kernel) (ja_cons (jv 0) (ja_cons (j_ty (by rfl) T.z_int (by decide +kernel)) ja_nil))) (j_one (j_not (j_callB call_isi pok_isiX (by rfl) T.z_isinstance (by decide +kernel) (ja_cons (jv 0) (ja_cons (j_ty (by rfl) T.z_bool (by decide +kernel)) ja_nil))))))))
theorem ok_is_tree (fu : Nat) : FnOk P w K mg base (L2.CX P w) 3 a_is_tree d_is_tree P_is_tree (spD K mg 2 (F_is_tree fu)) := by
  refine fnT (N := N_is_tree) (b := m_is_tree fu) T.F_is_tree sc_is_tree fun cdv A outer s H E hr => ?_
  have tk : Takes (cxOf (L2.CX P w) P w K mg base N_is_tree "is_tree" (defScope s_is_tree) a_is_tree cdv A outer s H E) (fun c d _ H => E c d H) := takes_of rfl rfl rfl rfl
  exact (js_cons (js_set (i := 2) sc_is_tree.nd rfl (by first | exact Or.inl rfl | exact Or.inr rfl) (j_callB call_len pok_lenX (by rfl) T.z_len (by decide +kernel) (ja_cons (j_ix ix_seq pok_ixX (fun _ _ => rfl) (jv 0) j_int) ja_nil)))
    (js_cons (js_if (jw_pt (jw_or (jt_not (jt_truX (j_callB call_isi pok_isiX (by rfl) T.z_isinstance (by decide +kernel) (ja_cons (jv 1) (ja_cons (j_ty (by rfl) T.z_tuple (by decide +kernel)) ja_nil))))) (jw_or1 (jt_cmp (op_neA hr.units) pok_ne (nomark _) (j_callB call_len pok_lenX (by rfl) T.z_len (by decide +kernel) (ja_cons (jv 1) ja_nil)) (jv 2))))) (js_one (js_ret j_bl)) js_nil)
    (js_cons (js_if (jw_pt (jw_or (jt_not (jt_truX (j_callB (cr_all rfl) pok_all (by rfl) T.z_all (by decide +kernel) (ja_cons (j_lc (own := [("one", 9)]) (sl := [9]) (by decide) rfl sc_is_tree.nd (ji_seqX (jv 1)) (blkOk_by (own := [("one", 9)]) (N := N_is_tree) (sc := defScope s_is_tree) (by decide +kernel)) (fun _ _ _ _ _ => (jgn 9 sc_is_tree.nd)) (fun _ _ _ _ _ => jts_nil) (fun _ _ _ _ _ => (j_or (j_cmp op_isN pok_isN (nomark _) (jv 9) j_non) (j_one (j_and (j_call (ok_is_whole T fu) (hr.mono (by decide)) (by rfl) T.g_is_whole T.F_is_whole.kp T.b_is_whole takes0 (ja_cons (jv 9) ja_nil)) (j_one (j_chain op_leA pok_le op_ltA pok_lt j_int (jv 9) (jv 2)))))))) ja_nil)))) (jw_or1 (jt_cmp (op_neA hr.units) pok_ne (nomark _) (j_cntX (room65 hr) (jv 1) j_non) j_int)))) (js_one (js_ret j_bl)) js_nil)
    (js_cons (js_if (jt_not (jt_truX (j_callB (cr_all rfl) pok_all (by rfl) T.z_all (by decide +kernel) (ja_cons (j_lc (own := [("at", 8)]) (sl := [8]) (by decide) rfl sc_is_tree.nd (ji_rng1 (by rfl) T.z_range (ja_cons (jv 2) ja_nil)) (blkOk_by (own := [("at", 8)]) (N := N_is_tree) (sc := defScope s_is_tree) (by decide +kernel)) (fun _ _ _ _ _ => (jgn 8 sc_is_tree.nd)) (fun _ _ _ _ _ => jts_nil) (fun _ _ _ _ _ => (j_call (ok_leads_up T fu) (hr.mono (by decide)) (by rfl) T.g_leads_up T.F_leads_up.kp T.b_leads_up takes0 (ja_cons (jv 1) (ja_cons (jv 8) ja_nil))))) ja_nil)))) (js_one (js_ret j_bl)) js_nil)
    (js_cons (js_for (passes_of rfl) rfl (ji_seqX (j_call (ok_names_in T fu) (hr.mono (by decide)) (by rfl) T.g_names_in T.F_names_in.kp T.b_names_in tk (ja_cons (j_lc2 (own := [("word", 5), ("terms", 6), ("term", 7)]) (sl := [5, 6]) (sl1 := [7]) (vs1 := [7]) (by decide) (by decide) (by decide) rfl sc_is_tree.nd (ji_seqX (j_ix ix_seq pok_ixX (fun _ _ => rfl) (jv 0) j_int)) (blkOk_by (own := [("word", 5), ("terms", 6), ("term", 7)]) (N := N_is_tree) (sc := defScope s_is_tree) (by decide +kernel)) (fun _ _ _ _ _ => (jg_tup rfl (jgs_cons (jgn 5 sc_is_tree.nd) (jgs_cons (jgn 6 sc_is_tree.nd) jgs_nil)))) (fun _ _ _ _ _ => jts_nil) (fun _ _ _ _ _ => (ji_seqX (jv 6))) (fun _ _ _ _ _ => (jgn 7 sc_is_tree.nd)) (fun _ _ _ _ _ => jts_nil) (fun _ _ _ _ _ => (jv 7))) ja_nil))) (jgn 3 sc_is_tree.nd) (js_cons (js_set (i := 4) sc_is_tree.nd rfl (by first | exact Or.inl rfl | exact Or.inr rfl) (j_lc (own := [("at", 8)]) (sl := [8]) (by decide) rfl sc_is_tree.nd (ji_rng1 (by rfl) T.z_range (ja_cons (jv 2) ja_nil)) (blkOk_by (own := [("at", 8)]) (N := N_is_tree) (sc := defScope s_is_tree) (by decide +kernel)) (fun _ _ _ _ _ => (jgn 8 sc_is_tree.nd)) (fun _ _ _ _ _ => (jts_one (jt_cmp (op_inT (room65 hr)) pok_inT (by rfl) (jv 3) (j_call (ok_names_at T fu) (hr.mono (by decide)) (by rfl) T.g_names_at T.F_names_at.kp T.b_names_at takes0 (ja_cons (jv 0) (ja_cons (jv 8) ja_nil)))))) (fun _ _ _ _ _ => (jv 8))))
    (js_one (js_if (jt_cmp (op_neA hr.units) pok_ne (nomark _) (j_callB call_len pok_lenX (by rfl) T.z_len (by decide +kernel) (ja_cons (j_lc (own := [("at", 8)]) (sl := [8]) (by decide) rfl sc_is_tree.nd (ji_seqX (jv 4)) (blkOk_by (own := [("at", 8)]) (N := N_is_tree) (sc := defScope s_is_tree) (by decide +kernel)) (fun _ _ _ _ _ => (jgn 8 sc_is_tree.nd)) (fun _ _ _ _ _ => (jts_one (jt_cmp (op_inT (room65 hr)) pok_inT (by rfl) (j_ix ix_seq pok_ixX (fun _ _ => rfl) (jv 1) (jv 8)) (jv 4)))) (fun _ _ _ _ _ => (jv 8))) ja_nil)) (j_bin op_sub pok_sub (j_callB call_len pok_lenX (by rfl) T.z_len (by decide +kernel) (ja_cons (jv 4) ja_nil)) j_int)) (js_one (js_ret j_bl)) js_nil))))
    (js_one (js_ret j_bl)))))))
theorem ok__law_own (fu : Nat) : FnOk P w K mg base (L2.CX P w) 1 a__law_own d__law_own P__law_own (spD K mg 2 (F__law_own fu)) := by
  refine fnT (N := N__law_own) (b := m__law_own fu) T.F__law_own sc__law_own fun cdv A outer s H E hr => ?_
  have tk : Takes (cxOf (L2.CX P w) P w K mg base N__law_own "_law_own" (defScope s__law_own) a__law_own cdv A outer s H E) (fun c d _ H => E c d H) := takes_of rfl rfl rfl rfl
  exact (js_one (js_ret (j_lc (own := [("one", 2)]) (sl := [2]) (by decide) rfl sc__law_own.nd (ji_seq (j_ix ix_seq pok_ix (fun _ _ => rfl) (j_ix ix_seq pok_ix (fun _ _ => rfl) (j_ix ix_seq pok_ix (fun _ _ => rfl) (jv 0) j_int) (jv 1)) j_int)) (blkOk_by (own := [("one", 2)]) (N := N__law_own) (sc := defScope s__law_own) (by decide +kernel)) (fun _ _ _ _ _ => (jgn 2 sc__law_own.nd)) (fun _ _ _ _ _ => (jts_one (jt_tru (j_callB call_isi pok_isi (by rfl) T.z_isinstance (by decide +kernel) (ja_cons (jv 2) (ja_cons (j_ty (by rfl) T.z_str (by decide +kernel)) ja_nil)))))) (fun _ _ _ _ _ => (jv 2)))))
theorem ok__law_no_ear (fu : Nat) : FnOk P w K mg base (L2.CX P w) 2 a__law_no_ear d__law_no_ear P__law_no_ear (spD K mg 2 (F__law_no_ear fu)) := by
  refine fnT (N := N__law_no_ear) (b := m__law_no_ear fu) T.F__law_no_ear sc__law_no_ear fun cdv A outer s H E hr => ?_
  have tk : Takes (cxOf (L2.CX P w) P w K mg base N__law_no_ear "_law_no_ear" (defScope s__law_no_ear) a__law_no_ear cdv A outer s H E) (fun c d _ H => E c d H) := takes_of rfl rfl rfl rfl
  exact (js_cons (js_for (passes_of rfl) rfl (ji_seq (jv 1)) (jgn 2 sc__law_no_ear.nd) (js_cons (js_set (i := 3) sc__law_no_ear.nd rfl (by first | exact Or.inl rfl | exact Or.inr rfl) (j_lc (own := [("one", 5)]) (sl := [5]) (by decide) rfl sc__law_no_ear.nd (ji_seq (jv 1)) (blkOk_by (own := [("one", 5)]) (N := N__law_no_ear) (sc := defScope s__law_no_ear) (by decide +kernel)) (fun _ _ _ _ _ => (jgn 5 sc__law_no_ear.nd)) (fun _ _ _ _ _ => (jts_one (jt_cmp (op_neA hr.units) pok_ne (nomark _) (jv 5) (jv 2)))) (fun _ _ _ _ _ => (jv 5))))
    (js_cons (js_set (i := 4) sc__law_no_ear.nd rfl (by first | exact Or.inl rfl | exact Or.inr rfl) (j_lc (own := [("name", 6)]) (sl := [6]) (by decide) rfl sc__law_no_ear.nd (ji_seq (j_call (ok__law_own T fu) (hr.mono (by decide)) (by rfl) T.g__law_own T.F__law_own.kp T.b__law_own tk (ja_cons (jv 0) (ja_cons (jv 2) ja_nil)))) (blkOk_by (own := [("name", 6)]) (N := N__law_no_ear) (sc := defScope s__law_no_ear) (by decide +kernel)) (fun _ _ _ _ _ => (jgn 6 sc__law_no_ear.nd)) (fun _ _ _ _ _ => (jts_one (jt_tru (j_lc (own := [("one", 5)]) (sl := [5]) (by decide) rfl sc__law_no_ear.nd (ji_seq (jv 3)) (blkOk_by (own := [("one", 5)]) (by kernel_rfl)) (fun _ _ _ _ _ => (jgn 5 sc__law_no_ear.nd)) (fun _ _ _ _ _ => (jts_one (jt_cmp (op_inT (room65 hr)) pok_inT (by rfl) (jv 6) (j_call (ok__law_own T fu) (hr.mono (by decide)) (by rfl) T.g__law_own T.F__law_own.kp T.b__law_own takes0 (ja_cons (jv 0) (ja_cons (jv 5) ja_nil)))))) (fun _ _ _ _ _ => j_int))))) (fun _ _ _ _ _ => (jv 6))))
    (js_one (js_if (jt_tru (j_lc (own := [("one", 5)]) (sl := [5]) (by decide) rfl sc__law_no_ear.nd (ji_seq (jv 3)) (blkOk_by (own := [("one", 5)]) (N := N__law_no_ear) (sc := defScope s__law_no_ear) (by decide +kernel)) (fun _ _ _ _ _ => (jgn 5 sc__law_no_ear.nd)) (fun _ _ _ _ _ => (jts_one (jt_cmp (op_eqA hr.units) pok_eq (nomark _) (j_lc (own := [("name", 6)]) (sl := [6]) (by decide) rfl sc__law_no_ear.nd (ji_seq (jv 4)) (blkOk_by (own := [("name", 6)]) (by kernel_rfl)) (fun _ _ _ _ _ => (jgn 6 sc__law_no_ear.nd)) (fun _ _ _ _ _ => (jts_one (jt_cmp (op_ninT (room65 hr)) pok_ninT (by rfl) (jv 6) (j_call (ok__law_own T fu) (hr.mono (by decide)) (by rfl) T.g__law_own T.F__law_own.kp T.b__law_own takes0 (ja_cons (jv 0) (ja_cons (jv 5) ja_nil)))))) (fun _ _ _ _ _ => (jv 6))) (j_lst ja_nil)))) (fun _ _ _ _ _ => j_int))) (js_one (js_ret j_bl)) js_nil)))))
    (js_one (js_ret j_bl)))
theorem ok__law_every (fu : Nat) : FnOk P w K mg base (L2.CX P w) 1 a__law_every d__law_every P__law_every (spD K mg 1 (F__law_every fu)) := by
  refine fnT (N := N__law_every) (b := m__law_every fu) T.F__law_every sc__law_every fun cdv A outer s H E hr => ?_
  have tk : Takes (cxOf (L2.CX P w) P w K mg base N__law_every "_law_every" (defScope s__law_every) a__law_every cdv A outer s H E) (fun c d _ H => E c d H) := takes_of rfl rfl rfl rfl
  exact (js_cons (js_set (i := 1) sc__law_every.nd rfl (by first | exact Or.inl rfl | exact Or.inr rfl) (j_lst (ja_cons (j_tux ja_nil) ja_nil)))
    (js_cons (js_for (passes_of rfl) rfl (ji_rng1 (by rfl) T.z_range (ja_cons (jv 0) ja_nil)) (jgn 2 sc__law_every.nd) (js_cons (js_set (i := 3) sc__law_every.nd rfl (by first | exact Or.inl rfl | exact Or.inr rfl) (j_lst ja_nil))
    (js_cons (js_for (passes_of rfl) rfl (ji_seqX (jv 1)) (jgn 4 sc__law_every.nd) (js_one (js_set (i := 3) sc__law_every.nd rfl (by first | exact Or.inl rfl | exact Or.inr rfl) (j_bin op_addX pok_addX (jv 3) (j_lc (own := [("one", 5)]) (sl := [5]) (by decide) rfl sc__law_every.nd (ji_seqX (j_bin op_addX pok_addX (j_lst (ja_cons j_non ja_nil)) (j_lstRng rfl (by rfl) T.z_list (by decide +kernel) (by rfl) T.z_range (by decide +kernel) (ja_cons (jv 0) ja_nil)))) (blkOk_by (own := [("one", 5)]) (N := N__law_every) (sc := defScope s__law_every) (by decide +kernel)) (fun _ _ _ _ _ => (jgn 5 sc__law_every.nd)) (fun _ _ _ _ _ => jts_nil) (fun _ _ _ _ _ => (j_bin op_addX pok_addX (jv 4) (j_tux (ja_cons (jv 5) ja_nil)))))))))
    (js_one (js_set (i := 1) sc__law_every.nd rfl (by first | exact Or.inl rfl | exact Or.inr rfl) (jv 3))))))
    (js_one (js_ret (j_lc (own := [("row", 4)]) (sl := [4]) (by decide) rfl sc__law_every.nd (ji_seqX (jv 1)) (blkOk_by (own := [("row", 4)]) (N := N__law_every) (sc := defScope s__law_every) (by decide +kernel)) (fun _ _ _ _ _ => (jgn 4 sc__law_every.nd)) (fun _ _ _ _ _ => (jts_one (jt_cmp (op_eqA hr.units) pok_eq (nomark _) (j_callB call_len pok_lenX (by rfl) T.z_len (by decide +kernel) (ja_cons (j_lc (own := [("one", 5)]) (sl := [5]) (by decide) rfl sc__law_every.nd (ji_seqX (jv 4)) (blkOk_by (own := [("one", 5)]) (by kernel_rfl)) (fun _ _ _ _ _ => (jgn 5 sc__law_every.nd)) (fun _ _ _ _ _ => (jts_one (jt_cmp op_isN pok_isN (nomark _) (jv 5) j_non))) (fun _ _ _ _ _ => j_int)) ja_nil)) j_int))) (fun _ _ _ _ _ => (jv 4)))))))
theorem ok_law (fu : Nat) : FnOk P w K mg base (L2.CX P w) 6 a_law d_law P_law (spD K mg 1 (F_law fu)) := by
  refine fnT (N := N_law) (b := m_law fu) T.F_law sc_law fun cdv A outer s H E hr => ?_
  have tk : Takes (cxOf (L2.CX P w) P w K mg base N_law "law" (defScope s_law) a_law cdv A outer s H E) (fun c d _ H => E c d H) := takes_of rfl rfl rfl rfl
  exact (js_cons (js_set (i := 1) sc_law.nd rfl (by first | exact Or.inl rfl | exact Or.inr rfl) (j_newL ja_nil))
    (js_cons (js_for (passes_of rfl) rfl (ji_rng1 (by rfl) T.z_range (ja_cons j_int ja_nil)) (jgn 2 sc_law.nd) (js_cons (js_set (i := 3) sc_law.nd rfl (by first | exact Or.inl rfl | exact Or.inr rfl) (j_call (ok__law_drawn_web T fu) (hr.mono (by decide)) (by rfl) T.g__law_drawn_web T.F__law_drawn_web.kp T.b__law_drawn_web tk (ja_cons (jv 0) (ja_cons (jv 1) (ja_cons j_int ja_nil)))))
    (js_cons (js_par (i := 8) (j := 9) rfl sc_law.nd rfl rfl (by decide) rfl rfl (ja_cons (j_ix ix_seq pok_ix (fun _ _ => rfl) (jv 3) j_int) (ja_cons (j_callB call_len pok_len (by rfl) T.z_len (by decide +kernel) (ja_cons (j_ix ix_seq pok_ix (fun _ _ => rfl) (jv 3) j_int) ja_nil)) ja_nil)) (by rfl))
    (js_cons (js_par (i := 10) (j := 11) rfl sc_law.nd rfl rfl (by decide) rfl rfl (ja_cons (j_call (ok_tree_for T fu) (hr.mono (by decide)) (by rfl) T.g_tree_for T.F_tree_for.kp T.b_tree_for tk (ja_cons (jv 3) ja_nil)) (ja_cons (j_call (ok_core T fu) (hr.mono (by decide)) (by rfl) T.g_core T.F_core.kp T.b_core tk (ja_cons (jv 3) ja_nil)) ja_nil)) (by rfl))
    (js_cons (js_if (jt_cmp (op_neA hr.units) pok_ne (nomark _) (j_cmp op_isN pok_isN (nomark _) (jv 10) j_non) (j_cmp (op_neA hr.units) pok_ne (nomark _) (jv 11) (j_tup ja_nil))) (js_one (js_ret j_bl)) js_nil)
    (js_cons (js_if (jw_pt (jw_and (jt_cmp op_notN pok_notN (nomark _) (jv 10) j_non) (jw_and1 (jt_not (jt_tru (j_call (ok__law_same T fu 4) (hr.mono (by decide)) (by rfl) T.g__law_same T.F__law_same.kp T.b__law_same tk (ja_cons (j_call (ok_is_tree T fu) (hr.mono (by decide)) (by rfl) T.g_is_tree T.F_is_tree.kp T.b_is_tree tk (ja_cons (jv 3) (ja_cons (jv 10) ja_nil))) (ja_cons j_bl ja_nil)))))))) (js_one (js_ret j_bl)) js_nil)
    (js_cons (js_if (jt_cmp op_isN pok_isN (nomark _) (jv 10) j_non) (js_cons (js_if (jw_pt (jw_or (jt_cmp op_ltA pok_lt (nomark _) (j_callB call_len pok_len (by rfl) T.z_len (by decide +kernel) (ja_cons (jv 11) ja_nil)) j_int) (jw_or (jt_not (jt_tru (j_call (ok__law_no_ear T fu) (hr.mono (by decide)) (by rfl) T.g__law_no_ear T.F__law_no_ear.kp T.b__law_no_ear tk (ja_cons (jv 3) (ja_cons (jv 11) ja_nil))))) (jw_or1 (jt_cmp (op_neA hr.units) pok_ne (nomark _) (j_callT call_list_of pok_lst (by rfl) T.z_list (by decide +kernel) (ja_cons (jv 11) ja_nil)) (j_callBT (cr_sortedSet rfl) (cr_setA rfl) pok_sortSetT (by rfl) T.z_sorted (by decide +kernel) (by rfl) T.z_set (by decide +kernel) (ja_cons (jv 11) ja_nil))))))) (js_one (js_ret j_bl)) js_nil)
    (js_one (js_if (jt_tru (j_lc (own := [("row", 12)]) (sl := [12]) (by decide) rfl sc_law.nd (ji_seq (j_call (ok__law_every T fu) (hr.mono (by decide)) (by rfl) T.g__law_every T.F__law_every.kp T.b__law_every tk (ja_cons (jv 9) ja_nil))) (blkOk_by (own := [("row", 12)]) (N := N_law) (sc := defScope s_law) (by decide +kernel)) (fun _ _ _ _ _ => (jgn 12 sc_law.nd)) (fun _ _ _ _ _ => (jts_one (jt_tru (j_call (ok_is_tree T fu) (hr.mono (by decide)) (by rfl) T.g_is_tree T.F_is_tree.kp T.b_is_tree takes0 (ja_cons (jv 3) (ja_cons (jv 12) ja_nil)))))) (fun _ _ _ _ _ => j_int))) (js_one (js_ret j_bl)) js_nil))) js_nil)
    (js_cons (js_set (i := 4) sc_law.nd rfl (by first | exact Or.inl rfl | exact Or.inr rfl) (j_lst ja_nil))
    (js_cons (js_for (passes_of rfl) rfl (ji_rng1 (by rfl) T.z_range (ja_cons (jv 9) ja_nil)) (jgn 5 sc_law.nd) (js_one (js_set (i := 4) sc_law.nd rfl (by first | exact Or.inl rfl | exact Or.inr rfl) (j_bin op_addA pok_add (jv 4) (j_lc (own := [("name", 13)]) (sl := [13]) (by decide) rfl sc_law.nd (ji_seq (j_call (ok__law_own T fu) (hr.mono (by decide)) (by rfl) T.g__law_own T.F__law_own.kp T.b__law_own tk (ja_cons (jv 3) (ja_cons (jv 5) ja_nil)))) (blkOk_by (own := [("name", 13)]) (N := N_law) (sc := defScope s_law) (by decide +kernel)) (fun _ _ _ _ _ => (jgn 13 sc_law.nd)) (fun _ _ _ _ _ => (jts_one (jt_cmp (op_ninT (room65 hr)) pok_ninT (by rfl) (jv 13) (jv 4)))) (fun _ _ _ _ _ => (jv 13)))))))
    (js_cons (js_set (i := 6) sc_law.nd rfl (by first | exact Or.inl rfl | exact Or.inr rfl) (j_tup (ja_cons (j_bin op_addA pok_add (jv 8) (j_tup (ja_cons (j_tup (ja_cons j_str (ja_cons (j_callT call_tuple_of pok_tup (by rfl) T.z_tuple (by decide +kernel) (ja_cons (jv 4) ja_nil)) ja_nil))) ja_nil))) (ja_cons (j_tup ja_nil) ja_nil))))
    (js_cons (js_if (jw_pt (jw_or (jt_cmp (op_neA hr.units) pok_ne (nomark _) (j_call (ok_core T fu) (hr.mono (by decide)) (by rfl) T.g_core T.F_core.kp T.b_core tk (ja_cons (jv 6) ja_nil)) (j_tup ja_nil)) (jw_or1 (jt_not (jt_tru (j_call (ok_is_tree T fu) (hr.mono (by decide)) (by rfl) T.g_is_tree T.F_is_tree.kp T.b_is_tree tk (ja_cons (jv 6) (ja_cons (j_call (ok_tree_for T fu) (hr.mono (by decide)) (by rfl) T.g_tree_for T.F_tree_for.kp T.b_tree_for tk (ja_cons (jv 6) ja_nil)) ja_nil)))))))) (js_one (js_ret j_bl)) js_nil)
    (js_one (js_for (passes_of rfl) rfl (ji_seq (j_tup (ja_cons (j_bin op_addA pok_add (jv 8) (j_slice (jv 8) (jo_some (j_un un_neg pok_neg j_int)) jo_none)) (ja_cons (j_callT call_tuple_of pok_tup (by rfl) T.z_tuple (by decide +kernel) (ja_cons (j_call (ok__law_mixed T fu) (hr.mono (by decide)) (by rfl) T.g__law_mixed T.F__law_mixed.kp T.b__law_mixed tk (ja_cons (jv 0) (ja_cons (jv 1) (ja_cons (jv 8) ja_nil)))) ja_nil)) ja_nil)))) (jgn 7 sc_law.nd) (js_one (js_if (jt_cmp (op_neA hr.units) pok_ne (nomark _) (j_cmp op_isN pok_isN (nomark _) (j_call (ok_tree_for T fu) (hr.mono (by decide)) (by rfl) T.g_tree_for T.F_tree_for.kp T.b_tree_for tk (ja_cons (j_tup (ja_cons (jv 7) (ja_cons (j_tup ja_nil) ja_nil))) ja_nil)) j_non) (j_cmp op_isN pok_isN (nomark _) (jv 10) j_non)) (js_one (js_ret j_bl)) js_nil)))))))))))))))
    (js_one (js_ret j_bl))))
end
end Law
namespace Law
open PySem L2 Dv Sx Re
theorem fweb_eq (fu : Nat) : F__law_drawn_web fu = Qw.FWeb fu := rfl
theorem fsame_eq (fu : Nat) : F__law_same fu 4 = FSame 4 := rfl
theorem fmix_eq (fu : Nat) : F__law_mixed fu = FMixed fu := rfl
theorem fcore_eq (fu : Nat) : F_core fu = Tr.FCore fu := rfl
theorem ftree_eq (fu : Nat) : F_tree_for fu = Jt.FTree fu := rfl
theorem fist_eq (fu : Nat) : F_is_tree fu = Tr.FIsT := rfl
theorem fown_eq (fu : Nat) : F__law_own fu = Tr.FOwn1 := rfl
theorem fno_eq (fu : Nat) : F__law_no_ear fu = FNoEar := rfl
theorem fev_eq (fu : Nat) : F__law_every fu = FEvery := rfl
def c1 (fu : Nat) : SM := (sSet 3 (mApp 3 (Qw.FWeb fu) (mCons (mVar 0) (mCons (mVar 1) (mCons (mC (.int 4)) mNil)))))
def c2 : SM := (sPar 8 9 (mCons (mBin ixD (mVar 3) (mC (.int 0))) (mCons (mCall lenD (mCons (mBin ixD (mVar 3) (mC (.int 0))) mNil)) mNil)))
def c3 (fu : Nat) : SM := (sPar 10 11 (mCons (mApp 1 (Jt.FTree fu) (mCons (mVar 3) mNil)) (mCons (mApp 1 (Tr.FCore fu) (mCons (mVar 3) mNil)) mNil)))
def c4 : SM := (sIf (mT (mBin neD (mBin isND (mVar 10) (mC .non)) (mBin neD (mVar 11) (mTup mNil)))) (sRet (mC (.bl false))) sNil)
def c5 : SM := (sIf (mAndT (mT (mBin notND (mVar 10) (mC .non))) (mNotT (mTru (mApp 2 (FSame 4) (mCons (mApp 2 Tr.FIsT (mCons (mVar 3) (mCons (mVar 10) mNil))) (mCons (mC (.bl true)) mNil)))))) (sRet (mC (.bl false))) sNil)
def c6a : SM := (sIf (mOrT (mT (mBin ltD (mCall lenD (mCons (mVar 11) mNil)) (mC (.int 2)))) (mOrT (mNotT (mTru (mApp 2 FNoEar (mCons (mVar 3) (mCons (mVar 11) mNil))))) (mT (mBin neD (mCall lstD (mCons (mVar 11) mNil)) (mCall sortSetTD (mCons (mVar 11) mNil)))))) (sRet (mC (.bl false))) sNil)
def c6b : SM := (sIf (mTru (mLc (mIter (mApp 1 FEvery (mCons (mVar 9) mNil))) [12] (tgN 12) (mTru (mApp 2 Tr.FIsT (mCons (mVar 3) (mCons (mVar 12) mNil)))) (mC (.int 1)))) (sRet (mC (.bl false))) sNil)
def c6 : SM := (sIf (mT (mBin isND (mVar 10) (mC .non))) (sSeq c6a c6b) sNil)
def c7 : SM := (sSet 4 (mLst mNil))
def c8B : SM := (sSet 4 (mBin addD (mVar 4) (mLc (mIter (mApp 2 Tr.FOwn1 (mCons (mVar 3) (mCons (mVar 5) mNil)))) [13] (tgN 13) (mT (mBin ninTD (mVar 13) (mVar 4))) (mVar 13))))
def c8 : SM := (sFor (mRng1 (mCons (mVar 9) mNil)) (tgN 5) c8B)
def c9 : SM := (sSet 6 (mTup (mCons (mBin addD (mVar 8) (mTup (mCons (mTup (mCons (mC (.str "w")) (mCons (mCall tupD (mCons (mVar 4) mNil)) mNil))) mNil))) (mCons (mTup mNil) mNil))))
def c10 (fu : Nat) : SM := (sIf (mOrT (mT (mBin neD (mApp 1 (Tr.FCore fu) (mCons (mVar 6) mNil)) (mTup mNil))) (mNotT (mTru (mApp 2 Tr.FIsT (mCons (mVar 6) (mCons (mApp 1 (Jt.FTree fu) (mCons (mVar 6) mNil)) mNil)))))) (sRet (mC (.bl false))) sNil)
def c11B (fu : Nat) : SM := (sIf (mT (mBin neD (mBin isND (mApp 1 (Jt.FTree fu) (mCons (mTup (mCons (mVar 7) (mCons (mTup mNil) mNil))) mNil)) (mC .non)) (mBin isND (mVar 10) (mC .non)))) (sRet (mC (.bl false))) sNil)
def c11 (fu : Nat) : SM := (sFor (mIter (mTup (mCons (mBin addD (mVar 8) (mSl (mVar 8) (mP (mUn negD (mC (.int 1)))) mNoP)) (mCons (mCall tupD (mCons (mApp 3 (FMixed fu) (mCons (mVar 0) (mCons (mVar 1) (mCons (mVar 8) mNil)))) mNil)) mNil)))) (tgN 7) (c11B fu))
def lawB (fu : Nat) : SM := sSeq (c1 fu) (sSeq c2 (sSeq (c3 fu) (sSeq c4 (sSeq c5 (sSeq c6 (sSeq c7 (sSeq c8 (sSeq c9 (sSeq (c10 fu) (c11 fu))))))))))
theorem law_eq (fu : Nat) : m_law fu = (sSeq (sSet 1 (mNewL mNil)) (sSeq (sFor (mRng1 (mCons (mC (.int 4)) mNil)) (tgN 2) (lawB fu)) (sRet (mC (.bl true))))) := by
  unfold m_law
  rw [fweb_eq, fsame_eq, fmix_eq, fcore_eq, ftree_eq, fist_eq, fown_eq, fno_eq, fev_eq]
  rfl
abbrev LV (ns : List Int) (y2 y3 y4 y5 y6 y7 y8 y9 y10 y11 y12 y13 : Option D) : Dv.Env := [some (.scr ns), some (.loc 0), y2, y3, y4, y5, y6, y7, y8, y9, y10, y11, y12, y13]
section
variable {S : Store} {ns : List Int} {n : Nat} {as : List At} {most many : Nat} {tb : List Bt} {y2 y3 y4 y5 y6 y7 y8 y9 y10 y11 y12 y13 : Option D}
def nt (as : List At) : Bool := decide (1 < (earA as).2.length)
theorem isN_tree : isND (treeD as) .non S = some (.bl (nt as)) := by
  unfold treeD nt
  by_cases c : 1 < (earA as).2.length
  · rw [if_pos c, decide_eq_true c]; rfl
  · rw [if_neg c, decide_eq_false c]; rfl
theorem notN_tree : notND (treeD as) .non S = some (.bl (!nt as)) := by
  unfold treeD nt
  by_cases c : 1 < (earA as).2.length
  · rw [if_pos c, decide_eq_true c]; rfl
  · rw [if_neg c, decide_eq_false c]; rfl
theorem left_pos (h0 : 0 < as.length) : 0 < (earA as).2.length := List.length_pos_iff.mpr ((earR_sub as.length (List.range as.length) []).2 fun z => by
    have := congrArg List.length z
    rw [List.length_range] at this
    simp at this
    rw [this] at h0
    exact Nat.lt_irrefl 0 h0)
theorem nt_iff (h0 : 0 < as.length) : nt as = false ↔ RedA as := by
  have := left_pos h0
  rw [← earA_red h0]
  unfold nt
  rw [decide_eq_false_iff_not]
  omega
theorem core_ne (h0 : 0 < as.length) : neD (.tup ((Tr.coreV as).map Jt.iD)) (.tup []) S = some (.bl (nt as)) := by
  have p : pl 1 (.tup ((Tr.coreV as).map Jt.iD)) = true := by
    show ((Tr.coreV as).map Jt.iD).all (pl 0) = true
    rw [List.all_map, List.all_eq_true]
    exact fun _ _ => rfl
  have e := neD_pl (k := 1) (S := S) (a := .tup ((Tr.coreV as).map Jt.iD)) (b := .tup []) p (by rfl) (by decide)
  rw [e]
  show some (D.bl (!decide (D.tup ((Tr.coreV as).map Jt.iD) = D.tup []))) = _
  obtain ⟨h1, h2⟩ := core_val h0
  cases hn : nt as with
  | false =>
    rw [h1 ((nt_iff h0).mp hn)]
    simp
  | true =>
    have hr : ¬ RedA as := fun r => by
      rw [(nt_iff h0).mpr r] at hn
      cases hn
    obtain ⟨e1, e2⟩ := h2 hr
    rw [decide_eq_false fun z => ?_]
    · rfl
    · have z := D.tup.inj z
      rw [List.map_eq_nil_iff, e1] at z
      rw [z] at e2
      simp at e2
theorem c4_ok (h0 : 0 < as.length) : c4 (LV ns y2 y3 y4 y5 y6 y7 y8 y9 (some (treeD as)) (some (.tup ((Tr.coreV as).map Jt.iD))) y12 y13) S = .ok .next (LV ns y2 y3 y4 y5 y6 y7 y8 y9 (some (treeD as)) (some (.tup ((Tr.coreV as).map Jt.iD))) y12 y13) S := by
  refine (if_no (t_of (bin_of (x := .bl (nt as)) (y := .bl (nt as)) (bin_of (var_of rfl) rfl isN_tree) (bin_of (var_of rfl) (tup_of nil_of (by simp)) (core_ne h0)) ?_))).trans rfl
  rw [neD_bl]
  simp
theorem c5_ok (q : Mw.Mq most many tb as []) (h0 : 0 < as.length) (hn : as.length ≤ 900) : c5 (LV ns y2 (some (askD as [])) y4 y5 y6 y7 y8 y9 (some (treeD as)) y11 y12 y13) S = .ok .next (LV ns y2 (some (askD as [])) y4 y5 y6 y7 y8 y9 (some (treeD as)) y11 y12 y13) S := by
  have t := t_of (bin_of (f := notND) (a := mVar 10) (b := mC .non) (r := LV ns y2 (some (askD as [])) y4 y5 y6 y7 y8 y9 (some (treeD as)) y11 y12 y13) (S := S) (var_of rfl) rfl notN_tree)
  cases hn2 : nt as with
  | true =>
    rw [hn2] at t
    exact (if_no (and_f t)).trans rfl
  | false =>
    rw [hn2] at t
    have tr := tree_some h0 ((nt_iff h0).mp hn2)
    have kd := tree_kd (as := as)
    have e1 := Tr.ist_ok (S := S) q hn kd.1 kd.2
    rw [tr.2] at e1
    have sm : FSame 4 [.bl true, .bl true] S = .ok (.bl true) S := same_t rfl
    exact (if_no (and_t t (not_of (b := true) (tru_of (v := .bl true) (run_app (cons_of (run_app (cons_of (var_of rfl) (cons_of (var_of rfl) nil_of)) rfl e1) (cons_of rfl nil_of)) rfl sm) rfl)))).trans rfl
theorem lists_ne (l : List Nat) : neD (.lst (l.map Jt.iD)) (.lst (l.map Jt.iD)) S = some (.bl false) := by
  have e := neD_pl (k := 1) (S := S) (a := .lst (l.map Jt.iD)) (b := .lst (l.map Jt.iD)) (Tr.pl_iDs l) (Tr.pl_iDs l) (by decide)
  rw [e]
  simp
theorem c6_ok (q : Mw.Mq most many tb as []) (h0 : 0 < as.length) (h4 : as.length ≤ 4) : c6 (LV ns y2 (some (askD as [])) y4 y5 y6 y7 y8 (some (.int (as.length : Nat))) (some (treeD as)) (some (.tup ((Tr.coreV as).map Jt.iD))) none y13) S = .ok .next (LV ns y2 (some (askD as [])) y4 y5 y6 y7 y8 (some (.int (as.length : Nat))) (some (treeD as)) (some (.tup ((Tr.coreV as).map Jt.iD))) none y13) S := by
  have t := t_of (bin_of (f := isND) (a := mVar 10) (b := mC .non) (r := LV ns y2 (some (askD as [])) y4 y5 y6 y7 y8 (some (.int (as.length : Nat))) (some (treeD as)) (some (.tup ((Tr.coreV as).map Jt.iD))) none y13) (S := S) (var_of rfl) rfl isN_tree)
  unfold c6
  cases hn2 : nt as with
  | false =>
    rw [hn2] at t
    exact (if_no t).trans rfl
  | true =>
    rw [hn2] at t
    have hr : ¬ RedA as := fun r => by
      rw [(nt_iff h0).mpr r] at hn2
      cases hn2
    obtain ⟨e1, e2⟩ := (core_val h0).2 hr
    rw [if_yes t, e1]
    obtain ⟨L, hL⟩ : ∃ L, L = (earA as).2 := ⟨_, rfl⟩
    have sub : L.Sublist (List.range as.length) := by rw [hL]; exact (earR_sub as.length (List.range as.length) []).1
    have stk : L.filter (Jt.hasK as L) = [] := by
      rw [hL]
      exact earR_stuck as.length (List.range as.length) [] (by rw [List.length_range]; omega) (by
        have : 2 ≤ (earA as).2.length := e2
        show 1 < (earA as).2.length
        omega)
    rw [← hL] at e2 ⊢
    have hlt : ∀ j ∈ L, j < as.length := fun j hj => List.mem_range.mp (sub.subset hj)
    have hLl : L.length ≤ 4 := by
      have := sub.length_le
      rw [List.length_range] at this
      omega
    have s1 : c6a (LV ns y2 (some (askD as [])) y4 y5 y6 y7 y8 (some (.int (as.length : Nat))) (some (treeD as)) (some (.tup (L.map Jt.iD))) none y13) S = .ok .next (LV ns y2 (some (askD as [])) y4 y5 y6 y7 y8 (some (.int (as.length : Nat))) (some (treeD as)) (some (.tup (L.map Jt.iD))) none y13) S := by
      have t1 : mT (mBin ltD (mCall lenD (mCons (mVar 11) mNil)) (mC (.int 2))) (LV ns y2 (some (askD as [])) y4 y5 y6 y7 y8 (some (.int (as.length : Nat))) (some (treeD as)) (some (.tup (L.map Jt.iD))) none y13) S = .ok false S := by
        refine t_of (bin_of (x := .int ((L.map Jt.iD).length : Nat)) (call_of (cons_of (var_of rfl) nil_of) rfl) rfl ?_)
        show some (D.bl (decide (((L.map Jt.iD).length : Int) < 2))) = _
        rw [List.length_map, decide_eq_false (by omega)]
      have t2 := noEar_ok (S := S) q hlt stk
      have ss : sortSetTD [.tup (L.map Jt.iD)] S = some (.lst (L.map Jt.iD)) := by
        have em : L.map Jt.iD = (L.map fun (j : Nat) => (j : Int)).map D.int := Jt.iD_map L
        rw [em, sortSetTD_tup (by rw [List.length_map]; omega)]
        congr 3
        refine (ssI_ext ?_ fun z => Iff.rfl).symm
        rw [List.pairwise_map]
        exact (List.pairwise_lt_range.sublist sub).imp fun h => by omega
      exact (if_no (or_f t1 (or_f (not_of (b := true) (tru_of (v := .bl true) (run_app (cons_of (var_of rfl) (cons_of (var_of rfl) nil_of)) rfl t2) rfl)) (t_of (bin_of (x := .lst (L.map Jt.iD)) (y := .lst (L.map Jt.iD)) (call_of (cons_of (var_of rfl) nil_of) rfl) (call_of (cons_of (var_of rfl) nil_of) ss) (lists_ne L)))))).trans rfl
    rw [seq_next s1]
    have lc := lc_src (gm := tgN 12) (tt := mTru (mApp 2 Tr.FIsT (mCons (mVar 3) (mCons (mVar 12) mNil)))) (te := mC (.int 1)) (r0 := LV ns y2 (some (askD as [])) y4 y5 y6 y7 y8 (some (.int (as.length : Nat))) (some (treeD as)) (some (.tup (L.map Jt.iD))) none y13) (S := S) rowX (fun r => Tr.istB as (rowX r)) (fun _ => D.int 1) ((evs as.length as.length).filter oneN) fun r _ => ⟨LV ns y2 (some (askD as [])) y4 y5 y6 y7 y8 (some (.int (as.length : Nat))) (some (treeD as)) (some (.tup (L.map Jt.iD))) (some (rowX r)) y13, rfl, tru_of (v := .bl (Tr.istB as (rowX r))) (run_app (cons_of (var_of rfl) (cons_of (var_of rfl) nil_of)) rfl (Tr.ist_ok q (by omega) (rowX_kd r).1 (rowX_kd r).2)) rfl, fun _ => rfl⟩
    have ev := every_ok (S := S) (m := as.length) h4
    have no : (((evs as.length as.length).filter oneN).any fun r => Tr.istB as (rowX r)) = false := by
      rw [← Bool.not_eq_true, List.any_eq_true]
      rintro ⟨r, _, h⟩
      exact hr (tree_red h)
    refine (if_no ?_).trans rfl
    rw [← no]
    exact tru_of (lc_of (vs := [12]) (iter_of (d := .lst (((evs as.length as.length).filter oneN).map rowX)) (run_app (cons_of (var_of rfl) nil_of) rfl ev) rfl) lc) ones_tru
theorem own_web (ha : ∀ a ∈ as, Qw.WebA a) (i : Nat) : (Tr.ownL as i).length ≤ 4 ∧ ∀ y ∈ Tr.ownL as i, y ∈ Qw.five := by
  unfold Tr.ownL
  cases h : as[i]? with
  | none => exact ⟨Nat.zero_le _, fun y hy => nomatch hy⟩
  | some a =>
    have hA := ha a (List.mem_of_getElem? h)
    have := hA.hi
    have h2 := List.length_filterMap_le trN a.ts
    refine ⟨by show (a.ts.filterMap trN).length ≤ 4; omega, fun y hy => ?_⟩
    obtain ⟨t, ht, e⟩ := List.mem_filterMap.mp hy
    cases t with
    | vl i => cases e
    | nm x =>
      cases e
      exact hA.own.ok _ ht
theorem five_abcd {y : Str} (h : y ∈ Qw.five) : y ∈ abcd := by
  simp only [Qw.five, List.mem_cons, List.not_mem_nil, or_false] at h
  simp only [abcd, List.mem_cons, List.not_mem_nil, or_false]
  rcases h with h | h | h | h | h <;> simp [h]
theorem c8B_ok (ha : ∀ a ∈ as, Qw.WebA a) {a : Nat} (hA : a < as.length) {acc : List Str} (hc : ∀ y ∈ acc, y ∈ Qw.five) (hl : acc.length ≤ 1000) : c8B (LV ns y2 (some (askD as [])) (some (.lst (acc.map D.str))) (some (Jt.iD a)) y6 y7 y8 y9 y10 y11 y12 none) S = .ok .next (LV ns y2 (some (askD as [])) (some (.lst ((acc ++ (Tr.ownL as a).filter fun y => !decide (y ∈ acc)).map D.str))) (some (Jt.iD a)) y6 y7 y8 y9 y10 y11 y12 none) S := by
  obtain ⟨o1, o2⟩ := own_web ha a
  have lc := lc_src (gm := tgN 13) (tt := mT (mBin ninTD (mVar 13) (mVar 4))) (te := mVar 13) (r0 := LV ns y2 (some (askD as [])) (some (.lst (acc.map D.str))) (some (Jt.iD a)) y6 y7 y8 y9 y10 y11 y12 none) (S := S) D.str (fun y => !decide (y ∈ acc)) D.str (Tr.ownL as a) fun y hy => by
    refine ⟨LV ns y2 (some (askD as [])) (some (.lst (acc.map D.str))) (some (Jt.iD a)) y6 y7 y8 y9 y10 y11 y12 (some (.str y)), rfl, t_of (bin_of (var_of rfl) (var_of rfl) ?_), fun _ => var_of rfl⟩
    show (inTO (.str y) (.lst (acc.map D.str))).map (fun k => D.bl (!k)) = _
    rw [inL_abcd (five_abcd (o2 y hy)) fun x hx => five_abcd (hc x hx)]
    rfl
  refine set_of (bin_of (var_of rfl) (lc_of (iter_of (d := .lst ((Tr.ownL as a).map D.str)) (run_app (cons_of (var_of rfl) (cons_of (var_of rfl) nil_of)) rfl (Tr.own1_ok hA)) rfl) lc) ?_)
  have := List.length_filter_le (fun y => !decide (y ∈ acc)) (Tr.ownL as a)
  rw [addD_lst, if_pos (by rw [List.length_map, List.length_map]; omega), ← List.map_append]
theorem c8_loop (ha : ∀ a ∈ as, Qw.WebA a) : ∀ (l : List Nat) (acc : List Str) (y5 : Option D), (∀ a ∈ l, a < as.length) → (∀ y ∈ acc, y ∈ Qw.five) → acc.length + 4 * l.length ≤ 900 →
    ∃ z5, sLoop (tgN 5) c8B (l.map Jt.iD) (LV ns y2 (some (askD as [])) (some (.lst (acc.map D.str))) y5 y6 y7 y8 y9 y10 y11 y12 none) S = .ok .next (LV ns y2 (some (askD as [])) (some (.lst ((nmG as l acc).map D.str))) z5 y6 y7 y8 y9 y10 y11 y12 none) S
  | [], acc, y5, _, _, _ => ⟨y5, rfl⟩
  | a :: l, acc, y5, h, hc, hl => by
    rw [List.length_cons] at hl
    have e := c8B_ok (S := S) (ns := ns) (y2 := y2) (y6 := y6) (y7 := y7) (y8 := y8) (y9 := y9) (y10 := y10) (y11 := y11) (y12 := y12) ha (h a List.mem_cons_self) hc (by omega)
    obtain ⟨o1, o2⟩ := own_web ha a
    have lf := List.length_filter_le (fun y => !decide (y ∈ acc)) (Tr.ownL as a)
    obtain ⟨z5, e2⟩ := c8_loop ha l (acc ++ (Tr.ownL as a).filter fun y => !decide (y ∈ acc)) (some (Jt.iD a)) (fun b hb => h b (List.mem_cons_of_mem _ hb)) (fun y hy => (List.mem_append.mp hy).elim (hc y) fun q => o2 y (List.mem_filter.mp q).1) (by rw [List.length_append]; omega)
    refine ⟨z5, ?_⟩
    rw [List.map_cons, loop_step (r1 := LV ns y2 (some (askD as [])) (some (.lst (acc.map D.str))) (some (Jt.iD a)) y6 y7 y8 y9 y10 y11 y12 none) rfl e]
    exact e2
def fullA (as : List At) : At := ⟨"w", (nmG as (List.range as.length) []).map Tm.nm⟩
theorem fullD : atD (fullA as) = .tup [.str "w", .tup ((nmG as (List.range as.length) []).map D.str)] := by
  show D.tup [.str "w", .tup (((nmG as (List.range as.length) []).map Tm.nm).map trD)] = _
  rw [List.map_map]
  rfl
theorem c9_ok (hl : as.length ≤ 90) : c9 (LV ns y2 y3 (some (.lst ((nmG as (List.range as.length) []).map D.str))) y5 y6 y7 (some (.tup (as.map atD))) y9 y10 y11 y12 y13) S = .ok .next (LV ns y2 y3 (some (.lst ((nmG as (List.range as.length) []).map D.str))) y5 (some (askD (as ++ [fullA as]) [])) y7 (some (.tup (as.map atD))) y9 y10 y11 y12 y13) S := by
  have ea : askD (as ++ [fullA as]) [] = .tup [.tup (as.map atD ++ [.tup [.str "w", .tup ((nmG as (List.range as.length) []).map D.str)]]), .tup []] := by
    show D.tup [.tup ((as ++ [fullA as]).map atD), .tup []] = _
    rw [List.map_append, List.map_singleton, fullD]
  rw [ea]
  refine set_of (tup_of (cons_of (bin_of (x := .tup (as.map atD)) (y := .tup [.tup [.str "w", .tup ((nmG as (List.range as.length) []).map D.str)]]) (var_of rfl) (tup_of (cons_of (tup_of (cons_of rfl (cons_of (call_of (cons_of (var_of rfl) nil_of) rfl) nil_of)) (by simp)) nil_of) (by simp)) ?_) (cons_of (tup_of nil_of (by simp)) nil_of)) (by simp))
  show (if (as.map atD).length + 1 ≤ 100000 then some (D.tup (as.map atD ++ [.tup [.str "w", .tup ((nmG as (List.range as.length) []).map D.str)]])) else none) = _
  rw [if_pos (by rw [List.length_map]; omega)]
theorem c10_ok {as : List At} (q : Mw.Mq most many tb as []) (h0 : 0 < as.length) (hn : as.length ≤ 90) (hr : RedA as) : c10 100 (LV ns y2 y3 y4 y5 (some (askD as [])) y7 y8 y9 y10 y11 y12 y13) S = .ok .next (LV ns y2 y3 y4 y5 (some (askD as [])) y7 y8 y9 y10 y11 y12 y13) S := by
  have e1 := Tr.core_ok (S := S) (fu := 100) q (by omega) (by omega)
  have e2 := core_ne (S := S) h0
  rw [(nt_iff h0).mpr hr] at e2
  have e3 := tree_okA (S := S) (fu := 100) q h0 (by omega) (by omega)
  have kd := tree_kd (as := as)
  have e4 := Tr.ist_ok (S := S) q (by omega) kd.1 kd.2
  rw [(tree_some h0 hr).2] at e4
  exact (if_no (or_f (t_of (bin_of (run_app (cons_of (var_of rfl) nil_of) rfl e1) (tup_of nil_of (by simp)) e2)) (not_of (b := true) (tru_of (v := .bl true) (run_app (cons_of (var_of rfl) (cons_of (run_app (cons_of (var_of rfl) nil_of) rfl e3) nil_of)) rfl e4) rfl)))).trans rfl
theorem c11B_ok {bs : List At} (q : Mw.Mq most many tb bs []) (hb : 0 < bs.length) (hn : bs.length ≤ 90) (h0 : 0 < as.length) (hr : RedA bs ↔ RedA as) : c11B 100 (LV ns y2 y3 y4 y5 y6 (some (.tup (bs.map atD))) y8 y9 (some (treeD as)) y11 y12 y13) S = .ok .next (LV ns y2 y3 y4 y5 y6 (some (.tup (bs.map atD))) y8 y9 (some (treeD as)) y11 y12 y13) S := by
  have e3 := tree_okA (S := S) (fu := 100) q hb (by omega) (by omega)
  have hnt : nt bs = nt as := by
    have h1 := nt_iff hb
    have h2 := nt_iff h0
    cases a : nt bs <;> cases b : nt as
    · rfl
    · rw [h2.mpr (hr.mp (h1.mp a))] at b; cases b
    · rw [h1.mpr (hr.mpr (h2.mp b))] at a; cases a
    · rfl
  refine (if_no (t_of (bin_of (x := .bl (nt bs)) (y := .bl (nt as)) (bin_of (x := treeD bs) (run_app (cons_of (tup_of (cons_of (var_of rfl) (cons_of (tup_of nil_of (by simp)) nil_of)) (by simp)) nil_of) rfl e3) rfl isN_tree) (bin_of (var_of rfl) rfl isN_tree) ?_))).trans rfl
  rw [neD_bl, hnt]
  simp
theorem cut_lastZ {α : Type} (xs : List α) (z : α) : cutL (xs ++ [z]) (some (-1)) none = [z] := by
  unfold cutL
  have h : HT.sIx (xs ++ [z]).length 0 (some (-1)) = xs.length := by
    show (if (-1 : Int) < 0 then ((-1 : Int) + ((xs ++ [z]).length : Int)).toNat else min (-1 : Int).toNat (xs ++ [z]).length) = _
    rw [if_pos (show (-1 : Int) < 0 by decide), List.length_append, List.length_singleton]
    omega
  rw [HT.sIx_none, h]
  simp
theorem lawB_ok (h63 : ns.length ≤ 63) (tw : Twn 0 n S) (hn : n ≤ 15000) : ∃ (S' : Store) (z3 z4 z5 z6 z7 z8 z9 z10 z11 : Option D), lawB 100 (LV ns y2 y3 y4 y5 y6 y7 y8 y9 y10 y11 none none) S = .ok .next (LV ns y2 z3 z4 z5 z6 z7 z8 z9 z10 z11 none none) S' ∧ Twn 0 (n + 300) S' := by
  obtain ⟨as, S1, ha, h0, h4, e1, tw1, d1⟩ := Qw.web_ok (fu := 100) h63 (by decide) tw (by omega)
  have h0 : 0 < as.length := h0
  have hx : ∃ a ∈ as, ∃ x, Tm.nm x ∈ a.ts := by
    obtain ⟨a, hA⟩ := List.exists_mem_of_length_pos h0
    exact ⟨a, hA, (ha a hA).own.has⟩
  have q : Mw.Mq 1 5 (tbF 0) as [] := webF_mq (fun a hA => FA.web (ha a hA)) hx (by omega)
  have w1 : c1 100 (LV ns y2 y3 y4 y5 y6 y7 y8 y9 y10 y11 none none) S = .ok .next (LV ns y2 (some (askD as [])) y4 y5 y6 y7 y8 y9 y10 y11 none none) S1 := set_of (run_app (cons_of (var_of rfl) (cons_of (var_of rfl) (cons_of rfl nil_of))) rfl e1)
  have ix : mBin ixD (mVar 3) (mC (.int 0)) (LV ns y2 (some (askD as [])) y4 y5 y6 y7 y8 y9 y10 y11 none none) S1 = .ok (.tup (as.map atD)) S1 := bin_of (var_of rfl) rfl (ask_ix (S := S1) as [])
  have w2 : c2 (LV ns y2 (some (askD as [])) y4 y5 y6 y7 y8 y9 y10 y11 none none) S1 = .ok .next (LV ns y2 (some (askD as [])) y4 y5 y6 y7 (some (.tup (as.map atD))) (some (.int (as.length : Nat))) y10 y11 none none) S1 := par_of (cons_of ix (cons_of (call_of (cons_of ix nil_of) (by
    show some (D.int ((as.map atD).length : Nat)) = _
    rw [List.length_map])) nil_of))
  have t1 := tree_okA (S := S1) (fu := 100) q h0 (by omega) (by omega)
  have k1 := Tr.core_ok (S := S1) (fu := 100) q (by omega) (by omega)
  have w3 : c3 100 (LV ns y2 (some (askD as [])) y4 y5 y6 y7 (some (.tup (as.map atD))) (some (.int (as.length : Nat))) y10 y11 none none) S1 = .ok .next (LV ns y2 (some (askD as [])) y4 y5 y6 y7 (some (.tup (as.map atD))) (some (.int (as.length : Nat))) (some (treeD as)) (some (.tup ((Tr.coreV as).map Jt.iD))) none none) S1 := par_of (cons_of (run_app (cons_of (var_of rfl) nil_of) rfl t1) (cons_of (run_app (cons_of (var_of rfl) nil_of) rfl k1) nil_of))
  have w4 := c4_ok (S := S1) (ns := ns) (y2 := y2) (y3 := some (askD as [])) (y4 := y4) (y5 := y5) (y6 := y6) (y7 := y7) (y8 := some (.tup (as.map atD))) (y9 := some (.int (as.length : Nat))) (y12 := none) (y13 := none) h0
  have w5 := c5_ok (S := S1) (ns := ns) (y2 := y2) (y4 := y4) (y5 := y5) (y6 := y6) (y7 := y7) (y8 := some (.tup (as.map atD))) (y9 := some (.int (as.length : Nat))) (y11 := some (.tup ((Tr.coreV as).map Jt.iD))) (y12 := none) (y13 := none) q h0 (by omega)
  have w6 := c6_ok (S := S1) (ns := ns) (y2 := y2) (y4 := y4) (y5 := y5) (y6 := y6) (y7 := y7) (y8 := some (.tup (as.map atD))) (y13 := none) q h0 h4
  have w7 : c7 (LV ns y2 (some (askD as [])) y4 y5 y6 y7 (some (.tup (as.map atD))) (some (.int (as.length : Nat))) (some (treeD as)) (some (.tup ((Tr.coreV as).map Jt.iD))) none none) S1 = .ok .next (LV ns y2 (some (askD as [])) (some (.lst (([] : List Str).map D.str))) y5 y6 y7 (some (.tup (as.map atD))) (some (.int (as.length : Nat))) (some (treeD as)) (some (.tup ((Tr.coreV as).map Jt.iD))) none none) S1 := set_of (lst_of nil_of (by simp))
  obtain ⟨z5, e8⟩ := c8_loop (S := S1) (ns := ns) (y2 := y2) (y6 := y6) (y7 := y7) (y8 := some (.tup (as.map atD))) (y9 := some (.int (as.length : Nat))) (y10 := some (treeD as)) (y11 := some (.tup ((Tr.coreV as).map Jt.iD))) (y12 := none) ha (List.range as.length) [] y5 (fun a h => List.mem_range.mp h) (fun y h => nomatch h) (by rw [List.length_range, List.length_nil]; omega)
  have w8 : c8 (LV ns y2 (some (askD as [])) (some (.lst (([] : List Str).map D.str))) y5 y6 y7 (some (.tup (as.map atD))) (some (.int (as.length : Nat))) (some (treeD as)) (some (.tup ((Tr.coreV as).map Jt.iD))) none none) S1 = _ := (for_of (Tr.mrng (n := as.length) (cons_of (var_of rfl) nil_of) (by omega))).trans e8
  have w9 := c9_ok (S := S1) (ns := ns) (y2 := y2) (y3 := some (askD as [])) (y5 := z5) (y6 := y6) (y7 := y7) (y9 := some (.int (as.length : Nat))) (y10 := some (treeD as)) (y11 := some (.tup ((Tr.coreV as).map Jt.iD))) (y12 := none) (y13 := none) (as := as) (by omega)
  have lenF : (as ++ [fullA as]).length = as.length + 1 := by rw [List.length_append, List.length_singleton]
  have n5 := nmG_five (as := as) (fun a => (own_web ha a).2) (List.range as.length) [] fun y h => nomatch h
  have n16 := nmG_len (as := as) (fun a => (own_web ha a).1) (List.range as.length) []
  rw [List.length_nil, List.length_range] at n16
  have qF : Mw.Mq 1 5 (tbF (nmG as (List.range as.length) []).length) (as ++ [fullA as]) [] := webF_mq (fun a hA => by
    rcases List.mem_append.mp hA with h | h
    · exact FA.web (ha a h)
    · rw [List.mem_singleton.mp h]
      refine ⟨fun t ht => ?_, ?_, .inr ⟨rfl, List.length_map _⟩⟩
      · obtain ⟨y, hy, rfl⟩ := List.mem_map.mp ht
        exact n5 y hy
      · show ((nmG as (List.range as.length) []).map Tm.nm).length ≤ 16
        rw [List.length_map]
        omega) (by
    obtain ⟨a, hA, x, hx⟩ := hx
    exact ⟨a, List.mem_append_left _ hA, x, hx⟩) (by omega)
  have rF : RedA (as ++ [fullA as]) := redA_full fun a hA y hy => by
    obtain ⟨i, hi, e⟩ := List.getElem_of_mem hA
    have ho : y ∈ Tr.ownL as i := Tr.mem_own.mpr (by rw [Jt.na_eq (by rw [List.getElem?_eq_getElem hi, e])]; exact hy)
    have := nmG_new (as := as) (List.range as.length) [] i y (List.mem_range.mpr hi) ho
    refine (mem_nmsT _ _).mpr (.inr ?_)
    exact List.mem_map_of_mem this
  have w10 := c10_ok (S := S1) (ns := ns) (y2 := y2) (y3 := some (askD as [])) (y4 := some (.lst ((nmG as (List.range as.length) []).map D.str))) (y5 := z5) (y7 := y7) (y8 := some (.tup (as.map atD))) (y9 := some (.int (as.length : Nat))) (y10 := some (treeD as)) (y11 := some (.tup ((Tr.coreV as).map Jt.iD))) (y12 := none) (y13 := none) qF (by omega) (by omega) rF
  obtain ⟨ys, S2, e2, pm, tw2, d2⟩ := Qw.mixD_ok (fu := 100) (d0 := .tup (as.map atD)) (xs := as.map atD) h63 rfl (fun m => (cloL_iff m _).mpr fun d hd => by
    obtain ⟨a, _, rfl⟩ := List.mem_map.mp hd
    show (true && (cloL m (a.ts.map trD) && true)) = true
    rw [cloL_trs]
    rfl) (by rw [List.length_map]; omega) (by rw [List.length_map]; omega) tw1 (by omega)
  rw [List.length_map] at tw2
  obtain ⟨bs, rfl, pb⟩ := perm_map_inv pm as rfl
  obtain ⟨ds, z, has⟩ : ∃ ds z, as = ds ++ [z] := ⟨_, _, (List.dropLast_concat_getLast (List.length_pos_iff.mp h0)).symm⟩
  have hz : z ∈ as := by rw [has]; simp
  have pl := pb.length_eq
  have qD : Mw.Mq 1 5 (tbF 0) (as ++ [z]) [] := webF_mq (fun a hA => by
    rcases List.mem_append.mp hA with h | h
    · exact FA.web (ha a h)
    · rw [List.mem_singleton.mp h]
      exact FA.web (ha z hz)) (by
    obtain ⟨a, hA, x, hx⟩ := hx
    exact ⟨a, List.mem_append_left _ hA, x, hx⟩) (by rw [List.length_append, List.length_singleton]; omega)
  have qB : Mw.Mq 1 5 (tbF 0) bs [] := webF_mq (fun a hA => FA.web (ha a (pb.mem_iff.mp hA))) (by
    obtain ⟨a, hA, x, hx⟩ := hx
    exact ⟨a, pb.mem_iff.mpr hA, x, hx⟩) (by omega)
  have cl : cutL (as.map atD) (some (-1)) none = [atD z] := by
    rw [has, List.map_append]
    exact cut_lastZ _ _
  have it : mIter (mTup (mCons (mBin addD (mVar 8) (mSl (mVar 8) (mP (mUn negD (mC (.int 1)))) mNoP)) (mCons (mCall tupD (mCons (mApp 3 (FMixed 100) (mCons (mVar 0) (mCons (mVar 1) (mCons (mVar 8) mNil)))) mNil)) mNil))) (LV ns y2 (some (askD as [])) (some (.lst ((nmG as (List.range as.length) []).map D.str))) z5 (some (askD (as ++ [fullA as]) [])) y7 (some (.tup (as.map atD))) (some (.int (as.length : Nat))) (some (treeD as)) (some (.tup ((Tr.coreV as).map Jt.iD))) none none) S1 = .ok [.tup ((as ++ [z]).map atD), .tup (bs.map atD)] S2 := by
    have sl : mSl (mVar 8) (mP (mUn negD (mC (.int 1)))) mNoP (LV ns y2 (some (askD as [])) (some (.lst ((nmG as (List.range as.length) []).map D.str))) z5 (some (askD (as ++ [fullA as]) [])) y7 (some (.tup (as.map atD))) (some (.int (as.length : Nat))) (some (treeD as)) (some (.tup ((Tr.coreV as).map Jt.iD))) none none) S1 = .ok (.tup [atD z]) S1 := by
      show ofO (some (D.tup (cutL (as.map atD) (some (-1)) none))) S1 = _
      rw [cl]
      rfl
    have ad : addD (.tup (as.map atD)) (.tup [atD z]) S1 = some (.tup ((as ++ [z]).map atD)) := by
      show (if (as.map atD).length + 1 ≤ 100000 then some (D.tup (as.map atD ++ [atD z])) else none) = _
      rw [if_pos (by rw [List.length_map]; omega), List.map_append]
      rfl
    exact iter_of (d := .tup [.tup ((as ++ [z]).map atD), .tup (bs.map atD)]) (tup_of (cons_of (bin_of (var_of rfl) sl ad) (cons_of (call_of (cons_of (run_app (cons_of (var_of rfl) (cons_of (var_of rfl) (cons_of (var_of rfl) nil_of))) rfl e2) nil_of) rfl) nil_of)) (by simp)) rfl
  have ld : (as ++ [z]).length = as.length + 1 := by rw [List.length_append, List.length_singleton]
  have f1 := c11B_ok (S := S2) (ns := ns) (y2 := y2) (y3 := some (askD as [])) (y4 := some (.lst ((nmG as (List.range as.length) []).map D.str))) (y5 := z5) (y6 := some (askD (as ++ [fullA as]) [])) (y8 := some (.tup (as.map atD))) (y9 := some (.int (as.length : Nat))) (y11 := some (.tup ((Tr.coreV as).map Jt.iD))) (y12 := none) (y13 := none) (as := as) qD (by omega) (by omega) h0 (redA_dup hz)
  have f2 := c11B_ok (S := S2) (ns := ns) (y2 := y2) (y3 := some (askD as [])) (y4 := some (.lst ((nmG as (List.range as.length) []).map D.str))) (y5 := z5) (y6 := some (askD (as ++ [fullA as]) [])) (y8 := some (.tup (as.map atD))) (y9 := some (.int (as.length : Nat))) (y11 := some (.tup ((Tr.coreV as).map Jt.iD))) (y12 := none) (y13 := none) (as := as) qB (by omega) (by omega) h0 (redA_perm pb)
  have w11 : c11 100 (LV ns y2 (some (askD as [])) (some (.lst ((nmG as (List.range as.length) []).map D.str))) z5 (some (askD (as ++ [fullA as]) [])) y7 (some (.tup (as.map atD))) (some (.int (as.length : Nat))) (some (treeD as)) (some (.tup ((Tr.coreV as).map Jt.iD))) none none) S1 = .ok .next (LV ns y2 (some (askD as [])) (some (.lst ((nmG as (List.range as.length) []).map D.str))) z5 (some (askD (as ++ [fullA as]) [])) (some (.tup (bs.map atD))) (some (.tup (as.map atD))) (some (.int (as.length : Nat))) (some (treeD as)) (some (.tup ((Tr.coreV as).map Jt.iD))) none none) S2 := by
    refine (for_of it).trans ?_
    rw [loop_step (r1 := LV ns y2 (some (askD as [])) (some (.lst ((nmG as (List.range as.length) []).map D.str))) z5 (some (askD (as ++ [fullA as]) [])) (some (.tup ((as ++ [z]).map atD))) (some (.tup (as.map atD))) (some (.int (as.length : Nat))) (some (treeD as)) (some (.tup ((Tr.coreV as).map Jt.iD))) none none) rfl f1, loop_step (r1 := LV ns y2 (some (askD as [])) (some (.lst ((nmG as (List.range as.length) []).map D.str))) z5 (some (askD (as ++ [fullA as]) [])) (some (.tup (bs.map atD))) (some (.tup (as.map atD))) (some (.int (as.length : Nat))) (some (treeD as)) (some (.tup ((Tr.coreV as).map Jt.iD))) none none) rfl f2]
    rfl
  refine ⟨S2, some (askD as []), some (.lst ((nmG as (List.range as.length) []).map D.str)), z5, some (askD (as ++ [fullA as]) []), some (.tup (bs.map atD)), some (.tup (as.map atD)), some (.int (as.length : Nat)), some (treeD as), some (.tup ((Tr.coreV as).map Jt.iD)), ?_, tw2.mono (by omega)⟩
  unfold lawB
  rw [seq_next w1, seq_next w2, seq_next w3, seq_next w4, seq_next w5, seq_next w6, seq_next w7, seq_next w8, seq_next w9, seq_next w10]
  exact w11
end
theorem law_true (ns : List Int) (h : ns.length ≤ 63) : ∃ fu S, F_law fu [.scr ns] [] = .ok (.bl true) S := by
  obtain ⟨r1, S1, ea, ⟨y2, y3, y4, y5, y6, y7, y8, y9, y10, y11, rfl⟩, tw⟩ := loop_inv (gm := tgN 2) (b := lawB 100)
    (fun i r S' => (∃ y2 y3 y4 y5 y6 y7 y8 y9 y10 y11, r = LV ns y2 y3 y4 y5 y6 y7 y8 y9 y10 y11 none none) ∧ Twn 0 (300 * i) S') (rng 0 4) 0 (LV ns none none none none none none none none none none none none) [.lst []] (fun i d r S1 hd hi => by
      obtain ⟨hi2, rfl⟩ := rng0_get hd
      obtain ⟨⟨y2, y3, y4, y5, y6, y7, y8, y9, y10, y11, rfl⟩, tw⟩ := hi
      obtain ⟨S', z3, z4, z5, z6, z7, z8, z9, z10, z11, e, tw'⟩ := lawB_ok (S := S1) (ns := ns) (y2 := some (.int i)) (y3 := y3) (y4 := y4) (y5 := y5) (y6 := y6) (y7 := y7) (y8 := y8) (y9 := y9) (y10 := y10) (y11 := y11) h tw (by omega)
      exact ⟨_, _, S', rfl, .inl e, ⟨_, _, _, _, _, _, _, _, _, _, rfl⟩, tw'.mono (by omega)⟩) ⟨⟨_, _, _, _, _, _, _, _, _, _, rfl⟩, ⟨[], by simp, rfl⟩⟩
  have hb : m_law 100 (frame 14 [.scr ns]) [] = .ok (.ret (.bl true)) (LV ns y2 y3 y4 y5 y6 y7 y8 y9 y10 y11 none none) S1 := by
    rw [law_eq]
    have s1 : (sSet 1 (mNewL mNil)) (frame 14 [.scr ns]) [] = .ok .next (LV ns none none none none none none none none none none none none) [.lst []] := rfl
    have s2 : (sFor (mRng1 (mCons (mC (.int 4)) mNil)) (tgN 2) (lawB 100)) (LV ns none none none none none none none none none none none none) [.lst []] = .ok .next (LV ns y2 y3 y4 y5 y6 y7 y8 y9 y10 y11 none none) S1 := (for_of (ds := rng 0 4) rfl).trans ea
    rw [seq_next s1, seq_next s2]
    rfl
  refine ⟨100, [], ?_⟩
  show finT _ (m_law 100 _ _) = _
  rw [hb]
  exact finT_ret ⟨Nat.zero_le _, fun i o hi ho => absurd hi (Nat.not_lt_zero _)⟩ (fz_clo rfl)
end Law
namespace Law
open PySem L2 Dv
set_option maxHeartbeats 0 in
theorem all_mk {l : PySem.W.OpenLaw} {w : World} {K : PySem.W.Frag} {h : Heap} {mg : Str → Option Value} {fa Q0 Ql Qd Q5 Qw Qz Qj Q0Y Qy Q11 Qk QB QA QY Qx Qc Qe Q3r : Addr} (X : K.In h) (G : h.Ns mainGlobals mg) (hfa : mg "law" = some (.ref fa))
    {QX QW QM QH Q6 QN Q1Y Q1Z Q1O Q2i Q0x Q1I Q1t Q1w Q1z Q1F Q0v Q1C Q0J Q0D Q0E Q0H Qv Q0F Q2K Q2Z Q2G Q2V Q0R Q37 Q39 Q2I Q2w Q2D Q0N Q2y Q1N Q1S Q2c Q1M Q0A Q1L Q3O Q3F Q3M Q3H Q3c Q3L Q2A Q31 Q2l Q2T Q0T Q2v Q3G Q3E Q3J Q3N Q3b Q3K Q28 Q22 Q2j Q1J Q0y Q2k Q2s Q2r Q2P Q2N Q0P Q2o Q2J Q34 Q2q Q30 Q0O Q2n Q3p Q3g Q3n Q3q Q13 Q3f Q2M Q2z Q33 Q2B Q0L Q35 Q18 Q1e Q1k Q1d Q0o Q1b Q1q Q1G Q1y Q1x Q0t Q1v Q3U Q3s Q3u Q3y Q2g Q3z : Value} {QG QF Q1K Q1R Q1D Q1r Q0C Q0G Q38 Q2x Q3a Q2U Q27 Q1V Q3R Q3P Q2C Q2S Q3B Q3D Q26 Q2b Q2u Q2W Q2R Q36 Q3o Q3d Q2m Q2O Q1h Q1m Q1E Q1s Q3V Q3v : Option Addr} {QD Q29 Q1B Q0I Q2F Q2L Q2f Q3I Q2X Q3C Q1H Q2E Q2H Q3e Q2Y Q1f Q1A Q3W : Array (Option Value)}
    (Q3 : PySem.W.nsIn K mainGlobals "_law_draw" = some (some (.ref Q0)))
    (Q2 : K.lookup Q0 = some ⟨QX, QG, .func (PySem.W.fnOf "_law_draw" "_law_draw" (defArgs s__law_draw) (defBody s__law_draw) (defScope s__law_draw) .none QW QM QH QF Q6 QN), QD⟩)
    (Q1 : PySem.W.codeIn K Q6 "_law_draw" = true)
    (Q4 : PySem.W.keepIn K (.ref Q0) = true)
    (QS : PySem.W.nsIn K mainGlobals "_law_pick" = some (some (.ref Ql)))
    (QI : K.lookup Ql = some ⟨Q1Y, Q1K, .func (PySem.W.fnOf "_law_pick" "_law_pick" (defArgs s__law_pick) (defBody s__law_pick) (defScope s__law_pick) .none Q1Z Q1O Q2i Q1R Q0x Q1I), Q29⟩)
    (QJ : PySem.W.codeIn K Q0x "_law_pick" = true)
    (QU : PySem.W.keepIn K (.ref Ql) = true)
    (Qs : PySem.W.nsIn K mainGlobals "_law_mixed" = some (some (.ref Qd)))
    (Qo : K.lookup Qd = some ⟨Q1t, Q1D, .func (PySem.W.fnOf "_law_mixed" "_law_mixed" (defArgs s__law_mixed) (defBody s__law_mixed) (defScope s__law_mixed) .none Q1w Q1z Q1F Q1r Q0v Q1C), Q1B⟩)
    (Qq : PySem.W.codeIn K Q0v "_law_mixed" = true)
    (Qt : PySem.W.keepIn K (.ref Qd) = true)
    (Qa : PySem.W.nsIn K mainGlobals "_law_drawn_web" = some (some (.ref Q5)))
    (Q8 : K.lookup Q5 = some ⟨Q0J, Q0C, .func (PySem.W.fnOf "_law_drawn_web" "_law_drawn_web" (defArgs s__law_drawn_web) (defBody s__law_drawn_web) (defScope s__law_drawn_web) .none Q0D Q0E Q0H Q0G Qv Q0F), Q0I⟩)
    (Q9 : PySem.W.codeIn K Qv "_law_drawn_web" = true)
    (Q7 : PySem.W.keepIn K (.ref Q5) = true)
    (Q00 : PySem.W.nsIn K mainGlobals "names_in" = some (some (.ref Qw)))
    (Q02 : K.lookup Qw = some ⟨Q2K, Q38, .func (PySem.W.fnOf "names_in" "names_in" (defArgs s_names_in) (defBody s_names_in) (defScope s_names_in) .none Q2Z Q2G Q2V Q2x Q0R Q37), Q2F⟩)
    (Q01 : PySem.W.codeIn K Q0R "names_in" = true)
    (Q0f : PySem.W.keepIn K (.ref Qw) = true)
    (Q0g : PySem.W.nsIn K mainGlobals "names_at" = some (some (.ref Qz)))
    (Q0n : K.lookup Qz = some ⟨Q39, Q3a, .func (PySem.W.fnOf "names_at" "names_at" (defArgs s_names_at) (defBody s_names_at) (defScope s_names_at) .none Q2I Q2w Q2D Q2U Q0N Q2y), Q2L⟩)
    (Q0b : PySem.W.codeIn K Q0N "names_at" = true)
    (Q04 : PySem.W.keepIn K (.ref Qz) = true)
    (QV : PySem.W.nsIn K mainGlobals "keeper_of" = some (some (.ref Qj)))
    (QT : K.lookup Qj = some ⟨Q1N, Q27, .func (PySem.W.fnOf "keeper_of" "keeper_of" (defArgs s_keeper_of) (defBody s_keeper_of) (defScope s_keeper_of) .none Q1S Q2c Q1M Q1V Q0A Q1L), Q2f⟩)
    (QR : PySem.W.codeIn K Q0A "keeper_of" = true)
    (QC : PySem.W.keepIn K (.ref Qj) = true)
    (Q19 : PySem.W.nsIn K mainGlobals "ears" = some (some (.ref Q0Y)))
    (Q17 : K.lookup Q0Y = some ⟨Q3O, Q3R, .func (PySem.W.fnOf "ears" "ears" (defArgs s_ears) (defBody s_ears) (defScope s_ears) .none Q3F Q3M Q3H Q3P Q3c Q3L), Q3I⟩)
    (Q1o : PySem.W.codeIn K Q3c "ears" = true)
    (Q1c : PySem.W.keepIn K (.ref Q0Y) = true)
    (Q0j : PySem.W.nsIn K mainGlobals "tree_for" = some (some (.ref Qy)))
    (Q0i : K.lookup Qy = some ⟨Q2A, Q2C, .func (PySem.W.fnOf "tree_for" "tree_for" (defArgs s_tree_for) (defBody s_tree_for) (defScope s_tree_for) .none Q31 Q2l Q2T Q2S Q0T Q2v), Q2X⟩)
    (Q03 : PySem.W.codeIn K Q0T "tree_for" = true)
    (Q0l : PySem.W.keepIn K (.ref Qy) = true)
    (Q1a : PySem.W.nsIn K mainGlobals "core" = some (some (.ref Q11)))
    (Q1i : K.lookup Q11 = some ⟨Q3G, Q3B, .func (PySem.W.fnOf "core" "core" (defArgs s_core) (defBody s_core) (defScope s_core) .none Q3E Q3J Q3N Q3D Q3b Q3K), Q3C⟩)
    (Q1l : PySem.W.codeIn K Q3b "core" = true)
    (Q1j : PySem.W.keepIn K (.ref Q11) = true)
    (QL : PySem.W.nsIn K mainGlobals "_law_same" = some (some (.ref Qk)))
    (QP : K.lookup Qk = some ⟨Q28, Q26, .func (PySem.W.fnOf "_law_same" "_law_same" (defArgs s__law_same) (defBody s__law_same) (defScope s__law_same) .none Q22 Q2j Q1J Q2b Q0y Q2k), Q1H⟩)
    (QE : PySem.W.codeIn K Q0y "_law_same" = true)
    (QO : PySem.W.keepIn K (.ref Qk) = true)
    (Q05 : PySem.W.nsIn K mainGlobals "leads_up" = some (some (.ref QB)))
    (Q09 : K.lookup QB = some ⟨Q2s, Q2u, .func (PySem.W.fnOf "leads_up" "leads_up" (defArgs s_leads_up) (defBody s_leads_up) (defScope s_leads_up) .none Q2r Q2P Q2N Q2W Q0P Q2o), Q2E⟩)
    (Q0k : PySem.W.codeIn K Q0P "leads_up" = true)
    (Q0c : PySem.W.keepIn K (.ref QB) = true)
    (Q08 : PySem.W.nsIn K mainGlobals "is_whole" = some (some (.ref QA)))
    (Q0h : K.lookup QA = some ⟨Q2J, Q2R, .func (PySem.W.fnOf "is_whole" "is_whole" (defArgs s_is_whole) (defBody s_is_whole) (defScope s_is_whole) .none Q34 Q2q Q30 Q36 Q0O Q2n), Q2H⟩)
    (Q06 : PySem.W.codeIn K Q0O "is_whole" = true)
    (Q0d : PySem.W.keepIn K (.ref QA) = true)
    (Q0q : PySem.W.nsIn K mainGlobals "is_tree" = some (some (.ref QY)))
    (Q0r : K.lookup QY = some ⟨Q3p, Q3o, .func (PySem.W.fnOf "is_tree" "is_tree" (defArgs s_is_tree) (defBody s_is_tree) (defScope s_is_tree) .none Q3g Q3n Q3q Q3d Q13 Q3f), Q3e⟩)
    (Q0s : PySem.W.codeIn K Q13 "is_tree" = true)
    (Q0p : PySem.W.keepIn K (.ref QY) = true)
    (QZ : PySem.W.nsIn K mainGlobals "_law_own" = some (some (.ref Qx)))
    (Q0a : K.lookup Qx = some ⟨Q2M, Q2m, .func (PySem.W.fnOf "_law_own" "_law_own" (defArgs s__law_own) (defBody s__law_own) (defScope s__law_own) .none Q2z Q33 Q2B Q2O Q0L Q35), Q2Y⟩)
    (Q0m : PySem.W.codeIn K Q0L "_law_own" = true)
    (Q0e : PySem.W.keepIn K (.ref Qx) = true)
    (Qi : PySem.W.nsIn K mainGlobals "_law_no_ear" = some (some (.ref Qc)))
    (Qf : K.lookup Qc = some ⟨Q18, Q1h, .func (PySem.W.fnOf "_law_no_ear" "_law_no_ear" (defArgs s__law_no_ear) (defBody s__law_no_ear) (defScope s__law_no_ear) .none Q1e Q1k Q1d Q1m Q0o Q1b), Q1f⟩)
    (Qg : PySem.W.codeIn K Q0o "_law_no_ear" = true)
    (Qh : PySem.W.keepIn K (.ref Qc) = true)
    (Qr : PySem.W.nsIn K mainGlobals "_law_every" = some (some (.ref Qe)))
    (Qm : K.lookup Qe = some ⟨Q1q, Q1E, .func (PySem.W.fnOf "_law_every" "_law_every" (defArgs s__law_every) (defBody s__law_every) (defScope s__law_every) .none Q1G Q1y Q1x Q1s Q0t Q1v), Q1A⟩)
    (Qp : PySem.W.codeIn K Q0t "_law_every" = true)
    (Qn : PySem.W.keepIn K (.ref Qe) = true)
    (Q0X : PySem.W.nsIn K mainGlobals "law" = some (some (.ref Q3r)))
    (Q1W : K.lookup Q3r = some ⟨Q3U, Q3V, .func (PySem.W.fnOf "law" "law" (defArgs s_law) (defBody s_law) (defScope s_law) .none Q3s Q3u Q3y Q3v Q2g Q3z), Q3W⟩)
    (Q1U : PySem.W.codeIn K Q2g "law" = true)
    (Q25 : PySem.W.keepIn K (.ref Q3r) = true)
    (Q1P : PySem.W.nsIn K mainGlobals "abs" = some none)
    (Q1X : PySem.W.nsIn K mainGlobals "all" = some none)
    (Q2e : PySem.W.nsIn K mainGlobals "any" = some none)
    (Q1g : PySem.W.nsIn K mainGlobals "bool" = some none)
    (Q1T : PySem.W.nsIn K mainGlobals "int" = some none)
    (Qu : PySem.W.nsIn K mainGlobals "isinstance" = some none)
    (Q24 : PySem.W.nsIn K mainGlobals "len" = some none)
    (Q1n : PySem.W.nsIn K mainGlobals "list" = some none)
    (Q21 : PySem.W.nsIn K mainGlobals "max" = some none)
    (Q0V : PySem.W.nsIn K mainGlobals "range" = some none)
    (Q2d : PySem.W.nsIn K mainGlobals "set" = some none)
    (Q0z : PySem.W.nsIn K mainGlobals "sorted" = some none)
    (Q20 : PySem.W.nsIn K mainGlobals "str" = some none)
    (Q0W : PySem.W.nsIn K mainGlobals "tuple" = some none)
    (Q23 : PySem.W.nsIn K mainGlobals "zip" = some none)
    : ∃ fd : FuncData, (∀ (s : Shared) (v : Value), BindsTo s fd ⟨[v], []⟩ [("script", v)]) ∧ ∀ base : Heap, K.In base → base.Ns mainGlobals mg → FnOk l.prog w K mg base (L2.CX l.prog w) 6 fa fd ["script"] (spLaw K) := by
  have e := hfa.symm.trans (PySem.W.mg_of X G Q0X)
  cases e
  have Qb := fun_mk (st := s__law_draw) Q2 Q1 Q4
  have Q07 : Binds K _ P__law_draw [] := Qb.binds (ps := P__law_draw) fun _ _ _ _ _ _ us hl => match us, hl with | [_, _, _], _ => rfl
  have Q0K := fun_mk (st := s__law_pick) QI QJ QU
  have Q32 : Binds K _ P__law_pick [] := Q0K.binds (ps := P__law_pick) fun _ _ _ _ _ _ us hl => match us, hl with | [_, _, _], _ => rfl
  have Q0w := fun_mk (st := s__law_mixed) Qo Qq Qt
  have Q2h : Binds K _ P__law_mixed [] := Q0w.binds (ps := P__law_mixed) fun _ _ _ _ _ _ us hl => match us, hl with | [_, _, _], _ => rfl
  have QK := fun_mk (st := s__law_drawn_web) Q8 Q9 Q7
  have Q0U : Binds K _ P__law_drawn_web [] := QK.binds (ps := P__law_drawn_web) fun _ _ _ _ _ _ us hl => match us, hl with | [_, _, _], _ => rfl
  have Q12 := fun_mk (st := s_names_in) Q02 Q01 Q0f
  have Q3h : Binds K _ P_names_in [] := Q12.binds (ps := P_names_in) fun _ _ _ _ _ _ us hl => match us, hl with | [_], _ => rfl
  have Q16 := fun_mk (st := s_names_at) Q0n Q0b Q04
  have Q3m : Binds K _ P_names_at [] := Q16.binds (ps := P_names_at) fun _ _ _ _ _ _ us hl => match us, hl with | [_, _], _ => rfl
  have Q0S := fun_mk (st := s_keeper_of) QT QR QC
  have Q2t : Binds K _ P_keeper_of [] := Q0S.binds (ps := P_keeper_of) fun _ _ _ _ _ _ us hl => match us, hl with | [_, _, _], _ => rfl
  have Q3x := fun_mk (st := s_ears) Q17 Q1o Q1c
  have Q3S : Binds K _ P_ears [] := Q3x.binds (ps := P_ears) fun _ _ _ _ _ _ us hl => match us, hl with | [_], _ => rfl
  have Q10 := fun_mk (st := s_tree_for) Q0i Q03 Q0l
  have Q3k : Binds K _ P_tree_for [] := Q10.binds (ps := P_tree_for) fun _ _ _ _ _ _ us hl => match us, hl with | [_], _ => rfl
  have Q3w := fun_mk (st := s_core) Q1i Q1l Q1j
  have Q3T : Binds K _ P_core [] := Q3w.binds (ps := P_core) fun _ _ _ _ _ _ us hl => match us, hl with | [_], _ => rfl
  have Q0M := fun_mk (st := s__law_same) QP QE QO
  have Q2p : Binds K _ P__law_same [] := Q0M.binds (ps := P__law_same) fun _ _ _ _ _ _ us hl => match us, hl with | [_, _], _ => rfl
  have Q14 := fun_mk (st := s_leads_up) Q09 Q0k Q0c
  have Q3i : Binds K _ P_leads_up [] := Q14.binds (ps := P_leads_up) fun _ _ _ _ _ _ us hl => match us, hl with | [_, _], _ => rfl
  have Q15 := fun_mk (st := s_is_whole) Q0h Q06 Q0d
  have Q3j : Binds K _ P_is_whole [] := Q15.binds (ps := P_is_whole) fun _ _ _ _ _ _ us hl => match us, hl with | [_], _ => rfl
  have Q1p := fun_mk (st := s_is_tree) Q0r Q0s Q0p
  have Q3t : Binds K _ P_is_tree [] := Q1p.binds (ps := P_is_tree) fun _ _ _ _ _ _ us hl => match us, hl with | [_, _], _ => rfl
  have Q0Z := fun_mk (st := s__law_own) Q0a Q0m Q0e
  have Q3l : Binds K _ P__law_own [] := Q0Z.binds (ps := P__law_own) fun _ _ _ _ _ _ us hl => match us, hl with | [_, _], _ => rfl
  have Q0u := fun_mk (st := s__law_no_ear) Qf Qg Qh
  have Q1u : Binds K _ P__law_no_ear [] := Q0u.binds (ps := P__law_no_ear) fun _ _ _ _ _ _ us hl => match us, hl with | [_, _], _ => rfl
  have Q0B := fun_mk (st := s__law_every) Qm Qp Qn
  have Q2a : Binds K _ P__law_every [] := Q0B.binds (ps := P__law_every) fun _ _ _ _ _ _ us hl => match us, hl with | [_], _ => rfl
  have Q3A := fun_mk (st := s_law) Q1W Q1U Q25
  have Q3X : Binds K _ P_law [] := Q3A.binds (ps := P_law) fun _ _ _ _ _ _ us hl => match us, hl with | [_], _ => rfl
  have T : Tx K mg Q0 Ql Qd Q5 Qw Qz Qj Q0Y Qy Q11 Qk QB QA QY Qx Qc Qe fa _ _ _ _ _ _ _ _ _ _ _ _ _ _ _ _ _ _ := ⟨PySem.W.mg_none_of X G Q1P,
    PySem.W.mg_none_of X G Q1X,
    PySem.W.mg_none_of X G Q2e,
    PySem.W.mg_none_of X G Q1g,
    PySem.W.mg_none_of X G Q1T,
    PySem.W.mg_none_of X G Qu,
    PySem.W.mg_none_of X G Q24,
    PySem.W.mg_none_of X G Q1n,
    PySem.W.mg_none_of X G Q21,
    PySem.W.mg_none_of X G Q0V,
    PySem.W.mg_none_of X G Q2d,
    PySem.W.mg_none_of X G Q0z,
    PySem.W.mg_none_of X G Q20,
    PySem.W.mg_none_of X G Q0W,
    PySem.W.mg_none_of X G Q23,
    Qb,
    Q07,
    PySem.W.mg_of X G Q3,
    Q0K,
    Q32,
    PySem.W.mg_of X G QS,
    Q0w,
    Q2h,
    PySem.W.mg_of X G Qs,
    QK,
    Q0U,
    PySem.W.mg_of X G Qa,
    Q12,
    Q3h,
    PySem.W.mg_of X G Q00,
    Q16,
    Q3m,
    PySem.W.mg_of X G Q0g,
    Q0S,
    Q2t,
    PySem.W.mg_of X G QV,
    Q3x,
    Q3S,
    PySem.W.mg_of X G Q19,
    Q10,
    Q3k,
    PySem.W.mg_of X G Q0j,
    Q3w,
    Q3T,
    PySem.W.mg_of X G Q1a,
    Q0M,
    Q2p,
    PySem.W.mg_of X G QL,
    Q14,
    Q3i,
    PySem.W.mg_of X G Q05,
    Q15,
    Q3j,
    PySem.W.mg_of X G Q08,
    Q1p,
    Q3t,
    PySem.W.mg_of X G Q0q,
    Q0Z,
    Q3l,
    PySem.W.mg_of X G QZ,
    Q0u,
    Q1u,
    PySem.W.mg_of X G Qi,
    Q0B,
    Q2a,
    PySem.W.mg_of X G Qr,
    Q3A,
    Q3X,
    PySem.W.mg_of X G Q0X⟩
  refine ⟨PySem.W.fnOf "law" "law" (defArgs s_law) (defBody s_law) (defScope s_law) .none Q3s Q3u Q3y Q3v Q2g Q3z, fun s v => .of_eq rfl, fun base _ _ => ?_⟩
  exact law_fn (fun fu => ok_law T fu) law_true
end Law
open PySem PySem.W PyProof.Rows in
set_option maxRecDepth 100000 in
set_option maxHeartbeats 0 in
theorem PySem.Challenge.cw_meetloft_k15_whole_tree_or_core_holds : PySem.Challenge.rw_meetloft_k15_whole_tree_or_core.Holds := by
  w_on; o_law; k_head; (case hw => w_witness2)
  k_fill
  refine L2.walk_of (l := PySem.Challenge.rw_meetloft_k15_whole_tree_or_core) (n := 63) (k := 6) (x := "script") (CX := fun w => L2.CX PySem.Challenge.pw_meetloft_k15_whole_tree_or_core w) (sp := fun w => Dv.spLaw _) rfl (by decide) rfl ⟨rfl, by decide, by decide⟩ (fun w h Y => PySem.W.kIn_of Y) ?F (fun w H a ns hl hO hS => Dv.sp_start hl hS) (fun w H s e s' z => Dv.no_exc z)
  case F =>
    intro w mg fa h KX G hmg
    refine' Law.all_mk KX G hmg ?Q3 ?Q2 ?Q1 ?Q4 ?QS ?QI ?QJ ?QU ?Qs ?Qo ?Qq ?Qt ?Qa ?Q8 ?Q9 ?Q7 ?Q00 ?Q02 ?Q01 ?Q0f ?Q0g ?Q0n ?Q0b ?Q04 ?QV ?QT ?QR ?QC ?Q19 ?Q17 ?Q1o ?Q1c ?Q0j ?Q0i ?Q03 ?Q0l ?Q1a ?Q1i ?Q1l ?Q1j ?QL ?QP ?QE ?QO ?Q05 ?Q09 ?Q0k ?Q0c ?Q08 ?Q0h ?Q06 ?Q0d ?Q0q ?Q0r ?Q0s ?Q0p ?QZ ?Q0a ?Q0m ?Q0e ?Qi ?Qf ?Qg ?Qh ?Qr ?Qm ?Qp ?Qn ?Q0X ?Q1W ?Q1U ?Q25 ?Q1P ?Q1X ?Q2e ?Q1g ?Q1T ?Qu ?Q24 ?Q1n ?Q21 ?Q0V ?Q2d ?Q0z ?Q20 ?Q0W ?Q23
    (case Q3 | Q2 | Q1 | Q4 | QS | QI | QJ | QU | Qs | Qo | Qq | Qt | Qa | Q8 | Q9 | Q7 | Q00 | Q02 | Q01 | Q0f | Q0g | Q0n | Q0b | Q04 | QV | QT | QR | QC | Q19 | Q17 | Q1o | Q1c | Q0j | Q0i | Q03 | Q0l | Q1a | Q1i | Q1l | Q1j | QL | QP | QE | QO | Q05 | Q09 | Q0k | Q0c | Q08 | Q0h | Q06 | Q0d | Q0q | Q0r | Q0s | Q0p | QZ | Q0a | Q0m | Q0e | Qi | Qf | Qg | Qh | Qr | Qm | Qp | Qn | Q0X | Q1W | Q1U | Q25 | Q1P | Q1X | Q2e | Q1g | Q1T | Qu | Q24 | Q1n | Q21 | Q0V | Q2d | Q0z | Q20 | Q0W | Q23 => k_is)
