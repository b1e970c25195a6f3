import PyProof.Rows.All
import Wide.All
import OpenK.AllK
import Wide.FinOn
import HandS.ForMost
import HandS.ForExc
import HandS.CallSlots
import HandS.Walk
import HandS.Lambda
import KE.KeyNested
import HandS.TupAny
import HandS.Deep
import HandS.IsInst
import HandS.Zip
import HandS.SortInts
import HandS.TupSets
import HandS.SetFor
import HandS.Strs
import HandS.Dict
import HandS.DictComp
import HandS.Iter
import HandS.Sort
import PyProof.ListRange
import PyProof.ConsumeWalk
import PyProof.Rows.TupMore
import KE.KLam
import KE.SortKeyHeap
import PyProof.Cells
import PyProof.Rows.TupSub
import PyProof.Rows.SeqItemCall
import KE.KSortKey
import HandS.Style
import KE.GoesSet
import HandS.Comp
import HandS.DictTup
import HandS.Conv
import HandS.DictSubView
import KE.KDictList
import KE.KDictZip
import HandS.TupMul
import HandS.Flow
import KE.KDictSum
import KE.GoesEnum
import HandS.ReCall
import PyProof.SeqIndex
import HandS.MakeKwOnly
import KE.KDictWalk
import KE.SortData
import KE.DataCmp
import HandS.TryOnly
import HandS.RaiseMore
import KE.GoesComp
import KE.GoesRaise
import HandS.Text
import KE.KDictLaw
import KE.GoesZip
import KE.GoesMore
import HandS.SetTxt0
import KE.KSortTupAny
import HandS.TupLe
import PyProof.DictUpdate
import HandS.FStr
import KE.KCallOwn
import KE.KUnpackStar
import HandS.More
import KE.IntTextLaws
import HandS.Zip0
import PySem.Challenge.RW_meetloft_k24_texts_of_books
set_option Elab.async false
set_option linter.all false
set_option maxRecDepth 100000
noncomputable section
namespace Dv
open PySem L2
abbrev Pr := Str × List Int
def nkP (p : Pr) : NestedKey := .tup [.text p.1, .tup (p.2.map .num)]
inductive D where
  | non : D
  | bl (b : Bool) : D
  | int (i : Int) : D
  | str (x : Str) : D
  | tup (xs : List D) : D
  | lst (xs : List D) : D
  | scr (xs : List Int) : D
  | dct (kvs : List (Key × D)) : D
  | loc (n : Nat) : D
  | ty (n : String) : D
  | tux (xs : List D) : D
  | dtt (kvs : List (List Key × D)) : D
  | dpr (w : World) (kvs : List (Pr × D)) : D
  | adr (a : Addr) : D
inductive O where
  | lst (xs : List D)
  | dct (kvs : List (Key × D))
  | ins (c : Str) (fs : List (Str × D))
  | tbl (x q : Str)
  | dtt (kvs : List (List Key × D))
  | dpr (w : World) (kvs : List (Pr × D))
abbrev Store := List O
abbrev Env := List (Option D)
def KLst (K : PySem.W.Frag) (a : Addr) (xs : List V) : Prop := SqL K (fun _ => none) a xs
theorem rd_none {a : Addr} {u : HO} (h : Rd (fun _ => none) a u) : False := by
  rcases h with h | ⟨o, h⟩
  · cases h
  · cases h
theorem KLst.sq {K : PySem.W.Frag} {a : Addr} {xs : List V} (h : KLst K a xs) (H : Hp) : SqL K H a xs := by
  rcases h with h | h
  · exact (rd_none h).elim
  · exact .inr h
theorem KLst.len {K : PySem.W.Frag} {a : Addr} {xs : List V} (h : KLst K a xs) : xs.length ≤ sizeLine := by
  rcases h with h | ⟨o, its, n, _, _, _, _, hz, r⟩
  · exact (rd_none h).elim
  · rw [r.length, Array.length_toList]
    exact hz
structure Tb where
  loc : List Addr
  hid : List Addr
def Tb.off (T : Tb) (a : Addr) : Prop := a ∉ T.loc ∧ a ∉ T.hid
def LAt (K : PySem.W.Frag) (T : Tb) (H : Hp) (a : Addr) (xs : List V) : Prop := (Rd H a (.lst xs) ∧ T.off a) ∨ KLst K a xs
def DprH (w : World) (a : Addr) (xs : List (Pr × Addr × V)) (h : Heap) : Prop := (a == sysModules) = false ∧ xs.length ≤ sizeLine ∧ (xs.map (·.1)).Nodup ∧ ∃ (ys : List (Pr × Addr × Value)) (ob : Obj) (es : Array DictEntry) (ep : Nat),
  Paired (fun (x : Pr × Addr × V) (y : Pr × Addr × Value) => x.1 = y.1 ∧ x.2.1 = y.2.1 ∧ RelV x.2.2 y.2.2) xs ys ∧ h.get? a = some ob ∧ ob.ExactDict ∧ ob.data = .dict es ep ∧ es.toList = ys.map fun y => ⟨NestedKey.hash w (nkP y.1), .ref y.2.1, y.2.2⟩
def DprO (w : World) (a : Addr) (xs : List (Pr × Addr × V)) : HO := .ext (DprH w a xs)
def prD (p : Pr) : D := .tup [.str p.1, .tup (p.2.map .int)]
mutual
inductive Rep (K : PySem.W.Frag) (T : Tb) (H : Hp) : V → D → Prop
  | non : Rep K T H .non .non
  | bl (b : Bool) : Rep K T H (.bl b) (.bl b)
  | int (i : Int) : Rep K T H (.int i) (.int i)
  | str (x : Str) : Rep K T H (.str x) (.str x)
  | ty (x : String) : Rep K T H (.ty x) (.ty x)
  | tup {a : Addr} {xs : List V} {ds : List D} : H a = some (.tup xs) → T.off a → RepL K T H xs ds → Rep K T H (.ref a) (.tup ds)
  | lst {a : Addr} {xs : List V} {ds : List D} : H a = some (.lst xs) → T.off a → RepL K T H xs ds → Rep K T H (.ref a) (.lst ds)
  | scr {a : Addr} {ns : List Int} : LAt K T H a (ns.map V.int) → Rep K T H (.ref a) (.scr ns)
  | dct {a : Addr} {kvs : List (Key × V)} {kds : List (Key × D)} : Rd H a (.dK kvs) → T.off a → kvs.map (·.1) = kds.map (·.1) → RepL K T H (kvs.map (·.2)) (kds.map (·.2)) → Rep K T H (.ref a) (.dct kds)
  | loc {a : Addr} {n : Nat} : T.loc[n]? = some a → Rep K T H (.ref a) (.loc n)
  | tux {a : Addr} {o : Obj} {xs : List V} {ds : List D} : o.dict = none → H a = some (.frz o (.tup xs)) → T.off a → RepL K T H xs ds → Rep K T H (.ref a) (.tux ds)
  | dtt {a : Addr} {kvs : List (List Key × V)} {kds : List (List Key × D)} : Rd H a (.dT kvs) → T.off a → kvs.map (·.1) = kds.map (·.1) → RepL K T H (kvs.map (·.2)) (kds.map (·.2)) → Rep K T H (.ref a) (.dtt kds)
  | adr (a : Addr) : Rep K T H (.ref a) (.adr a)
  | dpr {a : Addr} {w : World} {xs : List (Pr × Addr × V)} {kds : List (Pr × D)} : H a = some (DprO w a xs) → T.off a → xs.map (·.1) = kds.map (·.1) → RepL K T H (xs.map fun x => V.ref x.2.1) (xs.map fun x => prD x.1) → RepL K T H (xs.map (·.2.2)) (kds.map (·.2)) → Rep K T H (.ref a) (.dpr w kds)
inductive RepL (K : PySem.W.Frag) (T : Tb) (H : Hp) : List V → List D → Prop
  | nil : RepL K T H [] []
  | cons {v : V} {vs : List V} {d : D} {ds : List D} : Rep K T H v d → RepL K T H vs ds → RepL K T H (v :: vs) (d :: ds)
end
structure Step (T : Tb) (H : Hp) (T' : Tb) (H' : Hp) : Prop where
  ext : ∃ more, T'.loc = T.loc ++ more
  hid : T'.hid = T.hid
  hkeep : ∀ b, b ∈ T.hid → H' b = H b
  keep : ∀ b u, T.off b → H b = some u → H' b = some u
  new : ∀ a, a ∈ T'.loc → a ∉ T.loc → H a = none
theorem rd_some {H : Hp} {a : Addr} {u : HO} (h : Rd H a u) : H a ≠ none := by
  rcases h with h | ⟨o, h⟩ <;> rw [h] <;> exact fun e => by cases e
theorem rd_keep {H H' : Hp} {a : Addr} {u : HO} (k : ∀ v, H a = some v → H' a = some v) (h : Rd H a u) : Rd H' a u := by
  rcases h with h | ⟨o, h⟩
  · exact .inl (k _ h)
  · exact .inr ⟨o, k _ h⟩
theorem Step.refl (T : Tb) (H : Hp) : Step T H T H := ⟨⟨[], by simp⟩, rfl, fun _ _ => rfl, fun _ _ _ h => h, fun _ h n => absurd h n⟩
theorem Step.out {T T' : Tb} {H H' : Hp} (s : Step T H T' H') {b : Addr} (h : H b ≠ none) (n : T.off b) : T'.off b := ⟨fun m => h (s.new b m n.1), by rw [s.hid]; exact n.2⟩
theorem Step.rd {T T' : Tb} {H H' : Hp} (s : Step T H T' H') {b : Addr} {u : HO} (h : Rd H b u) (n : T.off b) : Rd H' b u := rd_keep (fun v => s.keep b v n) h
theorem Step.trans {T T1 T2 : Tb} {H H1 H2 : Hp} (a : Step T H T1 H1) (b : Step T1 H1 T2 H2) : Step T H T2 H2 where
  ext := by
    obtain ⟨m1, e1⟩ := a.ext
    obtain ⟨m2, e2⟩ := b.ext
    exact ⟨m1 ++ m2, by rw [e2, e1, List.append_assoc]⟩
  hid := b.hid.trans a.hid
  hkeep := fun c hc => (b.hkeep c (by rw [a.hid]; exact hc)).trans (a.hkeep c hc)
  keep := fun c u n h => b.keep c u (a.out (by rw [h]; exact fun e => by cases e) n) (a.keep c u n h)
  new := fun c m n => by
    by_cases h : c ∈ T1.loc
    · exact a.new c h n
    · cases q : H c with
      | none => rfl
      | some o =>
        have h2 := b.new c m h
        by_cases hc : c ∈ T.hid
        · rw [a.hkeep c hc, q] at h2
          cases h2
        · rw [a.keep c o ⟨n, hc⟩ q] at h2
          cases h2
theorem Step.get {T T' : Tb} {H H' : Hp} (s : Step T H T' H') {n : Nat} {a : Addr} (h : T.loc[n]? = some a) : T'.loc[n]? = some a := by
  obtain ⟨m, e⟩ := s.ext
  rw [e, List.getElem?_append_left (List.getElem?_eq_some_iff.mp h).1]
  exact h
section
variable {K : PySem.W.Frag} {T T' : Tb} {H H' : Hp}
theorem LAt.sq {a : Addr} {xs : List V} (h : LAt K T H a xs) : SqL K H a xs := by
  rcases h with ⟨h, n⟩ | h
  · exact .inl h
  · exact h.sq H
def dO : List (Key × V) ⊕ List (List Key × V) → HO
  | .inl kvs => .dK kvs
  | .inr kvs => .dT kvs
structure Kp (T : Tb) (H : Hp) (T' : Tb) (H' : Hp) : Prop where
  sq : ∀ b u, (∃ xs, u = .tup xs ∨ u = .lst xs ∨ (∃ o, u = .frz o (.lst xs) ∨ u = .frz o (.tup xs)) ∨ ∃ f, u = .ext f) → T.off b → H b = some u → H' b = some u ∧ T'.off b
  dk : ∀ b kvs, T.off b → Rd H b (dO kvs) → Rd H' b (dO kvs) ∧ T'.off b
  get : ∀ (n : Nat) (a : Addr), T.loc[n]? = some a → T'.loc[n]? = some a
theorem some_ne {H : Hp} {a : Addr} {u : HO} (h : H a = some u) : H a ≠ none := by
  rw [h]
  exact fun e => by cases e
theorem Step.kp (s : Step T H T' H') : Kp T H T' H' := ⟨fun b u _ n h => ⟨s.keep b u n h, s.out (some_ne h) n⟩, fun b _ n h => ⟨s.rd h n, s.out (rd_some h) n⟩, fun _ _ h => s.get h⟩
structure Kf (T : Tb) (H : Hp) (T' : Tb) (H' : Hp) : Prop extends Kp T H T' H' where
  frz : ∀ b o u, T.off b → H b = some (.frz o u) → H' b = some (.frz o u) ∧ T'.off b
theorem Step.kf (s : Step T H T' H') : Kf T H T' H' := ⟨s.kp, fun b o u n h => ⟨s.keep b _ n h, s.out (some_ne h) n⟩⟩
theorem Kp.tup (s : Kp T H T' H') {b : Addr} {xs : List V} (n : T.off b) (h : H b = some (.tup xs)) : H' b = some (.tup xs) ∧ T'.off b := s.sq b _ ⟨xs, .inl rfl⟩ n h
theorem Kp.lst (s : Kp T H T' H') {b : Addr} {xs : List V} (n : T.off b) (h : H b = some (.lst xs)) : H' b = some (.lst xs) ∧ T'.off b := s.sq b _ ⟨xs, .inr (.inl rfl)⟩ n h
theorem LAt.kp {a : Addr} {xs : List V} (s : Kp T H T' H') (h : LAt K T H a xs) : LAt K T' H' a xs := by
  rcases h with ⟨h | ⟨o, h⟩, n⟩ | h
  · exact .inl ⟨.inl (s.lst n h).1, (s.lst n h).2⟩
  · have q := s.sq a _ ⟨xs, .inr (.inr (.inl ⟨o, .inl rfl⟩))⟩ n h
    exact .inl ⟨.inr ⟨o, q.1⟩, q.2⟩
  · exact .inr h
mutual
theorem Rep.kp (s : Kp T H T' H') : ∀ {v : V} {d : D}, Rep K T H v d → Rep K T' H' v d
  | _, _, .non => .non
  | _, _, .bl b => .bl b
  | _, _, .int i => .int i
  | _, _, .str x => .str x
  | _, _, .ty x => .ty x
  | _, _, .tup h n r => .tup (s.tup n h).1 (s.tup n h).2 (RepL.kp s r)
  | _, _, .lst h n r => .lst (s.lst n h).1 (s.lst n h).2 (RepL.kp s r)
  | _, _, .scr h => .scr (h.kp s)
  | _, _, .dct h n e r => .dct (s.dk _ (.inl _) n h).1 (s.dk _ (.inl _) n h).2 e (RepL.kp s r)
  | _, _, .loc h => .loc (s.get _ _ h)
  | _, _, .tux d h n r => .tux d (s.sq _ _ ⟨_, .inr (.inr (.inl ⟨_, .inr rfl⟩))⟩ n h).1 (s.sq _ _ ⟨_, .inr (.inr (.inl ⟨_, .inr rfl⟩))⟩ n h).2 (RepL.kp s r)
  | _, _, .dtt h n e r => .dtt (s.dk _ (.inr _) n h).1 (s.dk _ (.inr _) n h).2 e (RepL.kp s r)
  | _, _, .adr a => .adr a
  | _, _, .dpr h n e r q => .dpr (s.sq _ _ ⟨[], .inr (.inr (.inr ⟨_, rfl⟩))⟩ n h).1 (s.sq _ _ ⟨[], .inr (.inr (.inr ⟨_, rfl⟩))⟩ n h).2 e (RepL.kp s r) (RepL.kp s q)
theorem RepL.kp (s : Kp T H T' H') : ∀ {vs : List V} {ds : List D}, RepL K T H vs ds → RepL K T' H' vs ds
  | _, _, .nil => .nil
  | _, _, .cons h r => .cons (Rep.kp s h) (RepL.kp s r)
end
theorem Rep.step (s : Step T H T' H') {v : V} {d : D} (h : Rep K T H v d) : Rep K T' H' v d := h.kp s.kp
theorem RepL.step (s : Step T H T' H') {vs : List V} {ds : List D} (h : RepL K T H vs ds) : RepL K T' H' vs ds := h.kp s.kp
theorem RepL.length : ∀ {vs : List V} {ds : List D}, RepL K T H vs ds → vs.length = ds.length
  | _, _, .nil => rfl
  | _, _, .cons _ r => by rw [List.length_cons, List.length_cons, RepL.length r]
theorem RepL.get : ∀ {vs : List V} {ds : List D} {i : Nat} {d : D}, RepL K T H vs ds → ds[i]? = some d → ∃ v, vs[i]? = some v ∧ Rep K T H v d
  | _, _, i, _, .nil, e => by simp at e
  | _, _, 0, _, .cons r _, e => by simp at e; subst e; exact ⟨_, rfl, r⟩
  | _, _, i + 1, d, .cons _ t, e => by
    obtain ⟨v, h1, h2⟩ := RepL.get (i := i) (d := d) t (by simpa using e)
    exact ⟨v, by simpa using h1, h2⟩
theorem RepL.append : ∀ {vs ws : List V} {ds es : List D}, RepL K T H vs ds → RepL K T H ws es → RepL K T H (vs ++ ws) (ds ++ es)
  | _, _, _, _, .nil, s => s
  | _, _, _, _, .cons r t, s => .cons r (RepL.append t s)
theorem RepL.set {v : V} {d : D} (r : Rep K T H v d) : ∀ {vs : List V} {ds : List D} (i : Nat), RepL K T H vs ds → RepL K T H (vs.set i v) (ds.set i d)
  | _, _, _, .nil => .nil
  | _, _, 0, .cons _ t => .cons r t
  | _, _, i + 1, .cons q t => .cons q (RepL.set r i t)
theorem RepL.take : ∀ {vs : List V} {ds : List D} (n : Nat), RepL K T H vs ds → RepL K T H (vs.take n) (ds.take n)
  | _, _, 0, _ => .nil
  | _, _, _ + 1, .nil => .nil
  | _, _, n + 1, .cons r t => .cons r (RepL.take n t)
theorem RepL.drop : ∀ {vs : List V} {ds : List D} (n : Nat), RepL K T H vs ds → RepL K T H (vs.drop n) (ds.drop n)
  | _, _, 0, r => r
  | _, _, _ + 1, .nil => .nil
  | _, _, n + 1, .cons _ t => RepL.drop n t
theorem RepL.reverse : ∀ {vs : List V} {ds : List D}, RepL K T H vs ds → RepL K T H vs.reverse ds.reverse
  | _, _, .nil => .nil
  | _, _, .cons r t => by
    rw [List.reverse_cons, List.reverse_cons]
    exact RepL.append (RepL.reverse t) (.cons r .nil)
theorem RepL.rep {vs : List V} {ds : List D} (h : RepL K T H vs ds) : ∀ k : Nat, RepL K T H (List.replicate k vs).flatten (List.replicate k ds).flatten
  | 0 => .nil
  | k + 1 => by
    rw [List.replicate_succ, List.replicate_succ, List.flatten_cons, List.flatten_cons]
    exact RepL.append h (RepL.rep h k)
theorem RepL.ints : ∀ (ns : List Int), RepL K T H (ns.map V.int) (ns.map D.int)
  | [] => .nil
  | n :: ns => .cons (.int n) (RepL.ints ns)
theorem RepL.of_ints : ∀ {vs : List V} {ns : List Int}, RepL K T H vs (ns.map D.int) → vs = ns.map V.int
  | _, [], .nil => rfl
  | _, n :: ns, .cons (.int _) r => by rw [RepL.of_ints r]; rfl
theorem RepL.of_bls : ∀ {vs : List V} {ns : List Bool}, RepL K T H vs (ns.map D.bl) → vs = ns.map V.bl
  | _, [], .nil => rfl
  | _, n :: ns, .cons (.bl _) r => by rw [RepL.of_bls r]; rfl
theorem RepL.strs : ∀ (ns : List Str), RepL K T H (ns.map V.str) (ns.map D.str)
  | [] => .nil
  | n :: ns => .cons (.str n) (RepL.strs ns)
theorem RepL.of_strs : ∀ {vs : List V} {ns : List Str}, RepL K T H vs (ns.map D.str) → vs = ns.map V.str
  | _, [], .nil => rfl
  | _, n :: ns, .cons (.str _) r => by rw [RepL.of_strs r]; rfl
end
def HLen (H : Hp) : Prop := ∀ a xs, (Rd H a (.lst xs) ∨ Rd H a (.tup xs)) → xs.length ≤ sizeLine
def TblAt (K : PySem.W.Frag) (mg : Str → Option Value) (x : Str) (a : Addr) : Prop :=
  ∃ (f c : Addr) (oc oc2 : Value) (od od2 : Option Addr) (fd : FuncData) (sl sl2 : Array (Option Value)) (vs : Array Value), mg x = some (.ref f) ∧ K.lookup f = some ⟨oc, od, .func fd, sl⟩ ∧ fd.code = .ref c ∧ K.lookup c = some ⟨oc2, od2, .fields vs, sl2⟩ ∧ vs[11]? = some (.ref a)
def ORep (K : PySem.W.Frag) (mg : Str → Option Value) (T : Tb) (H : Hp) (a : Addr) : O → Prop
  | .lst ds => ∃ xs, H a = some (.lst xs) ∧ RepL K T H xs ds
  | .dct kds => ∃ kvs, H a = some (.dK kvs) ∧ kvs.map (·.1) = kds.map (·.1) ∧ RepL K T H (kvs.map (·.2)) (kds.map (·.2))
  | .ins c fs => ∃ C dx fvs, mg c = some (.ref C) ∧ H a = some (.ins C dx fvs) ∧ fvs.map (·.1) = fs.map (·.1) ∧ RepL K T H (fvs.map (·.2)) (fs.map (·.2))
  | .dtt kds => ∃ kvs, H a = some (.dT kvs) ∧ kvs.map (·.1) = kds.map (·.1) ∧ RepL K T H (kvs.map (·.2)) (kds.map (·.2))
  | .dpr w kds => ∃ xs, H a = some (DprO w a xs) ∧ xs.map (·.1) = kds.map (·.1) ∧ RepL K T H (xs.map fun x => V.ref x.2.1) (xs.map fun x => prD x.1) ∧ RepL K T H (xs.map (·.2.2)) (kds.map (·.2))
  | .tbl x q => TblAt K mg x a ∧ ∃ ps : Array Value, H a = some (.tbl ps) ∧ TriplesOk ps.toList ∧ ∀ (pos : Pos) (cv : Value), codeAmong pos ps.toList = some cv → ∃ c, cv = .ref c ∧ H c = some (LamX.CodeO c q) ∧ T.off c
structure Sim (K : PySem.W.Frag) (mg : Str → Option Value) (T : Tb) (S : Store) (H : Hp) : Prop where
  len : T.loc.length = S.length
  nd : (T.loc ++ T.hid).Nodup
  obj : ∀ (i : Nat) (a : Addr) (o : O), T.loc[i]? = some a → S[i]? = some o → ORep K mg T H a o
  hid' : ∀ a, a ∈ T.hid → H a ≠ none ∧ ∀ xs, H a ≠ some (.tup xs)
  hl : HLen H
section
variable {K : PySem.W.Frag} {mg : Str → Option Value} {T T' : Tb} {H H' : Hp} {S : Store}
theorem ORep.kp {a : Addr} {o : O} (s : Kp T H T' H') (e : H' a = H a) (h : ORep K mg T H a o) : ORep K mg T' H' a o := by
  cases o with
  | lst ds =>
    obtain ⟨xs, h1, h2⟩ := h
    exact ⟨xs, e.trans h1, h2.kp s⟩
  | dct kds =>
    obtain ⟨kvs, h1, h2, h3⟩ := h
    exact ⟨kvs, e.trans h1, h2, h3.kp s⟩
  | dtt kds =>
    obtain ⟨kvs, h1, h2, h3⟩ := h
    exact ⟨kvs, e.trans h1, h2, h3.kp s⟩
  | dpr w kds =>
    obtain ⟨xs, h1, h2, h3, h4⟩ := h
    exact ⟨xs, e.trans h1, h2, h3.kp s, h4.kp s⟩
  | ins c fs =>
    obtain ⟨C, dx, fvs, h1, h2, h3, h4⟩ := h
    exact ⟨C, dx, fvs, h1, e.trans h2, h3, h4.kp s⟩
  | tbl x q =>
    obtain ⟨hx, ps, h1, h2, h3⟩ := h
    refine ⟨hx, ps, e.trans h1, h2, fun pos cv hc => ?_⟩
    obtain ⟨c, rfl, h4, h5⟩ := h3 pos cv hc
    obtain ⟨h6, h7⟩ := s.sq c _ ⟨[], .inr (.inr (.inr ⟨_, rfl⟩))⟩ h5 h4
    exact ⟨c, rfl, h6, h7⟩
theorem ORep.step {a : Addr} {o : O} (s : Step T H T' H') (e : H' a = H a) (h : ORep K mg T H a o) : ORep K mg T' H' a o := h.kp s.kp e
theorem ORep.some {a : Addr} {o : O} (h : ORep K mg T H a o) : H a ≠ none := by
  cases o with
  | lst ds => obtain ⟨xs, h1, _⟩ := h; rw [h1]; exact fun e => by cases e
  | dct kds => obtain ⟨kvs, h1, _⟩ := h; rw [h1]; exact fun e => by cases e
  | dtt kds => obtain ⟨kvs, h1, _⟩ := h; rw [h1]; exact fun e => by cases e
  | dpr w kds => obtain ⟨kvs, h1, _⟩ := h; rw [h1]; exact fun e => by cases e
  | ins c fs => obtain ⟨C, dx, fvs, _, h2, _⟩ := h; rw [h2]; exact fun e => by cases e
  | tbl x q => obtain ⟨_, ps, h1, _⟩ := h; rw [h1]; exact fun e => by cases e
theorem Sim.hid (s : Sim K mg T S H) (a : Addr) (h : a ∈ T.hid) : H a ≠ none := (s.hid' a h).1
theorem Sim.ndl (s : Sim K mg T S H) : T.loc.Nodup := (List.nodup_append.mp s.nd).1
theorem Sim.apart (s : Sim K mg T S H) {a : Addr} (h : a ∈ T.loc) (h2 : a ∈ T.hid) : False := (List.nodup_append.mp s.nd).2.2 a h a h2 rfl
theorem Sim.there (s : Sim K mg T S H) {a : Addr} (h : a ∈ T.loc) : H a ≠ none := by
  obtain ⟨i, hi, e⟩ := List.mem_iff_getElem.mp h
  have h1 : T.loc[i]? = some a := by rw [List.getElem?_eq_getElem hi, e]
  have hi2 : i < S.length := by rw [← s.len]; exact hi
  exact (s.obj i a S[i] h1 (List.getElem?_eq_getElem hi2)).some
theorem Sim.off (s : Sim K mg T S H) {p : Addr} (hp : H p = none) : T.off p := ⟨fun h => s.there h hp, fun h => s.hid p h hp⟩
theorem Sim.grow (s : Sim K mg T S H) (st : Step T H T H') (e : ∀ a ∈ T.loc, H' a = H a) (hl : HLen H') : Sim K mg T S H' :=
  ⟨s.len, s.nd, fun i a o h1 h2 => (s.obj i a o h1 h2).step st (e a (List.mem_of_getElem? h1)), fun a h => by rw [st.hkeep a h]; exact s.hid' a h, hl⟩
theorem Sim.stepNew {p : Addr} {o : HO} (s : Sim K mg T S H) (hp : H p = none) : Step T H T (upd H p o) :=
  ⟨⟨[], by simp⟩, rfl, fun b hb => upd_ne fun e => s.hid b hb (by rw [e]; exact hp), fun b u _ h => by rw [upd_ne (ne_of_none h hp)]; exact h, fun _ h n => absurd h n⟩
theorem hlen_new {p : Addr} {o : HO} (h : HLen H) (ho : ∀ xs, (o = .lst xs ∨ o = .tup xs ∨ (∃ x, o = .frz x (.lst xs)) ∨ ∃ x, o = .frz x (.tup xs)) → xs.length ≤ sizeLine) : HLen (upd H p o) := fun a xs hr => by
  by_cases e : a = p
  · subst e
    refine ho xs ?_
    rcases hr with (q | ⟨x, q⟩) | (q | ⟨x, q⟩) <;> rw [upd_same] at q <;> cases q
    · exact .inl rfl
    · exact .inr (.inr (.inl ⟨x, rfl⟩))
    · exact .inr (.inl rfl)
    · exact .inr (.inr (.inr ⟨x, rfl⟩))
  · refine h a xs ?_
    rcases hr with (q | ⟨x, q⟩) | (q | ⟨x, q⟩) <;> rw [upd_ne e] at q
    · exact .inl (.inl q)
    · exact .inl (.inr ⟨x, q⟩)
    · exact .inr (.inl q)
    · exact .inr (.inr ⟨x, q⟩)
theorem hlen_lst {p : Addr} {xs : List V} (h : HLen H) (hx : xs.length ≤ sizeLine) : HLen (upd H p (.lst xs)) := hlen_new h fun ys q => by
  rcases q with q | q | ⟨x, q⟩ | ⟨x, q⟩ <;> cases q
  exact hx
theorem hlen_tup {p : Addr} {xs : List V} (h : HLen H) (hx : xs.length ≤ sizeLine) : HLen (upd H p (.tup xs)) := hlen_new h fun ys q => by
  rcases q with q | q | ⟨x, q⟩ | ⟨x, q⟩ <;> cases q
  exact hx
theorem Sim.new {p : Addr} {o : HO} (s : Sim K mg T S H) (hp : H p = none) (hl : HLen (upd H p o)) : Sim K mg T S (upd H p o) :=
  s.grow (s.stepNew hp) (fun a ha => upd_ne fun e => s.there ha (by rw [e]; exact hp)) hl
theorem Sim.llen (s : Sim K mg T S H) {a : Addr} {xs : List V} (h : LAt K T H a xs) : xs.length ≤ sizeLine := by
  rcases h with ⟨h, _⟩ | h
  · exact s.hl a xs (.inl h)
  · exact h.len
def Tb.add (T : Tb) (p : Addr) : Tb := ⟨T.loc ++ [p], T.hid⟩
theorem Sim.stepAlloc {p : Addr} {o : HO} (s : Sim K mg T S H) (hp : H p = none) : Step T H (T.add p) (upd H p o) := ⟨⟨[p], rfl⟩, rfl, (s.stepNew hp).hkeep, (s.stepNew hp).keep, fun a h n => by
  rcases List.mem_append.mp h with h | h
  · exact absurd h n
  · rw [List.mem_singleton.mp h]; exact hp⟩
theorem Sim.alloc {p : Addr} {u : HO} {o : O} (s : Sim K mg T S H) (hp : H p = none) (hl : HLen (upd H p u)) (ho : ORep K mg (T.add p) (upd H p u) p o) : Sim K mg (T.add p) (S ++ [o]) (upd H p u) where
  len := by
    show (T.loc ++ [p]).length = _
    rw [List.length_append, List.length_append, s.len]; rfl
  nd := by
    have h0 := List.nodup_append.mp s.nd
    refine List.nodup_append.mpr ⟨List.nodup_append.mpr ⟨h0.1, by simp, fun a ha b hb e => (s.off hp).1 (by rw [← List.mem_singleton.mp hb, ← e]; exact ha)⟩, h0.2.1, fun a ha b hb e => ?_⟩
    rcases List.mem_append.mp ha with ha | ha
    · exact h0.2.2 a ha b hb e
    · exact (s.off hp).2 (by rw [← List.mem_singleton.mp ha, e]; exact hb)
  obj := fun i a o' h1 h2 => by
    have h1 : (T.loc ++ [p])[i]? = Option.some a := h1
    by_cases hi : i < T.loc.length
    · rw [List.getElem?_append_left hi] at h1
      rw [List.getElem?_append_left (by rw [← s.len]; exact hi)] at h2
      exact (s.obj i a o' h1 h2).step (s.stepAlloc hp) (upd_ne fun e => (s.off hp).1 (by rw [← e]; exact List.mem_of_getElem? h1))
    · rw [List.getElem?_append_right (by omega)] at h1
      rw [List.getElem?_append_right (by rw [← s.len]; omega)] at h2
      rw [← s.len] at h2
      cases k : i - T.loc.length with
      | zero =>
        rw [k] at h1 h2
        cases h1; cases h2
        exact ho
      | succ j =>
        rw [k] at h1
        cases h1
  hid' := fun a h => by rw [(s.stepNew hp).hkeep a h]; exact s.hid' a h
  hl := hl
theorem Sim.stepSet {p : Addr} {u : HO} (s : Sim K mg T S H) (hp : p ∈ T.loc) : Step T H T (upd H p u) := ⟨⟨[], by simp⟩, rfl, fun b hb => upd_ne fun e => s.apart hp (by rw [← e]; exact hb), fun b v n h => by
  rw [upd_ne fun e => n.1 (by rw [e]; exact hp)]
  exact h, fun _ h n => absurd h n⟩
theorem Sim.set {p : Addr} {u : HO} {o : O} {n : Nat} (s : Sim K mg T S H) (hp : T.loc[n]? = Option.some p) (hl : HLen (upd H p u)) (ho : ORep K mg T (upd H p u) p o) : Sim K mg T (S.set n o) (upd H p u) where
  len := by rw [List.length_set, s.len]
  nd := s.nd
  obj := fun i a o' h1 h2 => by
    by_cases hi : i = n
    · subst hi
      rw [hp] at h1; cases h1
      have hlt : i < S.length := by rw [← s.len]; exact (List.getElem?_eq_some_iff.mp hp).1
      rw [List.getElem?_set_self hlt] at h2
      cases h2
      exact ho
    · rw [List.getElem?_set_ne (Ne.symm hi)] at h2
      refine (s.obj i a o' h1 h2).step (s.stepSet (List.mem_of_getElem? hp)) (upd_ne fun e => hi ?_)
      subst e
      exact nd_ix s.ndl h1 hp
  hid' := fun a h => by rw [(s.stepSet (List.mem_of_getElem? hp)).hkeep a h]; exact s.hid' a h
  hl := hl
end
def RepSt (K : PySem.W.Frag) (T : Tb) (H : Hp) (r : Env) (g : St) : Prop := r.length = g.length ∧ ∀ (i : Nat) (d : D), r[i]? = some (some d) → ∃ v, g[i]? = some (some v) ∧ Rep K T H v d
section
variable {K : PySem.W.Frag} {T T' : Tb} {H H' : Hp} {r : Env} {g : St}
theorem RepSt.kp (s : Kp T H T' H') (h : RepSt K T H r g) : RepSt K T' H' r g := ⟨h.1, fun i d e => by
  obtain ⟨v, h1, h2⟩ := h.2 i d e
  exact ⟨v, h1, h2.kp s⟩⟩
theorem RepSt.step (s : Step T H T' H') (h : RepSt K T H r g) : RepSt K T' H' r g := h.kp s.kp
theorem RepSt.set {i : Nat} {v : V} {d : D} (h : RepSt K T H r g) (hv : Rep K T H v d) : RepSt K T H (r.set i (some d)) (g.set i (some v)) := ⟨by rw [List.length_set, List.length_set, h.1], fun j e q => by
  by_cases hj : j = i
  · subst hj
    by_cases hl : j < r.length
    · rw [List.getElem?_set_self hl] at q
      cases q
      exact ⟨v, by rw [List.getElem?_set_self (by rw [← h.1]; exact hl)], hv⟩
    · rw [List.getElem?_eq_none (by rw [List.length_set]; omega)] at q
      cases q
  · rw [List.getElem?_set_ne (Ne.symm hj)] at q ⊢
    exact h.2 j e q⟩
theorem RepSt.forgetB {i : Nat} (h : RepSt K T H r g) : RepSt K T H (r.set i none) (g.set i none) := ⟨by rw [List.length_set, List.length_set, h.1], fun j e q => by
  by_cases hj : j = i
  · subst hj
    by_cases hl : j < r.length
    · rw [List.getElem?_set_self hl] at q
      cases q
    · rw [List.getElem?_eq_none (by rw [List.length_set]; omega)] at q
      cases q
  · rw [List.getElem?_set_ne (Ne.symm hj)] at q ⊢
    exact h.2 j e q⟩
end
inductive R (α : Type) where
  | ok (a : α) (S : Store) : R α
  | exc (n : Str) (S : Store) : R α
  | bad : R α
def R.bind {α β : Type} (x : R α) (f : α → Store → R β) : R β := match x with
  | .ok a S => f a S
  | .exc n S => .exc n S
  | .bad => .bad
abbrev EM := Env → Store → R D
abbrev AM := Env → Store → R (List D)
abbrev BM := Env → Store → R Bool
inductive Fl where
  | next | ret (d : D) | brk | cont
inductive Z where
  | ok (f : Fl) (r : Env) (S : Store) : Z
  | exc (n : Str) (r : Env) (S : Store) : Z
  | bad : Z
abbrev SM := Env → Store → Z
section
variable (K : PySem.W.Frag) (mg : Str → Option Value) (Wx : WX)
def Wish (n : Str) (g : St) (H : Hp) : Prop := ∀ cls, mg n = some cls → Wx cls none g H
def Out {α β : Type} (rel : Tb → Hp → β → α → Prop) (T : Tb) (g : St) (H : Hp) (x : R α) (Q : β → Hp → Prop) : Prop := match x with
  | .ok d S => ∀ T' H' v, Step T H T' H' → Sim K mg T' S H' → rel T' H' v d → Q v H'
  | .exc n S => ∀ T' H', Step T H T' H' → Sim K mg T' S H' → Wish mg Wx n g H'
  | .bad => False
def tD (m : EM) : TE := fun g H Q => ∃ T r S, RepSt K T H r g ∧ Sim K mg T S H ∧ Out K mg Wx (Rep K) T g H (m r S) Q
def tDA (m : AM) : TA := fun g H Q => ∃ T r S, RepSt K T H r g ∧ Sim K mg T S H ∧ Out K mg Wx (RepL K) T g H (m r S) Q
def tDT (m : BM) : TT := fun g H Q => ∃ T r S, RepSt K T H r g ∧ Sim K mg T S H ∧ Out K mg Wx (fun _ _ v d => v = d) T g H (m r S) Q
def ZOut (T : Tb) (H : Hp) (z : Z) (E : Ends) : Prop := match z with
  | .ok .next r' S' => ∀ T' H' g', Step T H T' H' → Sim K mg T' S' H' → RepSt K T' H' r' g' → E.nx g' H'
  | .ok (.ret d) r' S' => ∀ T' H' v, Step T H T' H' → Sim K mg T' S' H' → Rep K T' H' v d → E.rt v H'
  | .ok .brk r' S' => ∀ T' H' g', Step T H T' H' → Sim K mg T' S' H' → RepSt K T' H' r' g' → E.bk g' H'
  | .ok .cont r' S' => ∀ T' H' g', Step T H T' H' → Sim K mg T' S' H' → RepSt K T' H' r' g' → E.ct g' H'
  | .exc n r' S' => ∀ T' H' g', Step T H T' H' → Sim K mg T' S' H' → RepSt K T' H' r' g' → Wish mg Wx n g' H'
  | .bad => False
def tDS (m : SM) : TS := fun E g H => ∃ T r S, RepSt K T H r g ∧ Sim K mg T S H ∧ ZOut K mg Wx T H (m r S) E
end
end Dv
namespace Dv
open PySem L2
theorem Sim.newGet {K : PySem.W.Frag} {mg : Str → Option Value} {T : Tb} {S : Store} {H : Hp} (s : Sim K mg T S H) {p : Addr} : (T.add p).loc[S.length]? = some p := by
  show (T.loc ++ [p])[S.length]? = some p
  rw [← s.len, List.getElem?_append_right (Nat.le_refl _), Nat.sub_self]
  rfl
section
variable {X : Cx}
theorem pe_imp {e : Expr} {t t' : TE} (h : PE X e t) (i : ∀ g H Q, t' g H Q → t g H Q) : PE X e t' := ⟨fun pins s g H Q I w => h.run pins s g H Q I (i g H Q w)⟩
theorem pt_imp {e : Expr} {t t' : TT} (h : PT X e t) (i : ∀ g H Q, t' g H Q → t g H Q) : PT X e t' := ⟨fun pins s g H Q I w => h.run pins s g H Q I (i g H Q w)⟩
theorem pw_imp {e : Expr} {t t' : TT} (h : PW X e t) (i : ∀ g H Q, t' g H Q → t g H Q) : PW X e t' := ⟨fun wh pins s g H Q I w => h.run wh pins s g H Q I (i g H Q w)⟩
theorem pa_imp {es : List Expr} {t t' : TA} (h : PA X es t) (i : ∀ g H Q, t' g H Q → t g H Q) : PA X es t' := ⟨fun pos pins s g H Q I w => h.run pos pins s g H Q I (i g H Q w)⟩
theorem ps_imp {st : Stmt} {t t' : TS} (h : PS X st t) (i : ∀ E g H, t' E g H → t E g H) : PS X st t' := ⟨fun pins s g H E I w => h.run pins s g H E I (i E g H w)⟩
theorem pss_imp {st : List Stmt} {t t' : TS} (h : PSs X st t) (i : ∀ E g H, t' E g H → t E g H) : PSs X st t' := ⟨fun pins s g H E I w => h.run pins s g H E I (i E g H w)⟩
theorem pi_imp {tg e : Expr} {t t' : TI} (h : PI X tg e t) (i : ∀ g H R, t' g H R → t g H R) : PI X tg e t' := ⟨fun pins s g H R I w => h.run pins s g H R I (i g H R w)⟩
end
def ofO {α : Type} (o : Option α) (S : Store) : R α := match o with
  | some a => .ok a S
  | none => .bad
section
variable {K : PySem.W.Frag} {mg : Str → Option Value} {Wx : WX} {α β γ δ : Type} {relA : Tb → Hp → β → α → Prop} {relB : Tb → Hp → δ → γ → Prop} {T : Tb} {g : St} {H : Hp}
theorem Out.bind {x : R α} {f : α → Store → R γ} {Q : δ → Hp → Prop} {Q1 : β → Hp → Prop} (h : Out K mg Wx relB T g H (x.bind f) Q)
    (k : ∀ a S T1 H1 v, Step T H T1 H1 → Sim K mg T1 S H1 → relA T1 H1 v a → Out K mg Wx relB T1 g H1 (f a S) Q → Q1 v H1) : Out K mg Wx relA T g H x Q1 := by
  cases x with
  | bad => exact h
  | exc n S => exact h
  | ok a S =>
    intro T1 H1 v st sim rel
    refine k a S T1 H1 v st sim rel ?_
    have h : Out K mg Wx relB T g H (f a S) Q := h
    revert h
    cases f a S with
    | bad => exact fun h => h
    | exc n S2 => exact fun h T2 H2 st2 sim2 => h T2 H2 (st.trans st2) sim2
    | ok b S2 => exact fun h T2 H2 w st2 sim2 rel2 => h T2 H2 w (st.trans st2) sim2 rel2
theorem Out.use {o : Option γ} {S : Store} {Q : δ → Hp → Prop} {P : Prop} (h : Out K mg Wx relB T g H (ofO o S) Q)
    (k : ∀ b, o = some b → (∀ T' H' v, Step T H T' H' → Sim K mg T' S H' → relB T' H' v b → Q v H') → P) : P := by
  cases o with
  | none => exact h.elim
  | some b => exact k b rfl h
end
def mVar (i : Nat) : EM := fun r S => match r[i]? with
  | some (some d) => .ok d S
  | _ => .bad
def mC (d : D) : EM := fun _ S => .ok d S
section
variable {X : Cx} {Wx : WX}
theorem jv (i : Nat) {x : Str} {pos : Pos} (hN : X.N[i]? = some x := by rfl) (hv : Vis X.env.scope x := by first | exact Or.inl rfl | exact Or.inr (Or.inl rfl) | exact Or.inr (Or.inr rfl)) (hd : (x == ("__debug__" : Str)) = false := by decide)
    (hcd : (x == ("__classdict__" : Str)) = false := by decide) : PE X (.Name x pos) (tD X.K X.mg Wx (mVar i)) := by
  refine pe_imp (pe_var hN hv hd hcd) fun g H Q h => ?_
  obtain ⟨T, r, S, rs, sim, h⟩ := h
  unfold mVar at h
  split at h
  · rename_i d e
    obtain ⟨v, h1, h2⟩ := rs.2 i d e
    exact ⟨v, h1, h T H v (Step.refl T H) sim h2⟩
  · exact h.elim
theorem j_c {e : Expr} {v : V} {d : D} (h : PE X e (tC v)) (hd : ∀ T H, Rep X.K T H v d) : PE X e (tD X.K X.mg Wx (mC d)) := by
  refine pe_imp h fun g H Q h => ?_
  obtain ⟨T, r, S, rs, sim, h⟩ := h
  exact h T H v (Step.refl T H) sim (hd T H)
theorem j_int {i j pos} : PE X (.Constant (.int i) j pos) (tD X.K X.mg Wx (mC (.int i))) := j_c pe_int fun _ _ => .int i
theorem j_bl {i j pos} : PE X (.Constant (.bool i) j pos) (tD X.K X.mg Wx (mC (.bl i))) := j_c pe_bl fun _ _ => .bl i
theorem j_str {i j pos} : PE X (.Constant (.str i) j pos) (tD X.K X.mg Wx (mC (.str i))) := j_c pe_str fun _ _ => .str i
theorem j_non {j pos} : PE X (.Constant .none j pos) (tD X.K X.mg Wx (mC .non)) := j_c pe_non fun _ _ => .non
theorem j_globI {x : Str} {i : Int} {t : Tok} {pos : Pos} (hg : Gl X x) (hm : X.mg x = some (.int i t)) (hd : (x == ("__debug__" : Str)) = false := by decide) : PE X (.Name x pos) (tD X.K X.mg Wx (mC (.int i))) := j_c (pe_glob (v := .int i) hg hm ⟨t, rfl⟩ hd) fun _ _ => .int i
end
def mNil : AM := fun _ S => .ok [] S
def mCons (m : EM) (ms : AM) : AM := fun r S => (m r S).bind fun d S1 => (ms r S1).bind fun ds S2 => .ok (d :: ds) S2
def mTup (ms : AM) : EM := fun r S => (ms r S).bind fun ds S1 => if ds.length ≤ 100000 then .ok (.tup ds) S1 else .bad
def mLst (ms : AM) : EM := fun r S => (ms r S).bind fun ds S1 => if ds.length ≤ 100000 then .ok (.lst ds) S1 else .bad
def mNewL (ms : AM) : EM := fun r S => (ms r S).bind fun ds S1 => if ds.length ≤ 100000 then .ok (.loc S1.length) (S1 ++ [.lst ds]) else .bad
theorem sz5 {n : Nat} (h : n ≤ 100000) : n ≤ sizeLine := Nat.le_trans h (by decide)
section
variable {X : Cx} {Wx : WX} {e : Expr} {es : List Expr} {pos : Pos} {m : EM} {ms : AM}
theorem ja_nil : PA X [] (tDA X.K X.mg Wx mNil) := by
  refine pa_imp pa_nil fun g H Q h => ?_
  obtain ⟨T, r, S, rs, sim, h⟩ := h
  exact h T H [] (Step.refl T H) sim .nil
theorem ja_cons (ha : PE X e (tD X.K X.mg Wx m)) (hr : PA X es (tDA X.K X.mg Wx ms)) (hs : starEach (e :: es) X.env = (false, eval e X.env) :: starEach es X.env := by rfl) : PA X (e :: es) (tDA X.K X.mg Wx (mCons m ms)) := by
  refine pa_imp (pa_cons ha hr hs) fun g H Q h => ?_
  obtain ⟨T, r, S, rs, sim, h⟩ := h
  refine ⟨T, r, S, rs, sim, Out.bind h fun d S1 T1 H1 v st sim1 rel h1 => ?_⟩
  refine ⟨T1, r, S1, rs.step st, sim1, Out.bind h1 fun ds S2 T2 H2 vs st2 sim2 rel2 h2 => ?_⟩
  exact h2 T2 H2 (v :: vs) (Step.refl T2 H2) sim2 (.cons (rel.step st2) rel2)
theorem j_tup {x1} (h : PA X es (tDA X.K X.mg Wx ms)) : PE X (.Tuple es x1 pos) (tD X.K X.mg Wx (mTup ms)) := by
  refine pe_imp (pe_tup h) fun g H Q h => ?_
  obtain ⟨T, r, S, rs, sim, h⟩ := h
  refine ⟨T, r, S, rs, sim, Out.bind h fun ds S1 T1 H1 vs st sim1 rel h1 => ?_⟩
  split at h1
  · rename_i hz
    have hz' : vs.length ≤ sizeLine := by rw [rel.length]; exact sz5 hz
    refine ⟨hz', fun p hp => ?_⟩
    have st1 : Step T1 H1 T1 (upd H1 p (.tup vs)) := sim1.stepNew hp
    exact h1 T1 _ _ st1 (sim1.new hp (hlen_tup sim1.hl hz')) (.tup upd_same (sim1.off hp) (rel.step st1))
  · exact h1.elim
theorem j_lst (h : PA X es (tDA X.K X.mg Wx ms)) : PE X (.List es pos) (tD X.K X.mg Wx (mLst ms)) := by
  refine pe_imp (pe_lst h) fun g H Q h => ?_
  obtain ⟨T, r, S, rs, sim, h⟩ := h
  refine ⟨T, r, S, rs, sim, Out.bind h fun ds S1 T1 H1 vs st sim1 rel h1 => ?_⟩
  split at h1
  · rename_i hz
    have hz' : vs.length ≤ sizeLine := by rw [rel.length]; exact sz5 hz
    refine ⟨hz', fun p hp => ?_⟩
    have st1 : Step T1 H1 T1 (upd H1 p (.lst vs)) := sim1.stepNew hp
    exact h1 T1 _ _ st1 (sim1.new hp (hlen_lst sim1.hl hz')) (.lst upd_same (sim1.off hp) (rel.step st1))
  · exact h1.elim
theorem j_newL (h : PA X es (tDA X.K X.mg Wx ms)) : PE X (.List es pos) (tD X.K X.mg Wx (mNewL ms)) := by
  refine pe_imp (pe_lst h) fun g H Q h => ?_
  obtain ⟨T, r, S, rs, sim, h⟩ := h
  refine ⟨T, r, S, rs, sim, Out.bind h fun ds S1 T1 H1 vs st sim1 rel h1 => ?_⟩
  split at h1
  · rename_i hz
    have hz' : vs.length ≤ sizeLine := by rw [rel.length]; exact sz5 hz
    refine ⟨hz', fun p hp => ?_⟩
    have st1 : Step T1 H1 (T1.add p) (upd H1 p (.lst vs)) := sim1.stepAlloc hp
    refine h1 (T1.add p) _ _ st1 (sim1.alloc hp (hlen_lst sim1.hl hz') ⟨vs, upd_same, rel.step st1⟩) (.loc ?_)
    exact sim1.newGet
  · exact h1.elim
end
section
variable (K : PySem.W.Frag) (mg : Str → Option Value)
def POk (r : List V → Hp → VK → Prop) (f : List D → Store → Option D) : Prop := ∀ T S H vs ds d (Q : VK), Sim K mg T S H → RepL K T H vs ds → f ds S = some d →
  (∀ H' v, Step T H T H' → Sim K mg T S H' → Rep K T H' v d → Q v H') → r vs H Q
def POk2 (r : R2) (f : D → D → Store → Option D) : Prop := ∀ T S H x y a b d (Q : VK), Sim K mg T S H → Rep K T H x a → Rep K T H y b → f a b S = some d →
  (∀ H' v, Step T H T H' → Sim K mg T S H' → Rep K T H' v d → Q v H') → r x y H Q
def POk1 (r : V → Hp → VK → Prop) (f : D → Store → Option D) : Prop := ∀ T S H x a d (Q : VK), Sim K mg T S H → Rep K T H x a → f a S = some d →
  (∀ H' v, Step T H T H' → Sim K mg T S H' → Rep K T H' v d → Q v H') → r x H Q
end
def mBin (f : D → D → Store → Option D) (ma mb : EM) : EM := fun r S => (ma r S).bind fun a S1 => (mb r S1).bind fun b S2 => ofO (f a b S2) S2
def mUn (f : D → Store → Option D) (ma : EM) : EM := fun r S => (ma r S).bind fun a S1 => ofO (f a S1) S1
def mCall (f : List D → Store → Option D) (ms : AM) : EM := fun r S => (ms r S).bind fun ds S1 => ofO (f ds S1) S1
section
variable {X : Cx} {Wx : WX} {a b : Expr} {es : List Expr} {pos : Pos} {ma mb : EM} {ms : AM}
theorem tOp_of {K : PySem.W.Frag} {mg : Str → Option Value} {r : R2} {f : D → D → Store → Option D} (hf : POk2 K mg r f) : ∀ g H Q, tD K mg Wx (mBin f ma mb) g H Q → tOp r (tD K mg Wx ma) (tD K mg Wx mb) g H Q := by
  intro g H Q h
  obtain ⟨T, r, S, rs, sim, h⟩ := h
  refine ⟨T, r, S, rs, sim, Out.bind h fun x S1 T1 H1 v st sim1 rel h1 => ?_⟩
  refine ⟨T1, r, S1, rs.step st, sim1, Out.bind h1 fun y S2 T2 H2 w st2 sim2 rel2 h2 => ?_⟩
  exact Out.use h2 fun d e k => hf T2 S2 H2 v w x y d Q sim2 (rel.step st2) rel2 e fun H' v' s' => k T2 H' v' s'
theorem j_bin {op : Operator} {r : R2} {f : D → D → Store → Option D} (ho : OpR X (binaryOp op) r) (hf : POk2 X.K X.mg r f) (ha : PE X a (tD X.K X.mg Wx ma)) (hb : PE X b (tD X.K X.mg Wx mb)) : PE X (.BinOp a op b pos) (tD X.K X.mg Wx (mBin f ma mb)) :=
  pe_imp (pe_op ho ha hb) (tOp_of hf)
theorem j_cmp {op : CmpOp} {r : R2} {f : D → D → Store → Option D} (ho : OpR X (compareOp op) r) (hf : POk2 X.K X.mg r f) (hm : behindInMarks op b = false) (ha : PE X a (tD X.K X.mg Wx ma)) (hb : PE X b (tD X.K X.mg Wx mb)) : PE X (.Compare a [op] [b] pos) (tD X.K X.mg Wx (mBin f ma mb)) :=
  pe_imp (pe_cmpR ho ha hb hm) (tOp_of hf)
theorem j_un {op : UnaryOp} {r : V → Hp → VK → Prop} {f : D → Store → Option D} (ho : UnR X (unaryOp op) r) (hf : POk1 X.K X.mg r f) (ha : PE X a (tD X.K X.mg Wx ma)) : PE X (.UnaryOp op a pos) (tD X.K X.mg Wx (mUn f ma)) := by
  refine pe_imp (pe_un ho ha) fun g H Q h => ?_
  obtain ⟨T, r, S, rs, sim, h⟩ := h
  refine ⟨T, r, S, rs, sim, Out.bind h fun x S1 T1 H1 v st sim1 rel h1 => ?_⟩
  exact Out.use h1 fun d e k => hf T1 S1 H1 v x d Q sim1 rel e fun H' v' s' => k T1 H' v' s'
theorem j_ix {r : R2} {f : D → D → Store → Option D} (ho : IxR X r) (hf : POk2 X.K X.mg r f) (hs : PlainIx b) (ha : PE X a (tD X.K X.mg Wx ma)) (hb : PE X b (tD X.K X.mg Wx mb)) : PE X (.Subscript a b pos) (tD X.K X.mg Wx (mBin f ma mb)) :=
  pe_imp (pe_ix ho ha hb hs) (tOp_of hf)
theorem tCB_of {K : PySem.W.Frag} {mg : Str → Option Value} {r : List V → Hp → VK → Prop} {f : List D → Store → Option D} (hf : POk K mg r f) : ∀ g H Q, tD K mg Wx (mCall f ms) g H Q → tCB r (tDA K mg Wx ms) g H Q := by
  intro g H Q h
  obtain ⟨T, r, S, rs, sim, h⟩ := h
  refine ⟨T, r, S, rs, sim, Out.bind h fun x S1 T1 H1 v st sim1 rel h1 => ?_⟩
  exact Out.use h1 fun d e k => hf T1 S1 H1 v x d Q sim1 rel e fun H' v' s' => k T1 H' v' s'
theorem j_callB {x : Str} {p : Pos} {e : Expr} {id : String} {r : List V → Hp → VK → Prop} {f : List D → Store → Option D} (hc : CallR X (.builtin id) r) (hf : POk X.K X.mg r f) (hg : Gl X x) (hm : X.mg x = none) (hv : bootBuiltins x = some (.builtin id)) (ha : PA X (e :: es) (tDA X.K X.mg Wx ms))
    (hn : x ≠ "__name__" := by decide) (hdb : (x == ("__debug__" : Str)) = false := by decide) (he : starEach (e :: es) X.env = (false, eval e X.env) :: starEach es X.env := by rfl) (hpl : (backTo pos (starEach es X.env)).any (·.1) = false := by rfl) :
    PE X (.Call (.Name x p) (e :: es) [] pos) (tD X.K X.mg Wx (mCall f ms)) := pe_imp (pe_callB hc hg hm hv ha hn hdb he hpl) (tCB_of hf)
theorem j_callT {x : Str} {p : Pos} {e : Expr} {id : String} {r : List V → Hp → VK → Prop} {f : List D → Store → Option D} (hc : CallR X (.type id) r) (hf : POk X.K X.mg r f) (hg : Gl X x) (hm : X.mg x = none) (hv : bootBuiltins x = some (.type id)) (ha : PA X (e :: es) (tDA X.K X.mg Wx ms))
    (hn : x ≠ "__name__" := by decide) (hdb : (x == ("__debug__" : Str)) = false := by decide) (he : starEach (e :: es) X.env = (false, eval e X.env) :: starEach es X.env := by rfl) (hpl : (backTo pos (starEach es X.env)).any (·.1) = false := by rfl) :
    PE X (.Call (.Name x p) (e :: es) [] pos) (tD X.K X.mg Wx (mCall f ms)) := pe_imp (pe_callTy hc hg hm hv ha hn hdb he hpl) (tCB_of hf)
end
end Dv
namespace Dv
open PySem L2
theorem Rep.bl_of {K : PySem.W.Frag} {T : Tb} {H : Hp} {v : V} {b : Bool} (h : Rep K T H v (.bl b)) : v = .bl b := by
  cases h
  rfl
theorem Rep.int_of {K : PySem.W.Frag} {T : Tb} {H : Hp} {v : V} {b : Int} (h : Rep K T H v (.int b)) : v = .int b := by
  cases h
  rfl
theorem Rep.str_of {K : PySem.W.Frag} {T : Tb} {H : Hp} {v : V} {b : Str} (h : Rep K T H v (.str b)) : v = .str b := by
  cases h
  rfl
def asB (d : D) : Option Bool := match d with
  | .bl b => some b
  | _ => none
def truD (d : D) (S : Store) : Option Bool := match d with
  | .non => some false
  | .bl b => some b
  | .int i => some (i != 0)
  | .str x => if x.length ≤ 100000 then some ((x.length : Int) != 0) else none
  | .tup xs => some (!xs.isEmpty)
  | .lst xs => some (!xs.isEmpty)
  | .scr ns => some (!ns.isEmpty)
  | .loc n => match S[n]? with
    | some (.lst xs) => some (!xs.isEmpty)
    | _ => none
  | _ => none
def mT (m : EM) : BM := fun r S => (m r S).bind fun d S1 => ofO (asB d) S1
def mTru (m : EM) : BM := fun r S => (m r S).bind fun d S1 => ofO (truD d S1) S1
def mNotT (m : BM) : BM := fun r S => (m r S).bind fun b S1 => .ok (!b) S1
def mAndT (ma mb : BM) : BM := fun r S => (ma r S).bind fun b S1 => if b = true then mb r S1 else .ok false S1
def mOrT (ma mb : BM) : BM := fun r S => (ma r S).bind fun b S1 => if b = true then .ok true S1 else mb r S1
def mAnd (ma mb : EM) : EM := fun r S => (ma r S).bind fun d S1 => match d with
  | .bl true => mb r S1
  | .bl false => .ok (.bl false) S1
  | _ => .bad
def mNot (ma : EM) : EM := fun r S => (ma r S).bind fun d S1 => match d with
  | .bl b => .ok (.bl (!b)) S1
  | _ => .bad
def mIf (mt : BM) (ma mb : EM) : EM := fun r S => (mt r S).bind fun b S1 => if b = true then ma r S1 else mb r S1
def mChain (f f' : D → D → Store → Option D) (ma mb mc : EM) : EM := fun r S => (ma r S).bind fun a S1 => (mb r S1).bind fun b S2 => (ofO (f a b S2) S2).bind fun d S3 => match d with
  | .bl true => (mc r S3).bind fun c S4 => ofO (f' b c S4) S4
  | .bl false => .ok (.bl false) S3
  | _ => .bad
section
variable {X : Cx} {Wx : WX} {a b c : Expr} {rest : List Expr} {pos : Pos} {ma mb mc : EM} {ta tb : BM}
theorem isEmpty_rep {K : PySem.W.Frag} {T : Tb} {H : Hp} {xs : List V} {ds : List D} (h : RepL K T H xs ds) : (!xs.isEmpty) = !ds.isEmpty := by
  cases h <;> rfl
theorem truD_ok {K : PySem.W.Frag} {mg : Str → Option Value} {T : Tb} {S : Store} {H : Hp} {v : V} {d : D} {b : Bool} (sim : Sim K mg T S H) (h : Rep K T H v d) (e : truD d S = some b) : TruV K v H b := by
  cases h with
  | non => cases e; rfl
  | bl x => cases e; rfl
  | int i => cases e; rfl
  | str x =>
    have e : (if x.length ≤ 100000 then some ((x.length : Int) != 0) else none) = some b := e
    by_cases hz : x.length ≤ 100000
    · rw [if_pos hz] at e
      cases e
      exact ⟨sz5 hz, rfl⟩
    · rw [if_neg hz] at e
      cases e
  | tup h n r => cases e; exact .inr (.inl ⟨_, SqT.of h, (isEmpty_rep r).symm⟩)
  | lst h n r => cases e; exact .inl ⟨_, SqL.of h, (isEmpty_rep r).symm⟩
  | scr h =>
    cases e
    refine .inl ⟨_, h.sq, ?_⟩
    rename_i ns
    cases ns <;> rfl
  | dct h n q r => cases e
  | dtt h n q r => cases e
  | adr a => cases e
  | dpr h n q r r2 => cases e
  | ty x => cases e
  | tux _ _ _ _ => cases e
  | loc hn =>
    simp only [truD] at e
    split at e
    · rename_i xs q
      cases e
      obtain ⟨ys, h1, h2⟩ := sim.obj _ _ _ hn q
      exact .inl ⟨ys, .inl (.inl h1), (isEmpty_rep h2).symm⟩
    · cases e
theorem tTest_of {K : PySem.W.Frag} {mg : Str → Option Value} : ∀ g H Q, tDT K mg Wx (mT ma) g H Q → tTest (tD K mg Wx ma) g H Q := by
  intro g H Q h
  obtain ⟨T, r, S, rs, sim, h⟩ := h
  refine ⟨T, r, S, rs, sim, Out.bind h fun x S1 T1 H1 v st sim1 rel h1 => ?_⟩
  refine Out.use h1 fun k e q => ?_
  cases x <;> cases e
  rw [rel.bl_of]
  exact ⟨_, rfl, q T1 H1 _ (Step.refl T1 H1) sim1 rfl⟩
theorem jt_cmp {op : CmpOp} {r : R2} {f : D → D → Store → Option D} (ho : OpR X (compareOp op) r) (hf : POk2 X.K X.mg r f) (hm : behindInMarks op b = false) (ha : PE X a (tD X.K X.mg Wx ma)) (hb : PE X b (tD X.K X.mg Wx mb)) : PT X (.Compare a [op] [b] pos) (tDT X.K X.mg Wx (mT (mBin f ma mb))) :=
  pt_imp (pt_cmpR ho ha hb hm) fun g H Q h => by
    obtain ⟨T, r, S, rs, sim, h⟩ := tTest_of g H Q h
    exact tOp_of hf g H _ ⟨T, r, S, rs, sim, h⟩
theorem jt_tru (ha : PE X a (tD X.K X.mg Wx ma)) (he : ∀ whole, isTrue a X.env whole = (do let v ← whole; standAt a.pos; holding [v] (truthy v)) := by intro _; rfl) : PT X a (tDT X.K X.mg Wx (mTru ma)) :=
  pt_imp (pt_truth ha he) fun g H Q h => by
    obtain ⟨T, r, S, rs, sim, h⟩ := h
    refine ⟨T, r, S, rs, sim, Out.bind h fun x S1 T1 H1 v st sim1 rel h1 => ?_⟩
    exact Out.use h1 fun k e q => ⟨k, truD_ok sim1 rel e, q T1 H1 k (Step.refl T1 H1) sim1 rfl⟩
theorem jt_not (ha : PT X a (tDT X.K X.mg Wx ta)) : PT X (.UnaryOp .Not a pos) (tDT X.K X.mg Wx (mNotT ta)) :=
  pt_imp (pt_not ha) fun g H Q h => by
    obtain ⟨T, r, S, rs, sim, h⟩ := h
    refine ⟨T, r, S, rs, sim, Out.bind h fun x S1 T1 H1 v st sim1 rel h1 => ?_⟩
    subst rel
    exact h1 T1 H1 _ (Step.refl T1 H1) sim1 rfl
theorem jw_and1 (ha : PT X a (tDT X.K X.mg Wx ta)) : PW X (.BoolOp .And [a] pos) (tDT X.K X.mg Wx ta) := pw_and1 ha
theorem jw_or1 (ha : PT X a (tDT X.K X.mg Wx ta)) : PW X (.BoolOp .Or [a] pos) (tDT X.K X.mg Wx ta) := pw_or1 ha
theorem jw_and (ha : PT X a (tDT X.K X.mg Wx ta)) (hb : PW X (.BoolOp .And (b :: rest) pos) (tDT X.K X.mg Wx tb)) : PW X (.BoolOp .And (a :: b :: rest) pos) (tDT X.K X.mg Wx (mAndT ta tb)) :=
  pw_imp (pw_and ha hb) fun g H Q h => by
    obtain ⟨T, r, S, rs, sim, h⟩ := h
    refine ⟨T, r, S, rs, sim, Out.bind h fun x S1 T1 H1 v st sim1 rel h1 => ?_⟩
    subst rel
    cases v with
    | true => exact ⟨T1, r, S1, rs.step st, sim1, h1⟩
    | false => exact h1 T1 H1 _ (Step.refl T1 H1) sim1 rfl
theorem jw_or (ha : PT X a (tDT X.K X.mg Wx ta)) (hb : PW X (.BoolOp .Or (b :: rest) pos) (tDT X.K X.mg Wx tb)) : PW X (.BoolOp .Or (a :: b :: rest) pos) (tDT X.K X.mg Wx (mOrT ta tb)) :=
  pw_imp (pw_or ha hb) fun g H Q h => by
    obtain ⟨T, r, S, rs, sim, h⟩ := h
    refine ⟨T, r, S, rs, sim, Out.bind h fun x S1 T1 H1 v st sim1 rel h1 => ?_⟩
    subst rel
    cases v with
    | true => exact h1 T1 H1 _ (Step.refl T1 H1) sim1 rfl
    | false => exact ⟨T1, r, S1, rs.step st, sim1, h1⟩
theorem jw_pt {e : Expr} (h : PW X e (tDT X.K X.mg Wx ta)) : PT X e (tDT X.K X.mg Wx ta) := PW.pt h
theorem j_one {op} (h : PE X a (tD X.K X.mg Wx ma)) : PE X (.BoolOp op [a] pos) (tD X.K X.mg Wx ma) := pe_one h
theorem j_and (ha : PE X a (tD X.K X.mg Wx ma)) (hb : PE X (.BoolOp .And (b :: rest) pos) (tD X.K X.mg Wx mb)) : PE X (.BoolOp .And (a :: b :: rest) pos) (tD X.K X.mg Wx (mAnd ma mb)) :=
  pe_imp (pe_and ha hb) fun g H Q h => by
    obtain ⟨T, r, S, rs, sim, h⟩ := h
    refine ⟨T, r, S, rs, sim, Out.bind h fun x S1 T1 H1 v st sim1 rel h1 => ?_⟩
    cases x with
    | bl k =>
      rw [rel.bl_of]
      refine ⟨k, rfl, ?_⟩
      cases k with
      | true => exact ⟨T1, r, S1, rs.step st, sim1, h1⟩
      | false => exact h1 T1 H1 _ (Step.refl T1 H1) sim1 (.bl false)
    | _ => exact h1.elim
theorem j_not (ha : PE X a (tD X.K X.mg Wx ma)) : PE X (.UnaryOp .Not a pos) (tD X.K X.mg Wx (mNot ma)) :=
  pe_imp (pe_not ha) fun g H Q h => by
    obtain ⟨T, r, S, rs, sim, h⟩ := h
    refine ⟨T, r, S, rs, sim, Out.bind h fun x S1 T1 H1 v st sim1 rel h1 => ?_⟩
    cases x with
    | bl k =>
      rw [rel.bl_of]
      exact ⟨k, rfl, h1 T1 H1 _ (Step.refl T1 H1) sim1 (.bl (!k))⟩
    | _ => exact h1.elim
theorem j_if (hc : PT X c (tDT X.K X.mg Wx ta)) (ha : PE X a (tD X.K X.mg Wx ma)) (hb : PE X b (tD X.K X.mg Wx mb)) : PE X (.IfExp c a b pos) (tD X.K X.mg Wx (mIf ta ma mb)) :=
  pe_imp (pe_ifExp hc ha hb) fun g H Q h => by
    obtain ⟨T, r, S, rs, sim, h⟩ := h
    refine ⟨T, r, S, rs, sim, Out.bind h fun x S1 T1 H1 v st sim1 rel h1 => ?_⟩
    subst rel
    cases v with
    | true => exact ⟨T1, r, S1, rs.step st, sim1, h1⟩
    | false => exact ⟨T1, r, S1, rs.step st, sim1, h1⟩
theorem tChain_of {K : PySem.W.Frag} {mg : Str → Option Value} {r r' : R2} {f f' : D → D → Store → Option D} (hf : POk2 K mg r f) (hf' : POk2 K mg r' f') : ∀ g H Q, tD K mg Wx (mChain f f' ma mb mc) g H Q → tChain r r' (tD K mg Wx ma) (tD K mg Wx mb) (tD K mg Wx mc) g H Q := by
  intro g H Q h
  obtain ⟨T, en, S, rs, sim, h⟩ := h
  refine ⟨T, en, S, rs, sim, Out.bind h fun x S1 T1 H1 v st sim1 rel h1 => ?_⟩
  refine ⟨T1, en, S1, rs.step st, sim1, Out.bind h1 fun y S2 T2 H2 w st2 sim2 rel2 h2 => ?_⟩
  have h3 := Out.bind (relA := Rep K) (Q1 := fun z H3 => ∃ k, z = V.bl k ∧ (if k = true then tD K mg Wx mc g H3 fun w' H4 => r' w w' H4 Q else Q (.bl false) H3)) h2 fun d S3 T3 H3 z st3 sim3 rel3 h3 => by
    cases d with
    | bl k =>
      rw [rel3.bl_of]
      refine ⟨k, rfl, ?_⟩
      cases k with
      | false => exact h3 T3 H3 _ (Step.refl T3 H3) sim3 (.bl false)
      | true =>
        refine ⟨T3, en, S3, (rs.step st).step (st2.trans st3), sim3, Out.bind h3 fun u S4 T4 H4 w4 st4 sim4 rel4 h4 => ?_⟩
        exact Out.use h4 fun d' e' k' => hf' T4 S4 H4 w w4 y u d' Q sim4 (rel2.step (st3.trans st4)) rel4 e' fun H' v' s' => k' T4 H' v' s'
    | _ => exact h3.elim
  exact Out.use h3 fun d e k => hf T2 S2 H2 v w x y d _ sim2 (rel.step st2) rel2 e fun H' v' s' => k T2 H' v' s'
theorem j_chain {op op' : CmpOp} {r r' : R2} {f f' : D → D → Store → Option D} (ho : OpR X (compareOp op) r) (hf : POk2 X.K X.mg r f) (ho' : OpR X (compareOp op') r') (hf' : POk2 X.K X.mg r' f') (ha : PE X a (tD X.K X.mg Wx ma)) (hb : PE X b (tD X.K X.mg Wx mb)) (hc : PE X c (tD X.K X.mg Wx mc)) (hm : lastMarks [op, op'] [b, c] = false := by with_unfolding_all rfl) :
    PE X (.Compare a [op, op'] [b, c] pos) (tD X.K X.mg Wx (mChain f f' ma mb mc)) :=
  pe_imp (pe_chain ho ho' ha hb hc hm) (tChain_of hf hf')
theorem jt_chain {op op' : CmpOp} {r r' : R2} {f f' : D → D → Store → Option D} (ho : OpR X (compareOp op) r) (hf : POk2 X.K X.mg r f) (ho' : OpR X (compareOp op') r') (hf' : POk2 X.K X.mg r' f') (ha : PE X a (tD X.K X.mg Wx ma)) (hb : PE X b (tD X.K X.mg Wx mb)) (hc : PE X c (tD X.K X.mg Wx mc)) (hm : lastMarks [op, op'] [b, c] = false := by with_unfolding_all rfl) :
    PT X (.Compare a [op, op'] [b, c] pos) (tDT X.K X.mg Wx (mT (mChain f f' ma mb mc))) :=
  pt_imp (pt_chain ho ho' ha hb hc hm) fun g H Q h => by
    obtain ⟨T, r, S, rs, sim, h⟩ := tTest_of g H Q h
    exact tChain_of hf hf' g H _ ⟨T, r, S, rs, sim, h⟩
end
end Dv
namespace Dv
open PySem L2
def bindS {α : Type} (x : R α) (r : Env) (f : α → Store → Z) : Z := match x with
  | .ok a S => f a S
  | .exc n S => .exc n r S
  | .bad => .bad
section
variable {K : PySem.W.Frag} {mg : Str → Option Value} {Wx : WX} {T T1 : Tb} {H H1 : Hp} {E : Ends} {α β : Type} {rel : Tb → Hp → β → α → Prop} {r : Env} {g : St}
theorem ZOut.step {z : Z} (st : Step T H T1 H1) (h : ZOut K mg Wx T H z E) : ZOut K mg Wx T1 H1 z E := by
  cases z with
  | bad => exact h
  | exc n r' S' => exact fun T' H' g' s => h T' H' g' (st.trans s)
  | ok f r' S' =>
    cases f with
    | next => exact fun T' H' g' s => h T' H' g' (st.trans s)
    | ret d => exact fun T' H' g' s => h T' H' g' (st.trans s)
    | brk => exact fun T' H' g' s => h T' H' g' (st.trans s)
    | cont => exact fun T' H' g' s => h T' H' g' (st.trans s)
theorem ZOut.bind {x : R α} {f : α → Store → Z} {Q : β → Hp → Prop} (h : ZOut K mg Wx T H (bindS x r f) E) (rs : RepSt K T H r g)
    (k : ∀ a S T1 H1 v, Step T H T1 H1 → Sim K mg T1 S H1 → rel T1 H1 v a → RepSt K T1 H1 r g → ZOut K mg Wx T1 H1 (f a S) E → Q v H1) : Out K mg Wx rel T g H x Q := by
  cases x with
  | bad => exact h
  | exc n S => exact fun T1 H1 st sim => h T1 H1 g st sim (rs.step st)
  | ok a S => exact fun T1 H1 v st sim rl => k a S T1 H1 v st sim rl (rs.step st) (ZOut.step st h)
theorem ZOut.nx {r : Env} {S : Store} {g : St} (h : ZOut K mg Wx T H (.ok .next r S) E) (sim : Sim K mg T S H) (rs : RepSt K T H r g) : E.nx g H := h T H g (Step.refl T H) sim rs
end
def sNil : SM := fun r S => .ok .next r S
def sSeq (a b : SM) : SM := fun r S => match a r S with
  | .ok .next r1 S1 => b r1 S1
  | z => z
def sSet (i : Nat) (m : EM) : SM := fun r S => bindS (m r S) r fun d S1 => .ok .next (r.set i (some d)) S1
def sDrop (m : EM) : SM := fun r S => bindS (m r S) r fun _ S1 => .ok .next r S1
def sRet (m : EM) : SM := fun r S => bindS (m r S) r fun d S1 => .ok (.ret d) r S1
def sIf (c : BM) (a b : SM) : SM := fun r S => bindS (c r S) r fun k S1 => if k = true then a r S1 else b r S1
def sAug (i : Nat) (f : Int → Int → Int) (m : EM) : SM := fun r S => match r[i]? with
  | some (some (.int a)) => bindS (m r S) r fun d S1 => match d with
    | .int b => .ok .next (r.set i (some (.int (f a b)))) S1
    | _ => .bad
  | _ => .bad
def sPar (i j : Nat) (ms : AM) : SM := fun r S => bindS (ms r S) r fun ds S1 => match ds with
  | [a, b] => .ok .next ((r.set i (some a)).set j (some b)) S1
  | _ => .bad
section
variable {X : Cx} {Wx : WX} {st : Stmt} {rest : List Stmt} {pos pos' : Pos} {e : Expr} {m : EM} {sa sb : SM} {c : BM}
theorem js_nil : PSs X [] (tDS X.K X.mg Wx sNil) := pss_imp pss_nil fun E g H h => by
  obtain ⟨T, r, S, rs, sim, h⟩ := h
  exact h.nx sim rs
theorem js_cons (h1 : PS X st (tDS X.K X.mg Wx sa)) (h2 : PSs X rest (tDS X.K X.mg Wx sb)) : PSs X (st :: rest) (tDS X.K X.mg Wx (sSeq sa sb)) := pss_imp (pss_cons h1 h2) fun E g H h => by
  obtain ⟨T, r, S, rs, sim, h⟩ := h
  refine ⟨T, r, S, rs, sim, ?_⟩
  unfold sSeq at h
  revert h
  cases sa r S with
  | bad => exact fun h => h
  | exc n r' S' => exact fun h => h
  | ok f r' S' =>
    cases f with
    | next => exact fun h T' H' g' s sim' rs' => ⟨T', r', S', rs', sim', ZOut.step s h⟩
    | ret d => exact fun h => h
    | brk => exact fun h => h
    | cont => exact fun h => h
theorem js_one (h1 : PS X st (tDS X.K X.mg Wx sa)) : PSs X [st] (tDS X.K X.mg Wx sa) := pss_one h1
theorem js_set {i : Nat} {x : Str} (hN : X.N.Nodup) (hi : X.N[i]? = some x) (hx : Loc X.env.scope x) (he : PE X e (tD X.K X.mg Wx m)) (hs : swapsWith e (some (.Name x pos')) pos.line X.env = pure false := by rfl)
    (hf : X.fn x = true ∨ X.env.scope.names.lookup x = some .local := by first | exact .inl rfl | exact .inr rfl | assumption) : PS X (.Assign [.Name x pos'] e pos) (tDS X.K X.mg Wx (sSet i m)) :=
  ps_imp (ps_set hN hi hx he hs hf) fun E g H h => by
    obtain ⟨T, r, S, rs, sim, h⟩ := h
    refine ⟨T, r, S, rs, sim, ZOut.bind h rs fun d S1 T1 H1 v st sim1 rel rs1 h1 => ?_⟩
    exact h1.nx sim1 (rs1.set rel)
theorem js_drop (he : PE X e (tD X.K X.mg Wx m)) (hs : swapsWith e none pos.line X.env = pure false := by rfl) : PS X (.Expr e pos) (tDS X.K X.mg Wx (sDrop m)) :=
  ps_imp (ps_expr he hs) fun E g H h => by
    obtain ⟨T, r, S, rs, sim, h⟩ := h
    refine ⟨T, r, S, rs, sim, ZOut.bind h rs fun d S1 T1 H1 v st sim1 rel rs1 h1 => ?_⟩
    exact h1.nx sim1 rs1
theorem js_ret (he : PE X e (tD X.K X.mg Wx m)) : PS X (.Return (some e) pos) (tDS X.K X.mg Wx (sRet m)) :=
  ps_imp (ps_ret he) fun E g H h => by
    obtain ⟨T, r, S, rs, sim, h⟩ := h
    refine ⟨T, r, S, rs, sim, ZOut.bind h rs fun d S1 T1 H1 v st sim1 rel rs1 h1 => ?_⟩
    exact h1 T1 H1 v (Step.refl T1 H1) sim1 rel
theorem js_if {t : Expr} {a b : List Stmt} (hc : PT X t (tDT X.K X.mg Wx c)) (ha : PSs X a (tDS X.K X.mg Wx sa)) (hb : PSs X b (tDS X.K X.mg Wx sb)) : PS X (.If t a b pos) (tDS X.K X.mg Wx (sIf c sa sb)) :=
  ps_imp (ps_if hc ha hb) fun E g H h => by
    obtain ⟨T, r, S, rs, sim, h⟩ := h
    refine ⟨T, r, S, rs, sim, ZOut.bind h rs fun d S1 T1 H1 v st sim1 rel rs1 h1 => ?_⟩
    subst rel
    cases v with
    | true => exact ⟨T1, r, S1, rs1, sim1, h1⟩
    | false => exact ⟨T1, r, S1, rs1, sim1, h1⟩
theorem js_par {i j : Nat} {x y : Str} {a b : Expr} {ms : AM} {px py pt : Pos} {kt k2 pt2} (hc : X.calm = true) (hN : X.N.Nodup) (hi : X.N[i]? = some x) (hj : X.N[j]? = some y) (hij : i ≠ j)
    (hx : X.env.scope.names.lookup x = some .local) (hy : X.env.scope.names.lookup y = some .local) (ha : PA X [a, b] (tDA X.K X.mg Wx ms))
    (hw : swappedStores [.Tuple [.Name x px, .Name y py] kt pt] (.Tuple [a, b] k2 pt2) X.env = pure (some [x, y]))
    (hs : swapsWithSole [.Tuple [.Name x px, .Name y py] kt pt] (.Tuple [a, b] k2 pt2) pos.line X.env = pure false := by rfl) :
    PS X (.Assign [.Tuple [.Name x px, .Name y py] kt pt] (.Tuple [a, b] k2 pt2) pos) (tDS X.K X.mg Wx (sPar i j ms)) :=
  ps_imp (ps_par hc hN hi hj hij hx hy ha hw hs) fun E g H h => by
    obtain ⟨T, r, S, rs, sim, h⟩ := h
    refine ⟨T, r, S, rs, sim, ZOut.bind h rs fun d S1 T1 H1 v st sim1 rel rs1 h1 => ?_⟩
    cases rel with
    | nil => exact h1.elim
    | cons q1 rel =>
      cases rel with
      | nil => exact h1.elim
      | cons q2 rel =>
        cases rel with
        | nil => exact ⟨_, _, rfl, h1.nx sim1 ((rs1.set q1).set q2)⟩
        | cons _ _ => exact h1.elim
end
def gD (K : PySem.W.Frag) (mg : Str → Option Value) (sl : List Nat) (gm : D → Env → Option Env) : TG := fun v g H Q => ∃ T r S d r', RepSt K T H r g ∧ Sim K mg T S H ∧ Rep K T H v d ∧ gm d r = some r' ∧
  ∀ g', RepSt K T H r' g' → g'.length = g.length → (∀ j, j ∉ sl → g'[j]? = g[j]?) → Q g' H
def gDs (K : PySem.W.Frag) (mg : Str → Option Value) (sl : List Nat) (gm : List D → Env → Option Env) : TGs := fun vs g H Q => ∃ T r S ds r', RepSt K T H r g ∧ Sim K mg T S H ∧ RepL K T H vs ds ∧ gm ds r = some r' ∧
  ∀ g', RepSt K T H r' g' → g'.length = g.length → (∀ j, j ∉ sl → g'[j]? = g[j]?) → Q g' H
def tgN (i : Nat) : D → Env → Option Env := fun d r => some (r.set i (some d))
def tgsNil : List D → Env → Option Env := fun ds r => match ds with
  | [] => some r
  | _ => none
def tgsCons (a : D → Env → Option Env) (b : List D → Env → Option Env) : List D → Env → Option Env := fun ds r => match ds with
  | d :: ds => (a d r).bind fun r1 => b ds r1
  | [] => none
def tgT (n : Nat) (b : List D → Env → Option Env) : D → Env → Option Env := fun d r => match d with
  | .tup ds => if ds.length = n then b ds r else none
  | _ => none
section
variable {X : Cx} {pos : Pos}
theorem pg_imp {tg : Expr} {t t' : TG} (h : PG X tg t) (i : ∀ v g H Q, t' v g H Q → t v g H Q) : PG X tg t' := ⟨fun pins s g H v u Q I r w => h.run pins s g H v u Q I r (i v g H Q w)⟩
theorem pgs_imp {tg : List Expr} {t t' : TGs} (h : PGs X tg t) (i : ∀ v g H Q, t' v g H Q → t v g H Q) : PGs X tg t' := ⟨fun pins s g H v u Q I r w => h.run pins s g H v u Q I r (i v g H Q w)⟩
theorem jg_name {i : Nat} {x : Str} (hN : X.N.Nodup) (hi : X.N[i]? = some x) (hx : Loc X.env.scope x) (hf : X.fn x = true ∨ X.env.scope.names.lookup x = some .local := by first | exact .inl rfl | exact .inr rfl | assumption) : PG X (.Name x pos) (gD X.K X.mg [i] (tgN i)) :=
  pg_imp (pg_name hN hi hx hf) fun v g H Q h => by
    obtain ⟨T, r, S, d, r', rs, sim, rep, e, k⟩ := h
    cases e
    exact k _ (rs.set rep) List.length_set fun j hj => List.getElem?_set_ne fun q => hj (by rw [q]; exact List.mem_singleton.mpr rfl)
theorem jgn (i : Nat) {x : Str} (hN : X.N.Nodup) (hi : X.N[i]? = some x := by rfl) (hx : Loc X.env.scope x := by first | exact Or.inl rfl | exact Or.inr rfl) (hf : X.fn x = true ∨ X.env.scope.names.lookup x = some .local := by first | exact .inl rfl | exact .inr rfl | assumption) : PG X (.Name x pos) (gD X.K X.mg [i] (tgN i)) := jg_name hN hi hx hf
theorem jgs_nil : PGs X [] (gDs X.K X.mg [] tgsNil) := pgs_imp pgs_nil fun v g H Q h => by
  obtain ⟨T, r, S, d, r', rs, sim, rep, e, k⟩ := h
  cases rep with
  | nil =>
    cases e
    exact ⟨rfl, k g rs rfl fun _ _ => rfl⟩
  | cons _ _ => cases e
theorem jgs_cons {e : Expr} {es : List Expr} {sl sl2 : List Nat} {a : D → Env → Option Env} {b : List D → Env → Option Env} (h1 : PG X e (gD X.K X.mg sl a)) (h2 : PGs X es (gDs X.K X.mg sl2 b))
    (hs : (assignEach (e :: es) X.env).map (·.2) = assign e X.env :: (assignEach es X.env).map (·.2) := by rfl) : PGs X (e :: es) (gDs X.K X.mg (sl ++ sl2) (tgsCons a b)) := pgs_imp (pgs_cons h1 h2 hs) fun v g H Q h => by
  obtain ⟨T, r, S, ds, r', rs, sim, rep, e, k⟩ := h
  cases rep with
  | nil => cases e
  | @cons x vs d ds q1 q2 =>
    have e : (a d r).bind (fun r1 => b ds r1) = some r' := e
    cases q : a d r with
    | none => rw [q] at e; cases e
    | some r1 =>
      rw [q] at e
      refine ⟨x, vs, rfl, T, r, S, d, r1, rs, sim, q1, q, fun g1 rs1 l1 k1 => ?_⟩
      refine ⟨T, r1, S, ds, r', rs1, sim, q2, e, fun g2 rs2 l2 k2 => k g2 rs2 (l2.trans l1) fun j hj => ?_⟩
      rw [List.mem_append, not_or] at hj
      exact (k2 j hj.2).trans (k1 j hj.1)
theorem jg_tup {es : List Expr} {k n : Nat} {sl : List Nat} {b : List D → Env → Option Env} (hc : X.calm = true) (h : PGs X es (gDs X.K X.mg sl b))
    (hn : (assignEach es X.env).length = n := by rfl) (hst : (assignEach es X.env).findIdx? (·.1) = none := by rfl) : PG X (.Tuple es k pos) (gD X.K X.mg sl (tgT n b)) := pg_imp (pg_tup hc h hn hst) fun v g H Q h => by
  obtain ⟨T, r, S, d, r', rs, sim, rep, e, k⟩ := h
  cases rep with
  | tup h1 h2 h3 =>
    simp only [tgT] at e
    split at e
    · rename_i hl
      exact ⟨_, _, rfl, SqT.of h1, by rw [h3.length]; exact hl, T, r, S, _, r', rs, sim, h3, e, k⟩
    · cases e
  | _ => cases e
end
def sAsg (m : EM) (gm : D → Env → Option Env) : SM := fun r S => bindS (m r S) r fun d S1 => match gm d r with
  | some r1 => .ok .next r1 S1
  | none => .bad
section
variable {X : Cx} {Wx : WX} {pos : Pos} {tg e : Expr} {m : EM} {sl : List Nat} {gm : D → Env → Option Env}
theorem js_asg (he : PE X e (tD X.K X.mg Wx m)) (hg : PG X tg (gD X.K X.mg sl gm)) (hs : swapsWithSole [tg] e pos.line X.env = pure false := by rfl) (hw : swappedStores [tg] e X.env = pure none := by rfl)
    (h1 : (assignEach [tg] X.env).map (·.2) = [assign tg X.env] := by rfl) : PS X (.Assign [tg] e pos) (tDS X.K X.mg Wx (sAsg m gm)) :=
  ps_imp (ps_asg he hg hs hw h1) fun E g H h => by
    obtain ⟨T, r, S, rs, sim, h⟩ := h
    refine ⟨T, r, S, rs, sim, ZOut.bind h rs fun d S1 T1 H1 v st sim1 rel rs1 h1 => ?_⟩
    split at h1
    · rename_i r1 q
      exact ⟨T1, r, S1, d, r1, rs1, sim1, rel, q, fun g' rs' _ _ => h1.nx sim1 rs'⟩
    · exact h1.elim
end
def sWhile (c : BM) (b : SM) : Nat → SM
  | 0 => fun _ _ => .bad
  | n + 1 => fun r S => bindS (c r S) r fun k S1 => if k = true then (match b r S1 with
      | .ok .next r2 S2 => sWhile c b n r2 S2
      | .ok .cont r2 S2 => sWhile c b n r2 S2
      | .ok .brk r2 S2 => .ok .next r2 S2
      | .ok (.ret d) r2 S2 => .ok (.ret d) r2 S2
      | .exc x r2 S2 => .exc x r2 S2
      | .bad => .bad) else .ok .next r S1
section
variable {X : Cx} {Wx : WX} {pos : Pos} {c : BM} {sb : SM}
end
def Walks (K : PySem.W.Frag) (mg : Str → Option Value) (T : Tb) (H : Hp) (J : It) (ds : List D) : Prop := ∀ T' S' H', Kf T H T' H' → Sim K mg T' S' H' → J.stop ds.length H' ∧
  ∀ (i : Nat) (d : D), ds[i]? = some d → J.go i H' ∧ ∀ x H2, J.yld i H' x H2 → Step T' H' T' H2 ∧ Sim K mg T' S' H2 ∧ Rep K T' H2 x d
abbrev IM := Env → Store → R (List D)
def iD (K : PySem.W.Frag) (mg : Str → Option Value) (Wx : WX) (mi : IM) : TI := fun g H Q => ∃ T r S, RepSt K T H r g ∧ Sim K mg T S H ∧
  Out K mg Wx (fun T' H' (J : It) ds => Walks K mg T' H' J ds ∧ ds.length ≤ sizeLine) T g H (mi r S) Q
theorem Kp.trans {T T1 T2 : Tb} {H H1 H2 : Hp} (a : Kp T H T1 H1) (b : Kp T1 H1 T2 H2) : Kp T H T2 H2 := ⟨fun c u k n h => b.sq c u k (a.sq c u k n h).2 (a.sq c u k n h).1, fun c u n h => b.dk c u (a.dk c u n h).2 (a.dk c u n h).1, fun n c h => b.get n c (a.get n c h)⟩
theorem Kf.trans {T T1 T2 : Tb} {H H1 H2 : Hp} (a : Kf T H T1 H1) (b : Kf T1 H1 T2 H2) : Kf T H T2 H2 := ⟨a.toKp.trans b.toKp, fun c o u n h => b.frz c o u (a.frz c o u n h).2 (a.frz c o u n h).1⟩
theorem Walks.kp {K : PySem.W.Frag} {mg : Str → Option Value} {T T1 : Tb} {H H1 : Hp} {J : It} {ds : List D} (st : Kf T H T1 H1) (h : Walks K mg T H J ds) : Walks K mg T1 H1 J ds := fun T' S' H' s sim => h T' S' H' (st.trans s) sim
def sLoop (gm : D → Env → Option Env) (b : SM) : List D → SM
  | [] => fun r S => .ok .next r S
  | d :: ds => fun r S => match gm d r with
    | none => .bad
    | some r1 => match b r1 S with
      | .ok .next r2 S2 => sLoop gm b ds r2 S2
      | .ok .cont r2 S2 => sLoop gm b ds r2 S2
      | .ok .brk r2 S2 => .ok .next r2 S2
      | .ok (.ret d) r2 S2 => .ok (.ret d) r2 S2
      | .exc x r2 S2 => .exc x r2 S2
      | .bad => .bad
def sFor (mi : IM) (gm : D → Env → Option Env) (b : SM) : SM := fun r S => bindS (mi r S) r fun ds S1 => sLoop gm b ds r S1
section
variable {X : Cx} {Wx : WX} {pos : Pos} {tg iter : Expr} {mi : IM} {sl : List Nat} {gm : D → Env → Option Env} {sb : SM}
theorem js_for {body : List Stmt} (hp : PassesOwn (model X.prog X.w) X.A X.env X.xe) (hc : X.calm = true) (hi : PI X tg iter (iD X.K X.mg Wx mi)) (hg : PG X tg (gD X.K X.mg sl gm)) (hb : PSs X body (tDS X.K X.mg Wx sb))
    (hs : ∀ x, foldedSetIterable iter X.env x = pure x := by intro _; rfl) : PS X (.For tg iter body [] pos) (tDS X.K X.mg Wx (sFor mi gm sb)) :=
  ps_imp (ps_for hp hc hi hg hb hs) fun E g H h => by
    obtain ⟨T, r, S, rs, sim, h⟩ := h
    refine ⟨T, r, S, rs, sim, ZOut.bind h rs fun ds S1 T1 H1 J st sim1 rel rs1 h1 => ?_⟩
    obtain ⟨wk, hz⟩ := rel
    refine ⟨fun i m g H => ∃ T r S, m = ds.length - i ∧ i ≤ ds.length ∧ Step T1 H1 T H ∧ RepSt X.K T H r g ∧ Sim X.K X.mg T S H ∧ ZOut X.K X.mg Wx T H (sLoop gm sb (ds.drop i) r S) E, ⟨ds.length, T1, r, S1, by simp, Nat.zero_le _, Step.refl T1 H1, rs1, sim1, h1⟩, ?_⟩
    rintro i m g2 H2 ⟨T2, r2, S2, rfl, hi2, st2, rs2, sim2, h2⟩
    obtain ⟨stop, go⟩ := wk T2 S2 H2 st2.kf sim2
    by_cases hlt : i < ds.length
    · have ed : ds.drop i = ds[i] :: ds.drop (i + 1) := List.drop_eq_getElem_cons hlt
      rw [ed] at h2
      obtain ⟨g1, yl⟩ := go i ds[i] (List.getElem?_eq_getElem hlt)
      refine .inr ⟨g1, fun g H => ∃ T r S, Step T1 H1 T H ∧ RepSt X.K T H r g ∧ Sim X.K X.mg T S H ∧ ZOut X.K X.mg Wx T H (sLoop gm sb (ds.drop (i + 1)) r S) E, fun g3 H3 q => ?_, fun x H3 y => ?_⟩
      · obtain ⟨T3, r3, S3, q1, q2, q3, q4⟩ := q
        exact ⟨ds.length - (i + 1), by omega, T3, r3, S3, rfl, hlt, q1, q2, q3, q4⟩
      · obtain ⟨st3, sim3, rep3⟩ := yl x H3 y
        have h3 := ZOut.step st3 h2
        simp only [sLoop] at h3
        split at h3
        · exact h3.elim
        · rename_i r3 eg
          refine ⟨T2, r2, S2, ds[i], r3, rs2.step st3, sim3, rep3, eg, fun g4 rs4 _ _ => ⟨T2, r3, S2, rs4, sim3, ?_⟩⟩
          revert h3
          cases sb r3 S2 with
          | bad => exact fun h => h
          | exc n r' S' => exact fun h => h
          | ok f r' S' =>
            cases f with
            | next => exact fun h T' H' g' s sim' rs' => ⟨T', r', S', (st2.trans st3).trans s, rs', sim', ZOut.step s h⟩
            | cont => exact fun h T' H' g' s sim' rs' => ⟨T', r', S', (st2.trans st3).trans s, rs', sim', ZOut.step s h⟩
            | ret d => exact fun h => h
            | brk => exact fun h => h
    · have e : i = ds.length := by omega
      subst e
      rw [List.drop_length] at h2
      exact .inl ⟨stop, h2.nx sim2 rs2⟩
end
end Dv
namespace Dv
open PySem L2
def chD (c : Nat) : D := .str ⟨#[c]⟩
def seqD (d : D) : Option (List D) := match d with
  | .lst xs => some xs
  | .tup xs => some xs
  | .scr ns => some (ns.map D.int)
  | .str x => if x.cps.size ≤ 100000 then some (x.cps.toList.map chD) else none
  | _ => none
def mIter (m : EM) : IM := fun r S => (m r S).bind fun d S1 => ofO (seqD d) S1
def rng (lo : Int) (n : Nat) : List D := (List.range n).map fun i => D.int (lo + (i : Nat))
def rng1 (ds : List D) : Option (List D) := match ds with
  | [.int j] => if -100000 ≤ j ∧ j ≤ 100000 then some (rng 0 j.toNat) else none
  | _ => none
def mRng1 (ms : AM) : IM := fun r S => (ms r S).bind fun ds S1 => ofO (rng1 ds) S1
def iSq (K : PySem.W.Frag) (tl : TE) : TI := fun g H Q => tl g H fun x H1 => (∃ a xs, x = .ref a ∧ SqL K H1 a xs ∧ Q (Itl K a) H1) ∨ (∃ a xs, x = .ref a ∧ SqT K H1 a xs ∧ Q (Itt K a) H1) ∨ ∃ z, x = .str z ∧ Q (Its z) H1
theorem pi_sq {X : Cx} {tg l : Expr} {tl : TE} (hl : PE X l tl) : PI X tg l (iSq X.K tl) := by
  refine ⟨fun pins s g H Q I h => thn (hl.run pins s g H _ I h) fun v s1 hv => ?_⟩
  obtain ⟨x, H1, I1, r1, q1⟩ := hv
  rcases q1 with ⟨a, xs, ex, hq, q⟩ | ⟨a, xs, ex, hq, q⟩ | ⟨z, ex, q⟩
  · subst ex
    cases r1
    obtain ⟨its, rv, pl, _⟩ := I1.list hq
    exact wpAny_pyIter_list pl.isList (pi_one (tk := s1.toks) I1 _ (turn_list a _) ⟨_, Heap.get?_push_size _ rfl, rfl, rfl⟩ q)
  · subst ex
    cases r1
    obtain ⟨its, rv, pl, _⟩ := I1.tuple hq
    exact wpAny_pyIter_tuple (show s1.heap.IsTuple a its.toArray from pl) (pi_one (tk := s1.toks) I1 _ (turn_tuple a _) ⟨_, Heap.get?_push_size _ rfl, rfl, rfl⟩ q)
  · subst ex
    obtain ⟨t, rfl⟩ := r1
    by_cases ha : z.cps.all (· < 128) = true
    · exact wpAny_pyIter_ascii ha (pi_one (tk := s1.toks) I1 _ (turn_str _ z t "str_ascii_iterator" (.inl rfl)) ⟨_, Heap.get?_push_size _ rfl, rfl, rfl⟩ q)
    · exact wpAny_pyIter_wide (by simpa using ha) (pi_one (tk := s1.toks) I1 _ (turn_str _ z t "str_iterator" (.inr rfl)) ⟨_, Heap.get?_push_size _ rfl, rfl, rfl⟩ q)
section
variable {K : PySem.W.Frag} {mg : Str → Option Value} {T : Tb} {H : Hp}
theorem walks_lst {a : Addr} {xs : List V} {ds : List D} (h : LAt K T H a xs) (r : RepL K T H xs ds) : Walks K mg T H (Itl K a) ds := fun T' S' H' kf sim => by
  have k := kf.toKp
  have hq : SqL K H' a xs := (h.kp k).sq
  refine ⟨⟨xs, hq, by rw [r.length]; exact Nat.le_refl _⟩, fun i d e => ?_⟩
  obtain ⟨v, h1, h2⟩ := r.get e
  refine ⟨⟨xs, v, hq, h1⟩, fun x H2 y => ?_⟩
  obtain ⟨rfl, y⟩ := y
  have e2 := (y xs hq).symm.trans h1
  cases e2
  exact ⟨Step.refl _ _, sim, h2.kp k⟩
theorem walks_tup {a : Addr} {xs : List V} {ds : List D} (h : H a = some (.tup xs)) (n : T.off a) (r : RepL K T H xs ds) : Walks K mg T H (Itt K a) ds := fun T' S' H' kf sim => by
  have k := kf.toKp
  have hq : SqT K H' a xs := SqT.of (k.tup n h).1
  refine ⟨⟨xs, hq, by rw [r.length]; exact Nat.le_refl _⟩, fun i d e => ?_⟩
  obtain ⟨v, h1, h2⟩ := r.get e
  refine ⟨⟨xs, v, hq, h1⟩, fun x H2 y => ?_⟩
  obtain ⟨rfl, y⟩ := y
  have e2 := (y xs hq).symm.trans h1
  cases e2
  exact ⟨Step.refl _ _, sim, h2.kp k⟩
theorem walks_str {z : Str} : Walks K mg T H (Its z) (z.cps.toList.map chD) := fun T' S' H' kf sim => by
  have k := kf.toKp
  refine ⟨?_, fun i d e => ?_⟩
  · show z.cps.size ≤ _
    rw [List.length_map, Array.length_toList]
    exact Nat.le_refl _
  · rw [List.getElem?_map] at e
    cases q : z.cps.toList[i]? with
    | none => rw [q] at e; cases e
    | some c =>
      rw [q] at e
      cases e
      have hi := (List.getElem?_eq_some_iff.mp q).1
      rw [Array.length_toList] at hi
      refine ⟨hi, fun x H2 y => ?_⟩
      obtain ⟨rfl, c', h1, rfl⟩ := y
      rw [Array.getElem?_toList] at q
      rw [q] at h1
      cases h1
      exact ⟨Step.refl _ _, sim, .str _⟩
theorem walks_rng {lo : Int} {n : Nat} : Walks K mg T H (Itr lo n) (rng lo n) := fun T' S' H' kf sim => by
  have k := kf.toKp
  refine ⟨?_, fun i d e => ?_⟩
  · show n ≤ _
    unfold rng
    rw [List.length_map, List.length_range]
    exact Nat.le_refl _
  · unfold rng at e
    rw [List.getElem?_map] at e
    cases q : (List.range n)[i]? with
    | none => rw [q] at e; cases e
    | some c =>
      rw [q] at e
      cases e
      obtain ⟨hi, hc⟩ := List.getElem?_eq_some_iff.mp q
      rw [List.length_range] at hi
      rw [List.getElem_range] at hc
      subst hc
      refine ⟨hi, fun x H2 y => ?_⟩
      obtain ⟨rfl, rfl⟩ := y
      exact ⟨Step.refl _ _, sim, .int _⟩
theorem rng_len (lo : Int) (n : Nat) : (rng lo n).length = n := by
  unfold rng
  rw [List.length_map, List.length_range]
end
section
variable {X : Cx} {Wx : WX} {tg e : Expr} {m : EM} {ms : AM} {pos p : Pos}
theorem ji_seq (h : PE X e (tD X.K X.mg Wx m)) : PI X tg e (iD X.K X.mg Wx (mIter m)) := pi_imp (pi_sq h) fun g H Q h => by
  obtain ⟨T, r, S, rs, sim, h⟩ := h
  refine ⟨T, r, S, rs, sim, Out.bind h fun d S1 T1 H1 v st sim1 rel h1 => ?_⟩
  refine Out.use h1 fun ds e k => ?_
  cases rel with
  | lst q1 q2 q3 =>
    cases e
    exact .inl ⟨_, _, rfl, SqL.of q1, k T1 H1 _ (Step.refl T1 H1) sim1 ⟨walks_lst (.inl ⟨.inl q1, q2⟩) q3, by rw [← q3.length]; exact sim1.hl _ _ (.inl (.inl q1))⟩⟩
  | scr q =>
    cases e
    exact .inl ⟨_, _, rfl, q.sq, k T1 H1 _ (Step.refl T1 H1) sim1 ⟨walks_lst q (RepL.ints _), by have := sim1.llen q; rw [List.length_map] at this ⊢; exact this⟩⟩
  | tup q1 q2 q3 =>
    cases e
    exact .inr (.inl ⟨_, _, rfl, SqT.of q1, k T1 H1 _ (Step.refl T1 H1) sim1 ⟨walks_tup q1 q2 q3, by rw [← q3.length]; exact sim1.hl _ _ (.inr (.inl q1))⟩⟩)
  | str x =>
    simp only [seqD] at e
    split at e
    · rename_i hz
      cases e
      exact .inr (.inr ⟨x, rfl, k T1 H1 _ (Step.refl T1 H1) sim1 ⟨walks_str, by rw [List.length_map, Array.length_toList]; exact sz5 hz⟩⟩)
    · cases e
  | _ => cases e
theorem ji_rng1 {a : Expr} (hg : Gl X "range") (hm : X.mg "range" = none) (ha : PA X [a] (tDA X.K X.mg Wx ms)) (hs : starEach [a] X.env = [(false, eval a X.env)] := by rfl) : PI X tg (.Call (.Name "range" p) [a] [] pos) (iD X.K X.mg Wx (mRng1 ms)) :=
  pi_imp (pi_range1 hg hm ha hs) fun g H Q h => by
    obtain ⟨T, r, S, rs, sim, h⟩ := h
    refine ⟨T, r, S, rs, sim, Out.bind h fun d S1 T1 H1 v st sim1 rel h1 => ?_⟩
    refine Out.use h1 fun ds e k => ?_
    unfold rng1 at e
    split at e
    · rename_i j
      split at e
      · rename_i hj
        cases e
        cases rel with
        | cons q1 q2 =>
          cases q2
          refine ⟨j, by rw [q1.int_of], by omega, by omega, k T1 H1 _ (Step.refl T1 H1) sim1 ⟨walks_rng, ?_⟩⟩
          rw [rng_len]
          exact sz5 (by omega)
      · cases e
    · cases e
end
def zipD (ds : List D) : Option (List D) := match ds with
  | [.tup xs, .tup ys] => some (List.zipWith (fun a b => D.tup [a, b]) xs ys)
  | [.lst xs, .lst ys] => some (List.zipWith (fun a b => D.tup [a, b]) xs ys)
  | _ => none
def mZip (ms : AM) : IM := fun r S => (ms r S).bind fun ds S1 => ofO (zipD ds) S1
theorem zip_get {xs ys : List D} {i : Nat} {d : D} (h : (List.zipWith (fun a b => D.tup [a, b]) xs ys)[i]? = some d) : ∃ a b, xs[i]? = some a ∧ ys[i]? = some b ∧ d = .tup [a, b] := by
  rw [List.getElem?_zipWith] at h
  cases q : xs[i]? with
  | none => rw [q] at h; cases h
  | some a =>
    cases q2 : ys[i]? with
    | none => rw [q, q2] at h; cases h
    | some b =>
      rw [q, q2] at h
      cases h
      exact ⟨a, b, rfl, rfl, rfl⟩
section
variable {X : Cx} {Wx : WX} {e e2 : Expr} {ms : AM} {pos p tpos : Pos} {elts : List Expr} {kk : Nat}
theorem pair_new {K : PySem.W.Frag} {mg : Str → Option Value} {T : Tb} {S : Store} {H : Hp} {p : Addr} {x y : V} {a b : D} (sim : Sim K mg T S H) (hp : H p = none) (ha : Rep K T H x a) (hb : Rep K T H y b) :
    Step T H T (upd H p (.tup [x, y])) ∧ Sim K mg T S (upd H p (.tup [x, y])) ∧ Rep K T (upd H p (.tup [x, y])) (.ref p) (.tup [a, b]) :=
  ⟨sim.stepNew hp, sim.new hp (hlen_tup sim.hl (by show 2 ≤ sizeLine; decide)), .tup upd_same (sim.off hp) (.cons (ha.step (sim.stepNew hp)) (.cons (hb.step (sim.stepNew hp)) .nil))⟩
theorem ji_zip (hg : Gl X "zip") (hm : X.mg "zip" = none) (ha : PA X [e, e2] (tDA X.K X.mg Wx ms)) (hs : starEach [e, e2] X.env = (false, eval e X.env) :: starEach [e2] X.env := by rfl) (hpl : (backTo pos (starEach [e2] X.env)).any (·.1) = false := by rfl) :
    PI X (.Tuple elts kk tpos) (.Call (.Name "zip" p) [e, e2] [] pos) (iD X.K X.mg Wx (mZip ms)) := pi_imp (RZ.pi_zipA hg hm ha hs hpl) fun g H Q h => by
  obtain ⟨T, r, S, rs, sim, h⟩ := h
  refine ⟨T, r, S, rs, sim, Out.bind h fun d S1 T1 H1 v st sim1 rel h1 => ?_⟩
  refine Out.use h1 fun ds e k => ?_
  unfold zipD at e
  split at e
  · cases e
    cases rel with
    | cons q1 q2 =>
      cases q2 with
      | cons q2 q3 =>
        cases q3
        cases q1 with
        | @tup a xs _ h1 n1 r1 =>
          cases q2 with
          | @tup b ys _ h2 n2 r2 =>
            refine ⟨a, b, xs, ys, rfl, .inr ⟨SqT.of h1, SqT.of h2, k T1 H1 _ (Step.refl T1 H1) sim1 ⟨fun T' S' H' kp sim' => ?_, ?_⟩⟩⟩
            · have k1 : SqT X.K H' a xs := SqT.of (kp.tup n1 h1).1
              have k2 : SqT X.K H' b ys := SqT.of (kp.tup n2 h2).1
              refine ⟨⟨xs, ys, k1, k2, ?_⟩, fun i d ed => ?_⟩
              · rw [List.length_zipWith, ← r1.length, ← r2.length]
                omega
              · obtain ⟨x, y, e1, e2, rfl⟩ := zip_get ed
                obtain ⟨v1, f1, f2⟩ := r1.get e1
                obtain ⟨v2, f3, f4⟩ := r2.get e2
                refine ⟨⟨xs, ys, v1, v2, k1, k2, f1, f3⟩, fun z H2 yl => ?_⟩
                obtain ⟨P, x', y', rfl, hn, rfl, g1, g2⟩ := yl
                have z1 := (g1 xs k1).symm.trans f1
                have z2 := (g2 ys k2).symm.trans f3
                cases z1; cases z2
                exact pair_new sim' hn (f2.kp kp.toKp) (f4.kp kp.toKp)
            · rw [List.length_zipWith, ← r1.length]
              exact Nat.le_trans (Nat.min_le_left _ _) (sim1.hl _ _ (.inr (.inl h1)))
  · cases e
    cases rel with
    | cons q1 q2 =>
      cases q2 with
      | cons q2 q3 =>
        cases q3
        cases q1 with
        | @lst a xs _ h1 n1 r1 =>
          cases q2 with
          | @lst b ys _ h2 n2 r2 =>
            refine ⟨a, b, xs, ys, rfl, .inl ⟨SqL.of h1, SqL.of h2, k T1 H1 _ (Step.refl T1 H1) sim1 ⟨fun T' S' H' kp sim' => ?_, ?_⟩⟩⟩
            · have k1 : SqL X.K H' a xs := SqL.of (kp.lst n1 h1).1
              have k2 : SqL X.K H' b ys := SqL.of (kp.lst n2 h2).1
              refine ⟨⟨xs, ys, k1, k2, ?_⟩, fun i d ed => ?_⟩
              · rw [List.length_zipWith, ← r1.length, ← r2.length]
                omega
              · obtain ⟨x, y, e1, e2, rfl⟩ := zip_get ed
                obtain ⟨v1, f1, f2⟩ := r1.get e1
                obtain ⟨v2, f3, f4⟩ := r2.get e2
                refine ⟨⟨xs, ys, v1, v2, k1, k2, f1, f3⟩, fun z H2 yl => ?_⟩
                obtain ⟨P, x', y', rfl, hn, rfl, g1, g2⟩ := yl
                have z1 := (g1 xs k1).symm.trans f1
                have z2 := (g2 ys k2).symm.trans f3
                cases z1; cases z2
                exact pair_new sim' hn (f2.kp kp.toKp) (f4.kp kp.toKp)
            · rw [List.length_zipWith, ← r1.length]
              exact Nat.le_trans (Nat.min_le_left _ _) (sim1.hl _ _ (.inl (.inl h1)))
  · cases e
end
def W0 : WX := fun _ _ _ _ => False
def nox {α : Type} (x : R α) : R α := match x with
  | .exc _ _ => .bad
  | y => y
def wipeE (r : Env) : List Nat → Env
  | [] => r
  | v :: vs => (wipeE r vs).set v none
def lcL (gm : D → Env → Option Env) (tt : BM) (te : EM) (r0 : Env) : List D → Store → R (List D)
  | [], S => .ok [] S
  | d :: ds, S => match gm d r0 with
    | none => .bad
    | some r1 => (nox (tt r1 S)).bind fun b S1 => if b = true then (nox (te r1 S1)).bind fun y S2 => (lcL gm tt te r0 ds S2).bind fun ys S3 => .ok (y :: ys) S3 else lcL gm tt te r0 ds S1
def mLc (mi : IM) (vs : List Nat) (gm : D → Env → Option Env) (tt : BM) (te : EM) : EM := fun r S => (mi r S).bind fun ds S1 => (lcL gm tt te (wipeE r vs) ds S1).bind fun ys S2 => .ok (.lst ys) S2
def mYes : BM := fun _ S => .ok true S
section
variable {K : PySem.W.Frag} {mg : Str → Option Value} {Wx : WX} {T : Tb} {H : Hp} {r : Env} {g : St}
theorem RepSt.wipe (h : RepSt K T H r g) : ∀ vs : List Nat, RepSt K T H (wipeE r vs) (L2.wipe g vs)
  | [] => h
  | v :: vs => (RepSt.wipe h vs).forgetB
theorem wipe_get {g : St} {i : Nat} : ∀ {vs : List Nat}, i ∈ vs → i < g.length → (L2.wipe g vs)[i]? = some none
  | [], h, _ => nomatch h
  | v :: vs, h, hl => by
    unfold L2.wipe
    by_cases e : v = i
    · subst e
      rw [List.getElem?_set_self (by rw [wipe_length]; exact hl)]
    · rw [List.getElem?_set_ne e]
      exact wipe_get ((List.mem_cons.mp h).resolve_left fun q => e q.symm) hl
theorem wipe_same {g g2 : St} {vs sl : List Nat} (hs : ∀ i ∈ sl, i ∈ vs) (hl : g2.length = g.length) (h : ∀ j, j ∉ sl → g2[j]? = (L2.wipe g vs)[j]?) : L2.wipe g2 vs = L2.wipe g vs := by
  refine List.ext_getElem? fun j => ?_
  by_cases hj : j ∈ vs
  · by_cases hlt : j < g.length
    · rw [wipe_get hj (by rw [hl]; exact hlt), wipe_get hj hlt]
    · rw [List.getElem?_eq_none (by rw [wipe_length, hl]; omega), List.getElem?_eq_none (by rw [wipe_length]; omega)]
  · rw [wipe_out hj, h j fun q => hj (hs j q)]
def Tb.hide (T : Tb) (p : Addr) : Tb := ⟨T.loc, p :: T.hid⟩
theorem Sim.hide {S : Store} {p : Addr} {u : HO} (s : Sim K mg T S H) (hp : H p = none) (hl : HLen (upd H p u)) (hu : ∀ xs, u ≠ .tup xs := by intro _ z; cases z) : Kp T H (T.hide p) (upd H p u) ∧ Sim K mg (T.hide p) S (upd H p u) := by
  have kp : Kp T H (T.hide p) (upd H p u) := ⟨fun b v _ n h => by
    have nb : b ≠ p := ne_of_none h hp
    exact ⟨by rw [upd_ne nb]; exact h, n.1, fun q => (List.mem_cons.mp q).elim nb n.2⟩, fun b v n h => by
    have nb : b ≠ p := fun e => rd_some h (by rw [e]; exact hp)
    exact ⟨rd_keep (fun w q => by rw [upd_ne nb]; exact q) h, n.1, fun q => (List.mem_cons.mp q).elim nb n.2⟩, fun _ _ h => h⟩
  refine ⟨kp, s.len, ?_, fun i a o h1 h2 => (s.obj i a o h1 h2).kp kp (upd_ne fun e => (s.off hp).1 (by rw [← e]; exact List.mem_of_getElem? h1)), fun a ha => ?_, hl⟩
  · have h0 := List.nodup_append.mp s.nd
    refine List.nodup_append.mpr ⟨h0.1, List.nodup_cons.mpr ⟨(s.off hp).2, h0.2.1⟩, fun a ha b hb e => ?_⟩
    rcases List.mem_cons.mp hb with hb | hb
    · exact (s.off hp).1 (by rw [← hb, ← e]; exact ha)
    · exact h0.2.2 a ha b hb e
  · rcases List.mem_cons.mp ha with ha | ha
    · rw [ha, upd_same]
      exact ⟨fun e => (by cases e), fun xs e => hu xs (Option.some.inj e)⟩
    · rw [upd_ne fun e => s.hid a ha (by rw [e]; exact hp)]
      exact s.hid' a ha
theorem Sim.setHid {S : Store} {p : Addr} {u : HO} (s : Sim K mg T S H) (hp : p ∈ T.hid) (hl : HLen (upd H p u)) (hu : ∀ xs, u ≠ .tup xs := by intro _ z; cases z) : Kf T H T (upd H p u) ∧ Sim K mg T S (upd H p u) := by
  have kp : Kp T H T (upd H p u) := ⟨fun b v _ n h => by
    have nb : b ≠ p := fun e => n.2 (by rw [e]; exact hp)
    exact ⟨by rw [upd_ne nb]; exact h, n⟩, fun b v n h => by
    have nb : b ≠ p := fun e => n.2 (by rw [e]; exact hp)
    exact ⟨rd_keep (fun w q => by rw [upd_ne nb]; exact q) h, n⟩, fun _ _ h => h⟩
  refine ⟨⟨kp, fun b o v n h => ⟨by rw [upd_ne fun e => n.2 (by rw [e]; exact hp)]; exact h, n⟩⟩, s.len, s.nd, fun i a o h1 h2 => (s.obj i a o h1 h2).kp kp (upd_ne fun e => s.apart (List.mem_of_getElem? h1) (by rw [e]; exact hp)), fun a ha => ?_, hl⟩
  by_cases e : a = p
  · rw [e, upd_same]
    exact ⟨fun e => (by cases e), fun xs e => hu xs (Option.some.inj e)⟩
  · rw [upd_ne e]
    exact s.hid' a ha
theorem R.bind_assoc {α β γ : Type} (x : R α) (f : α → Store → R β) (k : β → Store → R γ) : (x.bind f).bind k = x.bind fun a S => (f a S).bind k := by
  cases x <;> rfl
theorem off_unhide {p a : Addr} {l h : List Addr} (x : (Tb.mk l (p :: h)).off a) : (Tb.mk l h).off a := ⟨x.1, fun q => x.2 (List.mem_cons_of_mem _ q)⟩
theorem kp_unhide {p : Addr} {l h : List Addr} : Kp ⟨l, p :: h⟩ H ⟨l, h⟩ H := ⟨fun _ _ _ n q => ⟨q, off_unhide n⟩, fun _ _ n q => ⟨q, off_unhide n⟩, fun _ _ q => q⟩
theorem Sim.unhide {S : Store} {p : Addr} {l h : List Addr} (s : Sim K mg ⟨l, p :: h⟩ S H) : Sim K mg ⟨l, h⟩ S H :=
  ⟨s.len, by
    have h0 := List.nodup_append.mp s.nd
    exact List.nodup_append.mpr ⟨h0.1, (List.nodup_cons.mp h0.2.1).2, fun a ha b hb e => h0.2.2 a ha b (List.mem_cons_of_mem _ hb) e⟩, fun i a o h1 h2 => (s.obj i a o h1 h2).kp kp_unhide rfl, fun a ha => s.hid' a (List.mem_cons_of_mem _ ha), s.hl⟩
theorem lc_bind {α β γ δ : Type} {relA : Tb → Hp → β → α → Prop} {relB : Tb → Hp → δ → γ → Prop} {T1 : Tb} {H1 : Hp} {g g2 : St} {x : R α} {f : α → Store → R γ} {Q : δ → Hp → Prop} {Q1 : β → Hp → Prop} (h : Out K mg Wx relB T1 g H1 ((nox x).bind f) Q)
    (k : ∀ a S T3 H3 v, Step T H T3 H3 → Sim K mg T3 S H3 → relA T3 H3 v a → Out K mg Wx relB T1 g H1 (f a S) Q → Q1 v H3) : Out K mg W0 relA T g2 H x Q1 := by
  cases x with
  | bad => exact h.elim
  | exc n S => exact h.elim
  | ok a S => exact fun T3 H3 v st sim rl => k a S T3 H3 v st sim rl h
end
section
variable {X : Cx} {Wx : WX} {elt tg iter : Expr} {ifs : List Expr} {scope : Scope} {own : List (Str × Nat)} {pos : Pos} {mi : IM} {sl : List Nat} {gm : D → Env → Option Env} {tt : BM} {te : EM}
theorem jts_nil : PTs X [] (tDT X.K X.mg Wx mYes) := ⟨fun pins s g H Q I h => by
  obtain ⟨T, r, S, rs, sim, h⟩ := h
  exact pts_nil.run pins s g H Q I (h T H true (Step.refl T H) sim rfl)⟩
theorem jts_one {c : Expr} (h : PT X c (tDT X.K X.mg Wx tt)) : PTs X [c] (tDT X.K X.mg Wx tt) := pts_one h
theorem tLc_of {K : PySem.W.Frag} {mg : Str → Option Value} {vs : List Nat} (hsl : ∀ i ∈ sl, i ∈ vs) : ∀ g H Q, tD K mg Wx (mLc mi vs gm tt te) g H Q → tLc (iD K mg Wx mi) (gD K mg sl gm) (tDT K mg W0 tt) (tD K mg W0 te) vs g H Q := by
  intro g H Q h
  obtain ⟨T, r, S, rs, sim, h⟩ := h
  refine ⟨T, r, S, rs, sim, Out.bind h fun ds S1 T1 H1 J st sim1 rel h1 => ?_⟩
  obtain ⟨wk, hz⟩ := rel
  intro Dl hD
  have hl0 : HLen (upd H1 Dl (.lst [])) := hlen_lst sim1.hl (Nat.zero_le _)
  obtain ⟨kp0, simh⟩ := sim1.hide (u := .lst []) hD hl0
  have rs1 := rs.step st
  refine ⟨fun i m H => ∃ T S acc ys, m = ds.length - i ∧ i ≤ ds.length ∧ T.hid = Dl :: T1.hid ∧ Step T1 H1 ⟨T.loc, T1.hid⟩ H ∧ Sim K mg T S H ∧ H Dl = some (.lst acc) ∧ RepL K T H acc ys ∧ ys.length ≤ i ∧
    Out K mg Wx (Rep K) T1 g H1 ((lcL gm tt te (wipeE r vs) (ds.drop i) S).bind fun zs S2 => .ok (.lst (ys ++ zs)) S2) Q, ⟨ds.length, T1.hide Dl, S1, [], [], by simp, Nat.zero_le _, rfl, sim1.stepNew hD, simh, upd_same, .nil, Nat.le_refl _, by simpa using h1⟩, ?_⟩
  rintro i m H2 ⟨T2, S2, acc, ys, rfl, hi, eh, st2, sim2, hD2, ra, hys, ho⟩
  have off2 : ∀ b, T1.off b → H1 b ≠ none → T2.off b := fun b n q => ⟨(st2.out q n).1, fun z => by
    rw [eh] at z
    rcases List.mem_cons.mp z with z | z
    · exact q (by rw [z]; exact hD)
    · exact n.2 z⟩
  have kp2 : Kp T1 H1 T2 H2 := ⟨fun b u k n q => ⟨st2.keep b u n q, off2 b n (some_ne q)⟩, fun b u n q => ⟨st2.rd q n, off2 b n (rd_some q)⟩, fun n a q => st2.get q⟩
  have kf2 : Kf T1 H1 T2 H2 := ⟨kp2, fun b o u n q => ⟨st2.keep b _ n q, off2 b n (some_ne q)⟩⟩
  obtain ⟨stop, go⟩ := wk T2 S2 H2 kf2 sim2
  by_cases hlt : i < ds.length
  · have ed : ds.drop i = ds[i] :: ds.drop (i + 1) := List.drop_eq_getElem_cons hlt
    rw [ed] at ho
    obtain ⟨g1, yl⟩ := go i ds[i] (List.getElem?_eq_getElem hlt)
    refine .inr ⟨g1, fun H => ∃ T S acc ys, T.hid = Dl :: T1.hid ∧ Step T1 H1 ⟨T.loc, T1.hid⟩ H ∧ Sim K mg T S H ∧ H Dl = some (.lst acc) ∧ RepL K T H acc ys ∧ ys.length ≤ i + 1 ∧
      Out K mg Wx (Rep K) T1 g H1 ((lcL gm tt te (wipeE r vs) (ds.drop (i + 1)) S).bind fun zs S2 => .ok (.lst (ys ++ zs)) S2) Q, fun H3 q => ?_, fun x H3 y => ?_⟩
    · obtain ⟨T3, S3, acc3, ys3, q1, q2, q3, q4, q5, q6, q7⟩ := q
      exact ⟨ds.length - (i + 1), by omega, T3, S3, acc3, ys3, rfl, hlt, q1, q2, q3, q4, q5, q6, q7⟩
    · obtain ⟨st3, sim3, rep3⟩ := yl x H3 y
      simp only [lcL] at ho
      -- how a step of the hidden table is one of the open one
      have opn : ∀ {Ta Tb : Tb} {Ha Hb : Hp}, Ta.hid = Dl :: T1.hid → Step T1 H1 ⟨Ta.loc, T1.hid⟩ Ha → Step Ta Ha Tb Hb → Tb.hid = Dl :: T1.hid ∧ Step T1 H1 ⟨Tb.loc, T1.hid⟩ Hb := fun {Ta Tb Ha Hb} e1 s1 s2 => by
        refine ⟨s2.hid.trans e1, s1.trans ⟨s2.ext, rfl, fun b hb => s2.hkeep b (by rw [e1]; exact List.mem_cons_of_mem _ hb), fun b u n q => ?_, s2.new⟩⟩
        by_cases hb : b = Dl
        · subst hb
          rw [s2.hkeep b (by rw [e1]; exact List.mem_cons_self)]
          exact q
        · exact s2.keep b u ⟨n.1, fun z => by
            rw [e1] at z
            exact (List.mem_cons.mp z).elim hb n.2⟩ q
      obtain ⟨eh3, op3⟩ := opn eh st2 st3
      have hid3 : Dl ∈ T2.hid := by rw [eh]; exact List.mem_cons_self
      split at ho
      · exact ho.elim
      · rename_i r1 eg
        refine ⟨T2, wipeE r vs, S2, ds[i], r1, ((rs1.wipe vs).kp kp2).step st3, sim3, rep3, eg, fun g4 rs4 lg kg => ⟨wipe_same hsl (by rw [lg, wipe_length]) kg, T2, r1, S2, rs4, sim3, ?_⟩⟩
        rw [R.bind_assoc] at ho
        refine lc_bind ho fun b S4 T4 H4 v st4 sim4 rel4 ho4 => ?_
        subst rel4
        obtain ⟨eh4, op4⟩ := opn eh3 op3 st4
        have hid4 : Dl ∈ T4.hid := by rw [eh4]; exact List.mem_cons_self
        have hD4 : H4 Dl = some (.lst acc) := (st4.hkeep Dl hid3).trans ((st3.hkeep Dl hid3).trans hD2)
        cases v with
        | false =>
          rw [if_neg Bool.false_ne_true] at ho4 ⊢
          exact ⟨T4, S4, acc, ys, eh4, op4, sim4, hD4, ra.step (st3.trans st4), by omega, ho4⟩
        | true =>
          rw [if_pos rfl, R.bind_assoc] at ho4
          rw [if_pos rfl]
          refine ⟨T4, r1, S4, rs4.step st4, sim4, lc_bind ho4 fun yd S5 T5 H5 yv st5 sim5 rel5 ho5 => ?_⟩
          obtain ⟨eh5, op5⟩ := opn eh4 op4 st5
          have hid5 : Dl ∈ T5.hid := by rw [eh5]; exact List.mem_cons_self
          have ra5 : RepL K T5 H5 acc ys := ra.step ((st3.trans st4).trans st5)
          have hal : acc.length < sizeLine := by rw [ra5.length]; omega
          have hl5 : HLen (upd H5 Dl (.lst (acc ++ [yv]))) := hlen_lst sim5.hl (by rw [List.length_append, List.length_singleton]; omega)
          obtain ⟨kp5, sim6⟩ := sim5.setHid (u := .lst (acc ++ [yv])) hid5 hl5
          refine ⟨acc, (st5.hkeep Dl hid4).trans hD4, hal, T5, S5, acc ++ [yv], ys ++ [yd], eh5, ⟨op5.ext, rfl, fun b hb => ?_, fun b u n q => ?_, op5.new⟩, sim6, upd_same, RepL.append (ra5.kp kp5.toKp) (.cons (rel5.kp kp5.toKp) .nil), by rw [List.length_append, List.length_singleton]; omega, ?_⟩
          · rw [upd_ne fun e => sim1.hid b hb (by rw [e]; exact hD)]
            exact op5.hkeep b hb
          · rw [upd_ne (ne_of_none q hD)]
            exact op5.keep b u n q
          · rw [R.bind_assoc] at ho5
            have e5 : (fun zs S2 => (R.ok (D.lst (ys ++ [yd] ++ zs)) S2 : R D)) = fun a S => (R.ok (yd :: a) S).bind fun zs S2 => R.ok (D.lst (ys ++ zs)) S2 := by
              funext zs S2
              show _ = R.ok (D.lst (ys ++ (yd :: zs))) S2
              rw [List.append_assoc]
              rfl
            rw [e5]
            exact ho5
  · have e : i = ds.length := by omega
    subst e
    rw [List.drop_length] at ho
    refine .inl ⟨stop, ho ⟨T2.loc, T1.hid⟩ H2 _ st2 ?_ ?_⟩
    · have h9 := sim2
      obtain ⟨l2, h2⟩ := T2
      cases eh
      exact h9.unhide
    · obtain ⟨l2, h2⟩ := T2
      cases eh
      rw [List.append_nil]
      refine .lst hD2 ⟨fun z => ?_, fun z => ?_⟩ (ra.kp kp_unhide)
      · exact sim2.apart z List.mem_cons_self
      · have nd := (List.nodup_append.mp sim2.nd).2.1
        exact (List.nodup_cons.mp nd).1 z
theorem j_lc (hsl : ∀ i ∈ sl, i ∈ own.map (·.2)) (hc : X.calm = true) (hN : X.N.Nodup) (hi : PI X tg iter (iD X.K X.mg Wx mi)) (ok : BlkOk X.N X.env.scope scope own)
    (hg : ∀ (s : Shared) (H : Hp) (C : Addr) (cl : List (Str × Addr)) (fp : List Addr), PG (X.blk s H scope (compEnvC scope cl C X.env) fp) tg (gD X.K X.mg sl gm)) (ht : ∀ (s : Shared) (H : Hp) (C : Addr) (cl : List (Str × Addr)) (fp : List Addr), PTs (X.blk s H scope (compEnvC scope cl C X.env) fp) ifs (tDT X.K X.mg W0 tt))
    (he : ∀ (s : Shared) (H : Hp) (C : Addr) (cl : List (Str × Addr)) (fp : List Addr), PE (X.blk s H scope (compEnvC scope cl C X.env) fp) elt (tD X.K X.mg W0 te)) (hs : ∀ x, foldedSetIterable iter X.env x = pure x := by intro _; rfl) :
    PE X (.ListComp elt [⟨tg, iter, ifs, 0⟩] scope pos) (tD X.K X.mg Wx (mLc mi (own.map (·.2)) gm tt te)) := pe_imp (pe_lc hc hN hi ok hg ht he hs) (tLc_of hsl)
end
end Dv
namespace Dv
open PySem L2
def spD (K : PySem.W.Frag) (mg : Str → Option Value) (n : Nat) (F : List D → Store → R D) : Sp := fun vs H Q E => vs.length = n ∧ ∃ T S ds, RepL K T H vs ds ∧ Sim K mg T S H ∧ Out K mg (fun c d _ H => E c d H) (Rep K) T [] H (F ds S) Q
def mApp (n : Nat) (F : List D → Store → R D) (ms : AM) : EM := fun r S => (ms r S).bind fun ds S1 => if ds.length = n then F ds S1 else .bad
section
variable {X : Cx} {Wx : WX} {k n : Nat} {f : Addr} {fd : FuncData} {ps : List Str} {Fn : List D → Store → R D} {x : Str} {p pos : Pos} {e : Expr} {es : List Expr} {ms : AM}
theorem j_call (F : FnOk X.prog X.w X.K X.mg X.base (L2.CX X.prog X.w) k f fd ps (spD X.K X.mg n Fn)) (hr : Room k X.A) (hg : Gl X x) (hm : X.mg x = some (.ref f)) (hk : PySem.W.keepIn X.K (.ref f) = true) (hb : Binds X.K fd ps []) (tk : Takes X Wx)
    (ha : PA X (e :: es) (tDA X.K X.mg Wx ms)) (hdb : (x == ("__debug__" : Str)) = false := by decide) (he : starEach (e :: es) X.env = (false, eval e X.env) :: starEach es X.env := by rfl) (hpl : (backTo pos (starEach es X.env)).any (·.1) = false := by rfl) :
    PE X (.Call (.Name x p) (e :: es) [] pos) (tD X.K X.mg Wx (mApp n Fn ms)) :=
  pe_imp (pe_callSD (E := WE Wx) F hr hg hm hk hb .nil (fun g => passAt tk g) ha hdb he hpl) fun g H Q h => by
    obtain ⟨T, r, S, rs, sim, h⟩ := h
    refine ⟨T, r, S, rs, sim, Out.bind h fun ds S1 T1 H1 vs st sim1 rel h1 => ?_⟩
    split at h1
    · rename_i hn
      rw [List.append_nil]
      refine ⟨by rw [rel.length]; exact hn, T1, S1, ds, rel, sim1, ?_⟩
      revert h1
      cases Fn ds S1 with
      | bad => exact fun h => h
      | exc x S2 => exact fun h => h
      | ok d S2 => exact fun h => h
    · exact h1.elim
end
def frame (sz : Nat) (ds : List D) : Env := ds.map some ++ List.replicate (sz - ds.length) none
theorem frame_ok {K : PySem.W.Frag} {T : Tb} {H : Hp} {vs : List V} {ds : List D} (N : List Str) (h : RepL K T H vs ds) : RepSt K T H (frame N.length ds) (L2.start N vs) := by
  have hl := h.length
  refine ⟨?_, fun i d e => ?_⟩
  · unfold frame L2.start
    rw [List.length_append, List.length_append, List.length_map, List.length_map, hl, List.length_replicate, List.length_replicate]
  · unfold frame at e
    by_cases hi : i < ds.length
    · rw [List.getElem?_append_left (by rw [List.length_map]; exact hi), List.getElem?_map, List.getElem?_eq_getElem hi] at e
      cases e
      obtain ⟨v, h1, h2⟩ := h.get (List.getElem?_eq_getElem hi)
      refine ⟨v, ?_, h2⟩
      unfold L2.start
      rw [List.getElem?_append_left (by rw [List.length_map, hl]; exact hi), List.getElem?_map, h1]
      rfl
    · rw [List.getElem?_append_right (by rw [List.length_map]; omega), List.getElem?_replicate] at e
      split at e <;> cases e
def finK (z : Z) : R D := match z with
  | .ok (.ret d) _ S => .ok d S
  | .ok .next _ S => .ok .non S
  | .exc n _ S => .exc n S
  | _ => .bad
section
variable {P : Program} {w : World} {K : PySem.W.Frag} {mg : Str → Option Value} {base : Heap} {x qual : Str} {st : Stmt} {f : Addr} {fd : FuncData} {N ps : List Str} {k : Nat} {b : SM}
abbrev BodyOk (P : Program) (w : World) (K : PySem.W.Frag) (mg : Str → Option Value) (base : Heap) (N : List Str) (qual : Str) (st : Stmt) (f : Addr) (k : Nat) (b : SM) : Prop :=
  ∀ (cdv : Value) (A : Around) (outer : List PySem.Env) (s : Shared) (H : Hp) (E : XK), Room k (A.deeper (PyProof.Rows.envOfC qual (defScope st) s.heap.objs.size f cdv)) →
    PSs (cxOf (L2.CX P w) P w K mg base N qual (defScope st) f cdv A outer s H E) (defBody st) (tDS K mg (fun c d _ H => E c d H) b)
end
mutual
def clo (n : Nat) : D → Bool
  | .tup xs => cloL n xs
  | .lst xs => cloL n xs
  | .dct kvs => cloK n kvs
  | .loc m => decide (m < n)
  | .non => true
  | .bl _ => true
  | .int _ => true
  | .str _ => true
  | .scr _ => true
  | .ty _ => true
  | .tux xs => cloL n xs
  | .dtt kvs => cloT n kvs
  | .dpr _ kvs => cloP n kvs
  | .adr _ => true
def cloL (n : Nat) : List D → Bool
  | [] => true
  | d :: ds => clo n d && cloL n ds
def cloK (n : Nat) : List (Key × D) → Bool
  | [] => true
  | (_, d) :: ds => clo n d && cloK n ds
def cloT (n : Nat) : List (List Key × D) → Bool
  | [] => true
  | (_, d) :: ds => clo n d && cloT n ds
def cloP (n : Nat) : List (Pr × D) → Bool
  | [] => true
  | (_, d) :: ds => clo n d && cloP n ds
end
theorem cloP_eq (n : Nat) : ∀ kvs : List (Pr × D), cloP n kvs = cloL n (kvs.map (·.2))
  | [] => rfl
  | (_, d) :: ds => by
    show (clo n d && cloP n ds) = (clo n d && cloL n (ds.map (·.2)))
    rw [cloP_eq n ds]
theorem cloT_eq (n : Nat) : ∀ kvs : List (List Key × D), cloT n kvs = cloL n (kvs.map (·.2))
  | [] => rfl
  | (_, d) :: ds => by
    show (clo n d && cloT n ds) = (clo n d && cloL n (ds.map (·.2)))
    rw [cloT_eq n ds]
theorem cloK_eq (n : Nat) : ∀ kvs : List (Key × D), cloK n kvs = cloL n (kvs.map (·.2))
  | [] => rfl
  | (_, d) :: ds => by
    show (clo n d && cloK n ds) = (clo n d && cloL n (ds.map (·.2)))
    rw [cloK_eq n ds]
theorem cloL_ints (n : Nat) : ∀ ns : List Int, cloL n (ns.map D.int) = true
  | [] => rfl
  | x :: ns => by
    show (clo n (D.int x) && cloL n (ns.map D.int)) = true
    rw [cloL_ints n ns]
    rfl
theorem clo_prD (n : Nat) (p : Pr) : clo n (prD p) = true := by
  show (true && (cloL n (p.2.map D.int) && true)) = true
  rw [cloL_ints]
  rfl
theorem cloL_prD {α : Type} (n : Nat) (f : α → Pr) : ∀ xs : List α, cloL n (xs.map fun x => prD (f x)) = true
  | [] => rfl
  | x :: xs => by
    show (clo n (prD (f x)) && cloL n (xs.map fun x => prD (f x))) = true
    rw [cloL_prD n f xs, clo_prD]
    rfl
theorem cloL_iff (n : Nat) : ∀ ds : List D, cloL n ds = true ↔ ∀ d ∈ ds, clo n d = true
  | [] => ⟨fun _ d h => (by cases h), fun _ => rfl⟩
  | x :: ds => by
    show (clo n x && cloL n ds) = true ↔ _
    rw [Bool.and_eq_true, cloL_iff n ds]
    exact ⟨fun h d hd => (List.mem_cons.mp hd).elim (fun e => e ▸ h.1) (h.2 d), fun h => ⟨h x List.mem_cons_self, fun d hd => h d (List.mem_cons_of_mem _ hd)⟩⟩
def cloO (n : Nat) : O → Bool
  | .lst xs => cloL n xs
  | .dct kvs => cloK n kvs
  | .dtt kvs => cloT n kvs
  | .dpr _ kvs => cloP n kvs
  | .ins _ fs => cloL n (fs.map (·.2))
  | .tbl _ _ => true
section
variable {K : PySem.W.Frag} {mg : Str → Option Value} {T T' : Tb} {H : Hp}
mutual
theorem Rep.clo : ∀ {v : V} {d : D}, Rep K T H v d → Dv.clo T.loc.length d = true
  | _, _, .non => rfl
  | _, _, .bl b => rfl
  | _, _, .int i => rfl
  | _, _, .str x => rfl
  | _, _, .ty x => rfl
  | _, _, .tup h n r => RepL.clo r
  | _, _, .lst h n r => RepL.clo r
  | _, _, .scr h => rfl
  | _, _, @Rep.dct _ _ _ a kvs kds h n e r => by
    show cloK _ kds = true
    rw [cloK_eq]
    exact RepL.clo r
  | _, _, .loc h => decide_eq_true (List.getElem?_eq_some_iff.mp h).1
  | _, _, .tux _ h n r => RepL.clo r
  | _, _, @Rep.dtt _ _ _ a kvs kds h n e r => by
    show cloT _ kds = true
    rw [cloT_eq]
    exact RepL.clo r
  | _, _, .adr _ => rfl
  | _, _, @Rep.dpr _ _ _ a w xs kds h n e r q => by
    show cloP _ kds = true
    rw [cloP_eq]
    exact RepL.clo q
theorem RepL.clo : ∀ {vs : List V} {ds : List D}, RepL K T H vs ds → cloL T.loc.length ds = true
  | _, _, .nil => rfl
  | _, _, .cons h r => by
    show (Dv.clo _ _ && cloL _ _) = true
    rw [Rep.clo h, RepL.clo r]
    rfl
end
theorem ORep.clo {a : Addr} {o : O} (h : ORep K mg T H a o) : cloO T.loc.length o = true := by
  cases o with
  | lst ds => obtain ⟨xs, _, h2⟩ := h; exact h2.clo
  | dct kds => obtain ⟨xs, _, _, h2⟩ := h; show cloK _ _ = true; rw [cloK_eq]; exact h2.clo
  | dtt kds => obtain ⟨xs, _, _, h2⟩ := h; show cloT _ _ = true; rw [cloT_eq]; exact h2.clo
  | dpr w kds => obtain ⟨xs, _, _, _, h2⟩ := h; show cloP _ _ = true; rw [cloP_eq]; exact h2.clo
  | ins c fs => obtain ⟨_, _, _, _, _, _, h2⟩ := h; exact h2.clo
  | tbl x q => rfl
mutual
theorem Rep.cut {m : List Addr} (e : T'.loc = T.loc ++ m) (eh : T'.hid = T.hid) : ∀ {v : V} {d : D}, Rep K T' H v d → Dv.clo T.loc.length d = true → Rep K T H v d
  | _, _, .non, _ => .non
  | _, _, .bl b, _ => .bl b
  | _, _, .int i, _ => .int i
  | _, _, .str x, _ => .str x
  | _, _, .ty x, _ => .ty x
  | _, _, .tup h n r, c => .tup h ⟨fun z => n.1 (by rw [e]; exact List.mem_append_left _ z), by rw [← eh]; exact n.2⟩ (RepL.cut e eh r c)
  | _, _, .lst h n r, c => .lst h ⟨fun z => n.1 (by rw [e]; exact List.mem_append_left _ z), by rw [← eh]; exact n.2⟩ (RepL.cut e eh r c)
  | _, _, .scr (.inl ⟨h, n⟩), _ => .scr (.inl ⟨h, fun z => n.1 (by rw [e]; exact List.mem_append_left _ z), by rw [← eh]; exact n.2⟩)
  | _, _, .scr (.inr h), _ => .scr (.inr h)
  | _, _, @Rep.dct _ _ _ a kvs kds h n q r, c => .dct h ⟨fun z => n.1 (by rw [e]; exact List.mem_append_left _ z), by rw [← eh]; exact n.2⟩ q (RepL.cut e eh r (by
    have c : cloK _ kds = true := c
    rw [cloK_eq] at c
    exact c))
  | _, _, .loc h, c => .loc (by
    rw [e, List.getElem?_append_left (of_decide_eq_true c)] at h
    exact h)
  | _, _, .tux d h n r, c => .tux d h ⟨fun z => n.1 (by rw [e]; exact List.mem_append_left _ z), by rw [← eh]; exact n.2⟩ (RepL.cut e eh r c)
  | _, _, @Rep.dtt _ _ _ a kvs kds h n q r, c => .dtt h ⟨fun z => n.1 (by rw [e]; exact List.mem_append_left _ z), by rw [← eh]; exact n.2⟩ q (RepL.cut e eh r (by
    have c : cloT _ kds = true := c
    rw [cloT_eq] at c
    exact c))
  | _, _, .adr _, _ => .adr _
  | _, _, @Rep.dpr _ _ _ a w xs kds h n q r r2, c => .dpr h ⟨fun z => n.1 (by rw [e]; exact List.mem_append_left _ z), by rw [← eh]; exact n.2⟩ q (RepL.cut e eh r (cloL_prD _ _ _)) (RepL.cut e eh r2 (by
    have c : cloP _ kds = true := c
    rw [cloP_eq] at c
    exact c))
theorem RepL.cut {m : List Addr} (e : T'.loc = T.loc ++ m) (eh : T'.hid = T.hid) : ∀ {vs : List V} {ds : List D}, RepL K T' H vs ds → cloL T.loc.length ds = true → RepL K T H vs ds
  | _, _, .nil, _ => .nil
  | _, _, @RepL.cons _ _ _ v vs d ds h r, c => by
    have c : (Dv.clo _ d && cloL _ ds) = true := c
    rw [Bool.and_eq_true] at c
    exact .cons (Rep.cut e eh h c.1) (RepL.cut e eh r c.2)
end
theorem ORep.cut {m : List Addr} {a : Addr} {o : O} (e : T'.loc = T.loc ++ m) (eh : T'.hid = T.hid) (h : ORep K mg T' H a o) (c : cloO T.loc.length o = true) : ORep K mg T H a o := by
  cases o with
  | lst ds => obtain ⟨xs, h1, h2⟩ := h; exact ⟨xs, h1, h2.cut e eh c⟩
  | dct kds =>
    obtain ⟨xs, h1, h3, h2⟩ := h
    have c : cloK _ kds = true := c
    rw [cloK_eq] at c
    exact ⟨xs, h1, h3, h2.cut e eh c⟩
  | dtt kds =>
    obtain ⟨xs, h1, h3, h2⟩ := h
    have c : cloT _ kds = true := c
    rw [cloT_eq] at c
    exact ⟨xs, h1, h3, h2.cut e eh c⟩
  | dpr w kds =>
    obtain ⟨xs, h1, h3, h2, h4⟩ := h
    have c : cloP _ kds = true := c
    rw [cloP_eq] at c
    exact ⟨xs, h1, h3, h2.cut e eh (cloL_prD _ _ _), h4.cut e eh c⟩
  | ins n fs => obtain ⟨C, dx, fvs, h1, h2, h3, h4⟩ := h; exact ⟨C, dx, fvs, h1, h2, h3, h4.cut e eh c⟩
  | tbl x q =>
    obtain ⟨hx, ps, h1, h2, h3⟩ := h
    refine ⟨hx, ps, h1, h2, fun pos cv hc => ?_⟩
    obtain ⟨z, rfl, h4, h5⟩ := h3 pos cv hc
    exact ⟨z, rfl, h4, fun q => h5.1 (by rw [e]; exact List.mem_append_left _ q), by rw [← eh]; exact h5.2⟩
end
def Tr (S S1 : Store) : Prop := S.length ≤ S1.length ∧ ∀ (i : Nat) (o : O), i < S.length → S1[i]? = some o → S[i]? = some o ∨ cloO S.length o = true
theorem Tr.app (S E : Store) : Tr S (S ++ E) := ⟨by rw [List.length_append]; omega, fun i o hi h => .inl (by rw [List.getElem?_append_left hi] at h; exact h)⟩
theorem Tr.set (S E : Store) (n : Nat) (o : O) (h : cloO S.length o = true) : Tr S (S.set n o ++ E) := ⟨by rw [List.length_append, List.length_set]; omega, fun i o' hi q => by
  rw [List.getElem?_append_left (by rw [List.length_set]; exact hi)] at q
  by_cases e : n = i
  · subst e
    rw [List.getElem?_set_self hi] at q
    cases q
    exact .inr h
  · rw [List.getElem?_set_ne e] at q
    exact .inl q⟩
def fzD (n : Nat) (S : Store) (d : D) : Option D := match d with
  | .loc m => if m < n then some (.loc m) else match S[m]? with
    | some (.lst ds) => if cloL n ds = true then some (.lst ds) else none
    | some (.dct kvs) => if cloK n kvs = true then some (.dct kvs) else none
    | some (.dtt kvs) => if cloT n kvs = true then some (.dtt kvs) else none
    | _ => none
  | d => if clo n d = true then some d else none
def fzL (g : D → Option D) : List D → Option (List D)
  | [] => some []
  | d :: ds => match g d, fzL g ds with
    | some a, some b => some (a :: b)
    | _, _ => none
def fzN : Nat → Nat → Store → D → Option D
  | 0, _, _, _ => none
  | f + 1, n, S, d => match d with
    | .loc m => if m < n then some (.loc m) else match S[m]? with
      | some (.lst ds) => (fzL (fzN f n S) ds).map .lst
      | some (.dct kvs) => (fzL (fzN f n S) (kvs.map (·.2))).map fun vs => .dct ((kvs.map (·.1)).zip vs)
      | some (.dtt kvs) => (fzL (fzN f n S) (kvs.map (·.2))).map fun vs => .dtt ((kvs.map (·.1)).zip vs)
      | _ => none
    | .tup ds => (fzL (fzN f n S) ds).map .tup
    | .lst ds => (fzL (fzN f n S) ds).map .lst
    | d => if clo n d = true then some d else none
def fzE (n : Nat) (S : Store) (d : D) : Option D := match fzD n S d with
  | some x => some x
  | none => fzN 9 n S d
theorem fzL_len {g : D → Option D} : ∀ {ds es : List D}, fzL g ds = some es → es.length = ds.length
  | [], _, h => by cases h; rfl
  | d :: ds, es, h => by
    unfold fzL at h
    split at h
    · rename_i a b e1 e2
      cases h
      rw [List.length_cons, List.length_cons, fzL_len e2]
    · cases h
theorem zip_keys {α : Type} : ∀ {ks : List α} {vs : List D}, vs.length = ks.length → (ks.zip vs).map (·.1) = ks ∧ (ks.zip vs).map (·.2) = vs
  | [], [], _ => ⟨rfl, rfl⟩
  | k :: ks, v :: vs, h => by
    obtain ⟨h1, h2⟩ := zip_keys (ks := ks) (vs := vs) (by simpa using h)
    rw [List.zip_cons_cons, List.map_cons, List.map_cons, h1, h2]
    exact ⟨rfl, rfl⟩
  | [], _ :: _, h => by cases h
  | _ :: _, [], h => by cases h
open Classical in
def finT (S : Store) (z : Z) : R D := match z with
  | .ok (.ret d) _ S1 => if Tr S S1 then (match fzE S.length S1 d with
    | some d' => .ok d' (S1.take S.length)
    | none => .bad) else .bad
  | .ok .next _ S1 => if Tr S S1 then .ok .non (S1.take S.length) else .bad
  | .exc n _ S1 => if Tr S S1 then .exc n (S1.take S.length) else .bad
  | _ => .bad
def runT (sz : Nat) (b : SM) : List D → Store → R D := fun ds S => finT S (b (frame sz ds) S)
section
variable {K : PySem.W.Frag} {mg : Str → Option Value} {T T1 : Tb} {H H1 : Hp} {S S1 : Store}
theorem tr_back (sim : Sim K mg T S H) (st : Step T H T1 H1) (sim1 : Sim K mg T1 S1 H1) (tr : Tr S S1) : Step T H T H1 ∧ Sim K mg T (S1.take S.length) H1 := by
  obtain ⟨m, em⟩ := st.ext
  refine ⟨⟨⟨[], by simp⟩, rfl, st.hkeep, st.keep, fun a h n => absurd h n⟩, ?_, sim.nd, fun i a o h1 h2 => ?_, fun a h => by rw [← st.hid] at h; exact sim1.hid' a h, sim1.hl⟩
  · rw [List.length_take, sim.len]
    have := tr.1
    omega
  · have hi : i < S.length := by rw [← sim.len]; exact (List.getElem?_eq_some_iff.mp h1).1
    rw [List.getElem?_take, if_pos hi] at h2
    refine (sim1.obj i a o (st.get h1) h2).cut em st.hid ?_
    rcases tr.2 i o hi h2 with q | q
    · exact (sim.obj i a o h1 q).clo
    · rw [sim.len]; exact q
theorem fz_back (sim : Sim K mg T S H) (st : Step T H T1 H1) (sim1 : Sim K mg T1 S1 H1) {v : V} {d d' : D} (h : Rep K T1 H1 v d) (e : fzD S.length S1 d = some d') : Rep K T H1 v d' := by
  obtain ⟨m, em⟩ := st.ext
  have off : ∀ (i : Nat) (a : Addr), T1.loc[i]? = some a → ¬ i < S.length → T.off a := fun i a h1 hi => ⟨fun z => by
    obtain ⟨j, hj, ej⟩ := List.mem_iff_getElem.mp z
    have h2 : T1.loc[j]? = some a := st.get (by rw [List.getElem?_eq_getElem hj, ej])
    have := nd_ix sim1.ndl h1 h2
    rw [sim.len] at hj
    omega, fun z => sim1.apart (List.mem_of_getElem? h1) (by rw [st.hid]; exact z)⟩
  have plain : ∀ d, (∀ n, d ≠ .loc n) → fzD S.length S1 d = (if clo S.length d = true then some d else none) := fun d hd => by
    cases d <;> first | rfl | exact absurd rfl (hd _)
  by_cases hd : ∀ n, d ≠ .loc n
  · rw [plain d hd] at e
    split at e
    · rename_i c
      cases e
      exact h.cut em st.hid (by rw [sim.len]; exact c)
    · cases e
  · cases d with
    | loc k =>
      cases h with
      | loc hk =>
        simp only [fzD] at e
        split at e
        · rename_i hlt
          cases e
          refine .loc ?_
          rw [em, List.getElem?_append_left (by rw [sim.len]; exact hlt)] at hk
          exact hk
        · rename_i hlt
          have of := off k _ hk hlt
          split at e
          · rename_i ds es
            split at e
            · rename_i c
              cases e
              obtain ⟨xs, q1, q2⟩ := sim1.obj k _ _ hk es
              exact .lst q1 of (q2.cut em st.hid (by rw [sim.len]; exact c))
            · cases e
          · rename_i kvs es
            split at e
            · rename_i c
              cases e
              obtain ⟨xs, q1, q3, q2⟩ := sim1.obj k _ _ hk es
              rw [cloK_eq] at c
              exact .dct (.inl q1) of q3 (q2.cut em st.hid (by rw [sim.len]; exact c))
            · cases e
          · rename_i kvs es
            split at e
            · rename_i c
              cases e
              obtain ⟨xs, q1, q3, q2⟩ := sim1.obj k _ _ hk es
              rw [cloT_eq] at c
              exact .dtt (.inl q1) of q3 (q2.cut em st.hid (by rw [sim.len]; exact c))
            · cases e
          · cases e
    | _ => exact absurd (fun n q => by cases q) hd
theorem fzN_back (sim : Sim K mg T S H) (st : Step T H T1 H1) (sim1 : Sim K mg T1 S1 H1) : ∀ (f : Nat) {v : V} {d d' : D}, Rep K T1 H1 v d → fzN f S.length S1 d = some d' → Rep K T H1 v d' := by
  obtain ⟨m, em⟩ := st.ext
  have off : ∀ (i : Nat) (a : Addr), T1.loc[i]? = some a → ¬ i < S.length → T.off a := fun i a h1 hi => ⟨fun z => by
    obtain ⟨j, hj, ej⟩ := List.mem_iff_getElem.mp z
    have h2 : T1.loc[j]? = some a := st.get (by rw [List.getElem?_eq_getElem hj, ej])
    have := nd_ix sim1.ndl h1 h2
    rw [sim.len] at hj
    omega, fun z => sim1.apart (List.mem_of_getElem? h1) (by rw [st.hid]; exact z)⟩
  have sub : ∀ a, T1.off a → T.off a := fun a n => ⟨fun z => n.1 (by rw [em]; exact List.mem_append_left _ z), by rw [← st.hid]; exact n.2⟩
  intro f
  induction f with
  | zero => intro v d d' _ e; cases e
  | succ f ih =>
    have all : ∀ {vs : List V} {ds es : List D}, RepL K T1 H1 vs ds → fzL (fzN f S.length S1) ds = some es → RepL K T H1 vs es := by
      intro vs ds
      induction ds generalizing vs with
      | nil =>
        intro es r e
        cases r
        cases e
        exact .nil
      | cons d ds ihd =>
        intro es r e
        unfold fzL at e
        split at e
        · rename_i a b e1 e2
          cases e
          cases r with
          | cons r1 r2 => exact .cons (ih r1 e1) (ihd r2 e2)
        · cases e
    intro v d d' h e
    unfold fzN at e
    split at e
    · rename_i k
      cases h with
      | loc hk =>
        split at e
        · rename_i hlt
          cases e
          refine .loc ?_
          rw [em, List.getElem?_append_left (by rw [sim.len]; exact hlt)] at hk
          exact hk
        · rename_i hlt
          have of := off k _ hk hlt
          split at e
          · rename_i ds es
            obtain ⟨ys, h1, rfl⟩ := Option.map_eq_some_iff.mp e
            obtain ⟨xs, q1, q2⟩ := sim1.obj k _ _ hk es
            exact .lst q1 of (all q2 h1)
          · rename_i kvs es
            obtain ⟨ys, h1, rfl⟩ := Option.map_eq_some_iff.mp e
            obtain ⟨xs, q1, q3, q2⟩ := sim1.obj k _ _ hk es
            have hz := zip_keys (ks := kvs.map (·.1)) (vs := ys) (by rw [fzL_len h1, List.length_map, List.length_map])
            exact .dct (.inl q1) of (by rw [hz.1]; exact q3) (by rw [hz.2]; exact all q2 h1)
          · rename_i kvs es
            obtain ⟨ys, h1, rfl⟩ := Option.map_eq_some_iff.mp e
            obtain ⟨xs, q1, q3, q2⟩ := sim1.obj k _ _ hk es
            have hz := zip_keys (ks := kvs.map (·.1)) (vs := ys) (by rw [fzL_len h1, List.length_map, List.length_map])
            exact .dtt (.inl q1) of (by rw [hz.1]; exact q3) (by rw [hz.2]; exact all q2 h1)
          · cases e
    · obtain ⟨ys, h1, rfl⟩ := Option.map_eq_some_iff.mp e
      cases h with
      | tup hh n r => exact .tup hh (sub _ n) (all r h1)
    · obtain ⟨ys, h1, rfl⟩ := Option.map_eq_some_iff.mp e
      cases h with
      | lst hh n r => exact .lst hh (sub _ n) (all r h1)
    · split at e
      · rename_i c
        cases e
        exact h.cut em st.hid (by rw [sim.len]; exact c)
      · cases e
theorem fzE_back (sim : Sim K mg T S H) (st : Step T H T1 H1) (sim1 : Sim K mg T1 S1 H1) {v : V} {d d' : D} (h : Rep K T1 H1 v d) (e : fzE S.length S1 d = some d') : Rep K T H1 v d' := by
  unfold fzE at e
  split at e
  · rename_i x ex
    cases e
    exact fz_back sim st sim1 h ex
  · exact fzN_back sim st sim1 9 h e
end
section
variable {P : Program} {w : World} {K : PySem.W.Frag} {mg : Str → Option Value} {base : Heap} {x qual : Str} {st : Stmt} {f : Addr} {fd : FuncData} {N ps : List Str} {k : Nat} {b : SM}
theorem fnT (F : Fun K x qual st f fd) (Sc : FnScope N ps (defScope st)) (hb : BodyOk P w K mg base N qual st f k b) : FnOk P w K mg base (L2.CX P w) (k + 1) f fd ps (spD K mg ps.length (runT N.length b)) := by
  refine F.okX Sc (fun vs H Q E h => h.1) fun cdv A outer s H vs Q E hr hsp => ⟨_, hb cdv A outer s H E hr, ?_⟩
  obtain ⟨hl, T, S, ds, rep, sim, out⟩ := hsp
  refine ⟨T, frame N.length ds, S, frame_ok N rep, sim, ?_⟩
  unfold runT finT at out
  revert out
  cases b (frame N.length ds) S with
  | bad => exact fun h => h
  | exc n r' S' =>
    intro h T' H' g' s sim' _
    dsimp only at h
    split at h
    · rename_i tr
      obtain ⟨s1, m1⟩ := tr_back sim s sim' tr
      exact h T H' s1 m1
    · exact h.elim
  | ok fl r' S' =>
    cases fl with
    | next =>
      intro h T' H' g' s sim' rs'
      dsimp only at h
      split at h
      · rename_i tr
        obtain ⟨s1, m1⟩ := tr_back sim s sim' tr
        exact h T H' .non s1 m1 .non
      · exact h.elim
    | ret d =>
      intro h T' H' v s sim' rv
      dsimp only at h
      split at h
      · rename_i tr
        obtain ⟨s1, m1⟩ := tr_back sim s sim' tr
        split at h
        · rename_i d' ed
          exact h T H' v s1 m1 (fzE_back sim s sim' rv ed)
        · exact h.elim
      · exact h.elim
    | brk => exact fun h => h.elim
    | cont => exact fun h => h.elim
end
end Dv
namespace Dv
open PySem L2
def subD (a b : D) (_ : Store) : Option D := match a, b with
  | .int i, .int j => some (.int (i - j))
  | _, _ => none
def fdivD (a b : D) (_ : Store) : Option D := match a, b with
  | .int i, .int j => if 0 < j ∧ j < 1073741824 then some (.int (i / j)) else none
  | _, _ => none
def modD (a b : D) (_ : Store) : Option D := match a, b with
  | .int i, .int j => if 0 < j then some (.int (i % j)) else none
  | _, _ => none
def negD (a : D) (_ : Store) : Option D := match a with
  | .int i => some (.int (-i))
  | _ => none
def addD (a b : D) (_ : Store) : Option D := match a, b with
  | .int i, .int j => some (.int (i + j))
  | .str x, .str y => if x.length + y.length ≤ 100000 then some (.str (x ++ y)) else none
  | .tup xs, .tup ys => if xs.length + ys.length ≤ 100000 then some (.tup (xs ++ ys)) else none
  | .lst xs, .lst ys => if xs.length + ys.length ≤ 100000 then some (.lst (xs ++ ys)) else none
  | _, _ => none
def mulD (a b : D) (_ : Store) : Option D := match a, b with
  | .int i, .int j => if (-(2 ^ 64) < i ∧ i < 2 ^ 64) ∨ (-(2 ^ 64) < j ∧ j < 2 ^ 64) then some (.int (i * j)) else none
  | .lst xs, .int k => if -100000 ≤ k ∧ k ≤ 100000 ∧ xs.length * k.toNat ≤ 100000 then some (.lst (List.replicate k.toNat xs).flatten) else none
  | _, _ => none
def ltD (a b : D) (_ : Store) : Option D := match a, b with
  | .int i, .int j => some (.bl (decide (i < j)))
  | .str x, .str y => some (.bl (decide (x.cps.toList < y.cps.toList)))
  | _, _ => none
def leD (a b : D) (_ : Store) : Option D := match a, b with
  | .int i, .int j => some (.bl (decide (i ≤ j)))
  | .str x, .str y => some (.bl (!decide (y.cps.toList < x.cps.toList)))
  | _, _ => none
section
variable {X : Cx} {K : PySem.W.Frag} {mg : Str → Option Value}
theorem pok_I {C : Int → Int → Prop} {g : Int → Int → V} {gd : Int → Int → D} {f : D → D → Store → Option D} (hf : ∀ a b S d, f a b S = some d → ∃ i j, a = .int i ∧ b = .int j ∧ C i j ∧ d = gd i j) (hg : ∀ T H i j, Rep K T H (g i j) (gd i j)) : POk2 K mg (rI C g) f := fun T S H x y a b d Q sim rx ry e k => by
  obtain ⟨i, j, rfl, rfl, hc, rfl⟩ := hf a b S d e
  exact ⟨i, j, rx.int_of, ry.int_of, hc, k H _ (Step.refl T H) sim (hg T H i j)⟩
theorem pok_fdiv : POk2 K mg (rI CDiv fun i j => .int (i / j)) fdivD := pok_I (gd := fun i j => .int (i / j)) (fun a b S d e => by
  cases a <;> cases b <;> try cases e
  simp only [fdivD] at e
  split at e
  · rename_i h
    cases e
    exact ⟨_, _, rfl, rfl, h, rfl⟩
  · cases e) fun _ _ _ _ => .int _
theorem pok_mod : POk2 K mg (rI (fun _ j => 0 < j) fun i j => .int (i % j)) modD := pok_I (gd := fun i j => .int (i % j)) (fun a b S d e => by
  cases a <;> cases b <;> try cases e
  simp only [modD] at e
  split at e
  · rename_i h
    cases e
    exact ⟨_, _, rfl, rfl, h, rfl⟩
  · cases e) fun _ _ _ _ => .int _
theorem pok_neg : POk1 K mg (rU fun i => .int (-i)) negD := fun T S H x a d Q sim rx e k => by
  cases a <;> cases e
  exact ⟨_, rx.int_of, k H _ (Step.refl T H) sim (.int _)⟩
def rAddA (K : PySem.W.Frag) : R2 := fun x y H Q => (∃ i j, x = .int i ∧ y = .int j ∧ Q (.int (i + j)) H) ∨ (∃ i j, x = .str i ∧ y = .str j ∧ i.length + j.length ≤ sizeLine ∧ Q (.str (i ++ j)) H) ∨ rCatA K x y H Q ∨ rCat x y H Q
theorem op_addA : OpR X (binaryOp .Add) (rAddA X.K) := op_add.or (op_add_str.or (op_catA.or op_cat))
theorem pok_add : POk2 K mg (rAddA K) addD := fun T S H x y a b d Q sim rx ry e k => by
  cases rx <;> cases ry <;> try cases e
  · exact .inl ⟨_, _, rfl, rfl, k H _ (Step.refl T H) sim (.int _)⟩
  · simp only [addD] at e
    split at e
    · rename_i h
      cases e
      exact .inr (.inl ⟨_, _, rfl, rfl, sz5 h, k H _ (Step.refl T H) sim (.str _)⟩)
    · cases e
  · rename_i a1 xs ds h1 n1 r1 a2 ys es h2 n2 r2
    simp only [addD] at e
    split at e
    · rename_i hz
      cases e
      have hz' : xs.length + ys.length ≤ sizeLine := by rw [r1.length, r2.length]; exact sz5 hz
      refine .inr (.inr (.inl ⟨a1, a2, xs, ys, rfl, rfl, SqT.of h1, SqT.of h2, hz', fun q => ?_, fun q1 q2 => ?_, fun q1 q2 p hp => ?_⟩))
      · subst q
        cases r1
        exact k H _ (Step.refl T H) sim (.tup h2 n2 r2)
      · subst q2
        cases r2
        rw [List.append_nil] at k
        exact k H _ (Step.refl T H) sim (.tup h1 n1 r1)
      · have st := sim.stepNew (o := .tup (xs ++ ys)) hp
        exact k _ _ st (sim.new hp (hlen_tup sim.hl (by rw [List.length_append]; exact hz'))) (.tup upd_same (sim.off hp) (RepL.append (r1.step st) (r2.step st)))
    · cases e
  · rename_i a1 xs ds h1 n1 r1 a2 ys es h2 n2 r2
    simp only [addD] at e
    split at e
    · rename_i hz
      cases e
      have hz' : xs.length + ys.length ≤ sizeLine := by rw [r1.length, r2.length]; exact sz5 hz
      refine .inr (.inr (.inr ⟨a1, a2, xs, ys, rfl, rfl, h1, h2, hz', fun p hp => ?_⟩))
      have st := sim.stepNew (o := .lst (xs ++ ys)) hp
      exact k _ _ st (sim.new hp (hlen_lst sim.hl (by rw [List.length_append]; exact hz'))) (.lst upd_same (sim.off hp) (RepL.append (r1.step st) (r2.step st)))
    · cases e
def rMulA : R2 := fun x y H Q => rI CMul (fun i j => .int (i * j)) x y H Q ∨ rRep x y H Q
theorem op_mulA : OpR X (binaryOp .Mult) rMulA := op_mul.or op_rep
theorem flat_len {α : Type} (xs : List α) : ∀ k : Nat, (List.replicate k xs).flatten.length = xs.length * k
  | 0 => rfl
  | k + 1 => by
    rw [List.replicate_succ, List.flatten_cons, List.length_append, flat_len xs k, Nat.mul_succ, Nat.add_comm]
theorem pok_mul : POk2 K mg rMulA mulD := fun T S H x y a b d Q sim rx ry e k => by
  cases rx <;> cases ry <;> try cases e
  · simp only [mulD] at e
    split at e
    · rename_i h
      cases e
      exact .inl ⟨_, _, rfl, rfl, h, k H _ (Step.refl T H) sim (.int _)⟩
    · cases e
  · rename_i a1 xs ds h1 n1 r1 i
    simp only [mulD] at e
    split at e
    · rename_i hz
      cases e
      have hz' : xs.length * i.toNat ≤ sizeLine := by rw [r1.length]; exact sz5 hz.2.2
      refine .inr ⟨a1, i, xs, rfl, rfl, h1, by omega, by omega, hz', fun p hp => ?_⟩
      have st := sim.stepNew (o := .lst (List.replicate i.toNat xs).flatten) hp
      exact k _ _ st (sim.new hp (hlen_lst sim.hl (by rw [flat_len]; exact hz'))) (.lst upd_same (sim.off hp) ((r1.step st).rep i.toNat))
    · cases e
def rLtA (K : PySem.W.Frag) : R2 := fun x y H Q => (∃ i j, x = .int i ∧ y = .int j ∧ Q (.bl (decide (i < j))) H) ∨ (∃ i j, x = .str i ∧ y = .str j ∧ Q (.bl (decide (i.cps.toList < j.cps.toList))) H)
theorem op_ltA : OpR X (compareOp .Lt) (rLtA X.K) := op_lt.or op_lt_str
theorem pok_lt : POk2 K mg (rLtA K) ltD := fun T S H x y a b d Q sim rx ry e k => by
  cases rx <;> cases ry <;> cases e
  · exact .inl ⟨_, _, rfl, rfl, k H _ (Step.refl T H) sim (.bl _)⟩
  · exact .inr ⟨_, _, rfl, rfl, k H _ (Step.refl T H) sim (.bl _)⟩
def rLeA (K : PySem.W.Frag) : R2 := fun x y H Q => (∃ i j, x = .int i ∧ y = .int j ∧ Q (.bl (decide (i ≤ j))) H) ∨ (∃ i j, x = .str i ∧ y = .str j ∧ Q (.bl (!decide (j.cps.toList < i.cps.toList))) H)
theorem op_leA : OpR X (compareOp .LtE) (rLeA X.K) := op_le.or op_le_str
theorem pok_le : POk2 K mg (rLeA K) leD := fun T S H x y a b d Q sim rx ry e k => by
  cases rx <;> cases ry <;> cases e
  · exact .inl ⟨_, _, rfl, rfl, k H _ (Step.refl T H) sim (.bl _)⟩
  · exact .inr ⟨_, _, rfl, rfl, k H _ (Step.refl T H) sim (.bl _)⟩
end
mutual
def pyD : D → PyData
  | .non => .none
  | .bl b => .bool b
  | .int i => .int i
  | .str x => .str x
  | .tup xs => .tuple (pyDs xs)
  | .lst xs => .list (pyDs xs)
  | .scr _ => .none
  | .dct _ => .none
  | .dtt _ => .none
  | .dpr _ _ => .none
  | .adr _ => .none
  | .loc _ => .none
  | .ty _ => .none
  | .tux _ => .none
def pyDs : List D → List PyData
  | [] => []
  | d :: ds => pyD d :: pyDs ds
end
mutual
def dat : D → Bool
  | .non => true
  | .bl _ => true
  | .int _ => true
  | .str _ => true
  | .tup xs => dats xs
  | .lst xs => dats xs
  | .scr _ => false
  | .dct _ => false
  | .dtt _ => false
  | .dpr _ _ => false
  | .adr _ => false
  | .loc _ => false
  | .ty _ => false
  | .tux _ => false
def dats : List D → Bool
  | [] => true
  | d :: ds => dat d && dats ds
end
theorem pyDs_map : ∀ ds : List D, pyDs ds = ds.map pyD
  | [] => rfl
  | d :: ds => by
    show pyD d :: pyDs ds = _
    rw [pyDs_map ds]
    rfl
section
variable {K : PySem.W.Frag} {T : Tb} {H : Hp}
mutual
theorem Rep.dp : ∀ {v : V} {d : D}, Rep K T H v d → dat d = true → Dp K H v (pyD d)
  | _, _, .non, _ => .non
  | _, _, .bl b, _ => .bl b
  | _, _, .int i, _ => .int i
  | _, _, .str x, _ => .str x
  | _, _, .tup h n r, c => .tup (SqT.of h) (RepL.dp r c)
  | _, _, .lst h n r, c => .lst (SqL.of h) (RepL.dp r c)
  | _, _, .scr h, c => by cases c
  | _, _, .dct h n e r, c => by cases c
  | _, _, .dtt h n e r, c => by cases c
  | _, _, .adr _, c => by cases c
  | _, _, .dpr _ _ _ _ _, c => by cases c
  | _, _, .loc h, c => by cases c
  | _, _, .ty h, c => by cases c
  | _, _, .tux _ _ _ _, c => by cases c
theorem RepL.dp : ∀ {vs : List V} {ds : List D}, RepL K T H vs ds → dats ds = true → DpAll K H vs (pyDs ds)
  | _, _, .nil, _ => .nil
  | _, _, @RepL.cons _ _ _ v vs d ds h r, c => by
    have c : (dat d && dats ds) = true := c
    rw [Bool.and_eq_true] at c
    exact .cons (Rep.dp h c.1) (RepL.dp r c.2)
end
end
def okD (d : D) : Bool := dat d && SeqAt.shaped (pyD d)
def eqvD (a b : D) : Bool := PyData.eqv (pyD a) (pyD b)
def now (d : D) (S : Store) : D := match d with
  | .loc n => match S[n]? with
    | some (.lst xs) => .lst xs
    | _ => .loc n
  | d => d
def eqO (a b : D) : Option Bool := match a, b with
  | .int i, .int j => some (decide (i = j))
  | .str x, .str y => some (decide (x = y))
  | .bl x, .bl y => some (decide (x = y))
  | a, b => if okD a = true ∧ okD b = true then some (eqvD a b) else none
def eqD (a b : D) (S : Store) : Option D := (eqO (now a S) (now b S)).map .bl
def neD (a b : D) (S : Store) : Option D := (eqO (now a S) (now b S)).map fun k => .bl (!k)
section
variable {X : Cx} {K : PySem.W.Frag} {mg : Str → Option Value}
def rEqA (K : PySem.W.Frag) : R2 := fun x y H Q => rEq x y H Q ∨ rEqD K x y H Q
def rNeA (K : PySem.W.Frag) : R2 := fun x y H Q => rNe x y H Q ∨ rNeD K x y H Q
theorem op_eqA (hu : X.A.units + 64 < cLine) : OpR X (compareOp .Eq) (rEqA X.K) := op_eq.or (op_eqD hu)
theorem op_neA (hu : X.A.units + 64 < cLine) : OpR X (compareOp .NotEq) (rNeA X.K) := op_ne.or (op_neD hu)
theorem now_dp {T : Tb} {S : Store} {H : Hp} {v : V} {d : D} (sim : Sim K mg T S H) (h : Rep K T H v d) (c : dat (now d S) = true) : Dp K H v (pyD (now d S)) := by
  cases d with
  | loc n =>
    simp only [now] at c ⊢
    split at c
    · rename_i xs e
      cases h with
      | loc hn =>
        obtain ⟨ys, q1, q2⟩ := sim.obj _ _ _ hn e
        exact .lst (SqL.of q1) (q2.dp c)
    · cases c
  | _ => exact h.dp c
theorem now_int {T : Tb} {S : Store} {H : Hp} {v : V} {d : D} {i : Int} (h : Rep K T H v d) (e : now d S = .int i) : v = .int i := by
  cases d with
  | loc n =>
    simp only [now] at e
    split at e <;> cases e
  | int j => cases e; exact h.int_of
  | _ => cases e
theorem now_str {T : Tb} {S : Store} {H : Hp} {v : V} {d : D} {i : Str} (h : Rep K T H v d) (e : now d S = .str i) : v = .str i := by
  cases d with
  | loc n =>
    simp only [now] at e
    split at e <;> cases e
  | str j => cases e; exact h.str_of
  | _ => cases e
theorem now_bl {T : Tb} {S : Store} {H : Hp} {v : V} {d : D} {i : Bool} (h : Rep K T H v d) (e : now d S = .bl i) : v = .bl i := by
  cases d with
  | loc n =>
    simp only [now] at e
    split at e <;> cases e
  | bl j => cases e; exact h.bl_of
  | _ => cases e
theorem eqO_cases {T : Tb} {S : Store} {H : Hp} {x y : V} {a b : D} {k : Bool} (sim : Sim K mg T S H) (rx : Rep K T H x a) (ry : Rep K T H y b) (e : eqO (now a S) (now b S) = some k) :
    (scal x y = true ∧ k = decide (x = y)) ∨ (∃ d1 d2, Dp K H x d1 ∧ Dp K H y d2 ∧ SeqAt.shaped d1 = true ∧ SeqAt.shaped d2 = true ∧ k = PyData.eqv d1 d2) := by
  unfold eqO at e
  split at e
  · rename_i i j e1 e2
    cases e
    rw [now_int rx e1, now_int ry e2]
    exact .inl ⟨rfl, by rw [dec_int, Bool.beq_eq_decide_eq]⟩
  · rename_i i j e1 e2
    cases e
    rw [now_str rx e1, now_str ry e2]
    exact .inl ⟨rfl, by rw [dec_str, Bool.beq_eq_decide_eq]⟩
  · rename_i i j e1 e2
    cases e
    rw [now_bl rx e1, now_bl ry e2]
    exact .inl ⟨rfl, by rw [dec_bl, Bool.beq_eq_decide_eq]⟩
  · split at e
    · rename_i h
      cases e
      have h1 := h.1
      have h2 := h.2
      unfold okD at h1 h2
      rw [Bool.and_eq_true] at h1 h2
      exact .inr ⟨_, _, now_dp sim rx h1.1, now_dp sim ry h2.1, h1.2, h2.2, rfl⟩
    · cases e
theorem pok_eq : POk2 K mg (rEqA K) eqD := fun T S H x y a b d Q sim rx ry e k => by
  unfold eqD at e
  cases q : eqO (now a S) (now b S) with
  | none => rw [q] at e; cases e
  | some t =>
    rw [q] at e
    cases e
    have kk := k H (.bl t) (Step.refl T H) sim (.bl t)
    rcases eqO_cases sim rx ry q with ⟨h1, h2⟩ | ⟨d1, d2, h1, h2, h3, h4, h5⟩
    · exact .inl ⟨h1, by rw [← h2]; exact kk⟩
    · exact .inr ⟨d1, d2, h1, h2, h3, h4, by rw [← h5]; exact kk⟩
theorem pok_ne : POk2 K mg (rNeA K) neD := fun T S H x y a b d Q sim rx ry e k => by
  unfold neD at e
  cases q : eqO (now a S) (now b S) with
  | none => rw [q] at e; cases e
  | some t =>
    rw [q] at e
    cases e
    have kk := k H (.bl (!t)) (Step.refl T H) sim (.bl (!t))
    rcases eqO_cases sim rx ry q with ⟨h1, h2⟩ | ⟨d1, d2, h1, h2, h3, h4, h5⟩
    · exact .inl ⟨h1, by rw [← h2]; exact kk⟩
    · exact .inr ⟨d1, d2, h1, h2, h3, h4, by rw [← h5]; exact kk⟩
end
def isND (a b : D) (_ : Store) : Option D := match a, b with
  | .non, .non => some (.bl true)
  | _, .non => some (.bl false)
  | _, _ => none
def inO (a b : D) : Option Bool := match b with
  | .lst xs => if okD a = true ∧ okD (.lst xs) = true then some (xs.any fun z => eqvD z a) else none
  | _ => none
def inD (a b : D) (S : Store) : Option D := (inO (now a S) (now b S)).map .bl
def ninD (a b : D) (S : Store) : Option D := (inO (now a S) (now b S)).map fun k => .bl (!k)
section
variable {X : Cx} {K : PySem.W.Frag} {mg : Str → Option Value}
theorem pok_isN : POk2 K mg (fun x y H Q => y = .non ∧ Q (.bl (decide (x = .non))) H) isND := fun T S H x y a b d Q sim rx ry e k => by
  cases ry <;> cases rx <;> cases e <;> exact ⟨rfl, k H _ (Step.refl T H) sim (.bl _)⟩
theorem inO_cases {T : Tb} {S : Store} {H : Hp} {x y : V} {a b : D} {k : Bool} (sim : Sim K mg T S H) (rx : Rep K T H x a) (ry : Rep K T H y b) (e : inO (now a S) (now b S) = some k) :
    ∃ d ds, Dp K H x d ∧ Dp K H y (.list ds) ∧ SeqAt.shaped d = true ∧ SeqAt.shaped (.list ds) = true ∧ k = ds.any fun z => PyData.eqv z d := by
  unfold inO at e
  split at e
  · rename_i xs e2
    split at e
    · rename_i h
      cases e
      have h1 := h.1
      have h2 := h.2
      rw [← e2] at h2
      unfold okD at h1 h2
      rw [Bool.and_eq_true] at h1 h2
      have q := now_dp sim ry h2.1
      have q2 := h2.2
      rw [e2] at q q2
      refine ⟨_, _, now_dp sim rx h1.1, q, h1.2, q2, ?_⟩
      rw [pyDs_map, List.any_map]
      rfl
    · cases e
  · cases e
theorem pok_in : POk2 K mg (rInD K) inD := fun T S H x y a b d Q sim rx ry e k => by
  unfold inD at e
  cases q : inO (now a S) (now b S) with
  | none => rw [q] at e; cases e
  | some t =>
    rw [q] at e
    cases e
    obtain ⟨d, ds, h1, h2, h3, h4, h5⟩ := inO_cases sim rx ry q
    exact ⟨d, ds, h1, h2, h3, h4, by rw [← h5]; exact k H _ (Step.refl T H) sim (.bl _)⟩
theorem pok_nin : POk2 K mg (rNotInD K) ninD := fun T S H x y a b d Q sim rx ry e k => by
  unfold ninD at e
  cases q : inO (now a S) (now b S) with
  | none => rw [q] at e; cases e
  | some t =>
    rw [q] at e
    cases e
    obtain ⟨d, ds, h1, h2, h3, h4, h5⟩ := inO_cases sim rx ry q
    exact ⟨d, ds, h1, h2, h3, h4, by rw [← h5]; exact k H _ (Step.refl T H) sim (.bl _)⟩
end
end Dv
namespace Dv
open PySem L2
def lenD (ds : List D) (S : Store) : Option D := match ds with
  | [.lst xs] => some (.int xs.length)
  | [.tup xs] => some (.int xs.length)
  | [.scr xs] => some (.int xs.length)
  | [.str x] => if x.length ≤ 100000 then some (.int x.length) else none
  | [.loc n] => match S[n]? with
    | some (.lst xs) => some (.int xs.length)
    | _ => none
  | _ => none
def absD (ds : List D) (_ : Store) : Option D := match ds with
  | [.int i] => some (.int (if i < 0 then -i else i))
  | _ => none
def intD (ds : List D) (_ : Store) : Option D := match ds with
  | [.int i] => some (.int i)
  | [.bl b] => some (.int (if b = true then 1 else 0))
  | _ => none
def intsOf : List D → Option (List Int)
  | [] => some []
  | .int i :: ds => (intsOf ds).map (i :: ·)
  | _ :: _ => none
def blsOf : List D → Option (List Bool)
  | [] => some []
  | .bl i :: ds => (blsOf ds).map (i :: ·)
  | _ :: _ => none
theorem intsOf_map : ∀ ns : List Int, intsOf (ns.map D.int) = some ns
  | [] => rfl
  | n :: ns => by
    show (intsOf (ns.map D.int)).map (n :: ·) = _
    rw [intsOf_map ns]
    rfl
theorem intsOf_some : ∀ {ds : List D} {ns : List Int}, intsOf ds = some ns → ds = ns.map D.int
  | [], _, e => by cases e; rfl
  | d :: ds, ns, e => by
    cases d <;> try cases e
    simp only [intsOf] at e
    cases q : intsOf ds with
    | none => rw [q] at e; cases e
    | some ms =>
      rw [q] at e
      cases e
      rw [intsOf_some q]
      rfl
theorem blsOf_map : ∀ ns : List Bool, blsOf (ns.map D.bl) = some ns
  | [] => rfl
  | n :: ns => by
    show (blsOf (ns.map D.bl)).map (n :: ·) = _
    rw [blsOf_map ns]
    rfl
theorem blsOf_some : ∀ {ds : List D} {ns : List Bool}, blsOf ds = some ns → ds = ns.map D.bl
  | [], _, e => by cases e; rfl
  | d :: ds, ns, e => by
    cases d <;> try cases e
    simp only [blsOf] at e
    cases q : blsOf ds with
    | none => rw [q] at e; cases e
    | some ms =>
      rw [q] at e
      cases e
      rw [blsOf_some q]
      rfl
def maxI : List Int → Option Int
  | [] => none
  | [x] => some x
  | x :: xs => (maxI xs).map fun m => if m < x then x else m
theorem maxI_ok : ∀ {ns : List Int} {m : Int}, maxI ns = some m → m ∈ ns ∧ ∀ y ∈ ns, y ≤ m
  | [], _, e => by cases e
  | [x], m, e => by
    cases e
    exact ⟨List.mem_singleton.mpr rfl, fun y hy => by rw [List.mem_singleton.mp hy]; exact Int.le_refl _⟩
  | x :: y :: xs, m, e => by
    simp only [maxI] at e
    cases q : maxI (y :: xs) with
    | none => rw [show (maxI (y :: xs)) = none from q] at e; cases e
    | some k =>
      have e : (maxI (y :: xs)).map (fun m => if m < x then x else m) = some m := e
      rw [q] at e
      obtain ⟨h1, h2⟩ := maxI_ok q
      cases e
      show (if k < x then x else k) ∈ x :: y :: xs ∧ ∀ z ∈ x :: y :: xs, z ≤ (if k < x then x else k)
      by_cases hk : k < x
      · rw [if_pos hk]
        exact ⟨List.mem_cons_self, fun z hz => (List.mem_cons.mp hz).elim (fun e => by rw [e]; exact Int.le_refl _) fun hz => Int.le_trans (h2 z hz) (Int.le_of_lt hk)⟩
      · rw [if_neg hk]
        exact ⟨List.mem_cons_of_mem _ h1, fun z hz => (List.mem_cons.mp hz).elim (fun e => by rw [e]; omega) fun hz => h2 z hz⟩
def maxD (ds : List D) (_ : Store) : Option D := match ds with
  | [.lst xs] => ((intsOf xs).bind maxI).map .int
  | _ => none
def allD (ds : List D) (_ : Store) : Option D := match ds with
  | [.lst xs] => (blsOf xs).map fun ns => .bl (ns.all id)
  | _ => none
def tupD (ds : List D) (S : Store) : Option D := match ds with
  | [.lst xs] => some (.tup xs)
  | [.tup xs] => some (.tup xs)
  | [.loc n] => match S[n]? with
    | some (.lst xs) => some (.tup xs)
    | _ => none
  | _ => none
section
variable {X : Cx} {K : PySem.W.Frag} {mg : Str → Option Value}
theorem RepL.one {T : Tb} {H : Hp} {vs : List V} {d : D} (h : RepL K T H vs [d]) : ∃ v, vs = [v] ∧ Rep K T H v d := by
  cases h with
  | cons r q =>
    cases q
    exact ⟨_, rfl, r⟩
theorem pok_len : POk K mg (fun xs H Q => ∃ x n, xs = [x] ∧ LenV K x H n ∧ Q (.int n) H) lenD := fun T S H vs ds d Q sim rep e k => by
  unfold lenD at e
  split at e
  · rename_i xs
    cases e
    obtain ⟨v, rfl, r⟩ := rep.one
    cases r with
    | lst h n q => exact ⟨_, _, rfl, .inl ⟨_, SqL.of h, q.length.symm⟩, k H _ (Step.refl T H) sim (.int _)⟩
  · rename_i xs
    cases e
    obtain ⟨v, rfl, r⟩ := rep.one
    cases r with
    | tup h n q => exact ⟨_, _, rfl, .inr ⟨_, SqT.of h, q.length.symm⟩, k H _ (Step.refl T H) sim (.int _)⟩
  · rename_i xs
    cases e
    obtain ⟨v, rfl, r⟩ := rep.one
    cases r with
    | scr h => exact ⟨_, _, rfl, .inl ⟨_, h.sq, (List.length_map ..).symm⟩, k H _ (Step.refl T H) sim (.int _)⟩
  · rename_i x
    obtain ⟨v, rfl, r⟩ := rep.one
    split at e
    · rename_i hz
      cases e
      cases r
      exact ⟨_, _, rfl, ⟨sz5 hz, rfl⟩, k H _ (Step.refl T H) sim (.int _)⟩
    · cases e
  · rename_i n
    obtain ⟨v, rfl, r⟩ := rep.one
    split at e
    · rename_i xs q
      cases e
      cases r with
      | loc hn =>
        obtain ⟨ys, q1, q2⟩ := sim.obj _ _ _ hn q
        exact ⟨_, _, rfl, .inl ⟨_, SqL.of q1, q2.length.symm⟩, k H _ (Step.refl T H) sim (.int _)⟩
    · cases e
  · cases e
theorem pok_abs : POk K mg (fun xs H Q => ∃ i, xs = [.int i] ∧ Q (.int (if i < 0 then -i else i)) H) absD := fun T S H vs ds d Q sim rep e k => by
  unfold absD at e
  split at e
  · cases e
    obtain ⟨v, rfl, r⟩ := rep.one
    exact ⟨_, by rw [r.int_of], k H _ (Step.refl T H) sim (.int _)⟩
  · cases e
theorem pok_int : POk K mg (fun xs H Q => (∃ i, xs = [.int i] ∧ Q (.int i) H) ∨ ∃ k, xs = [.bl k] ∧ Q (.int (if k then 1 else 0)) H) intD := fun T S H vs ds d Q sim rep e k => by
  unfold intD at e
  split at e
  · cases e
    obtain ⟨v, rfl, r⟩ := rep.one
    exact .inl ⟨_, by rw [r.int_of], k H _ (Step.refl T H) sim (.int _)⟩
  · cases e
    obtain ⟨v, rfl, r⟩ := rep.one
    exact .inr ⟨_, by rw [r.bl_of], k H _ (Step.refl T H) sim (.int _)⟩
  · cases e
theorem pok_max : POk K mg (rMax K) maxD := fun T S H vs ds d Q sim rep e k => by
  unfold maxD at e
  split at e
  · rename_i xs
    obtain ⟨v, rfl, r⟩ := rep.one
    cases q : intsOf xs with
    | none => rw [q] at e; cases e
    | some ns =>
      rw [q] at e
      have e : (maxI ns).map D.int = some d := e
      cases q2 : maxI ns with
      | none => rw [q2] at e; cases e
      | some m =>
        rw [q2] at e
        cases e
        have e3 := intsOf_some q
        subst e3
        obtain ⟨h1, h2⟩ := maxI_ok q2
        cases r with
        | lst h n r =>
          rw [r.of_ints] at h
          refine ⟨_, ns, rfl, SqL.of h, List.length_pos_of_mem h1, fun m' h3 h4 => ?_⟩
          have e5 : m' = m := Int.le_antisymm (h2 m' h3) (h4 m h1)
          subst e5
          exact k H _ (Step.refl T H) sim (.int _)
  · cases e
theorem pok_all : POk K mg (rAll K) allD := fun T S H vs ds d Q sim rep e k => by
  unfold allD at e
  split at e
  · rename_i xs
    obtain ⟨v, rfl, r⟩ := rep.one
    cases q : blsOf xs with
    | none => rw [q] at e; cases e
    | some ns =>
      rw [q] at e
      cases e
      have e3 := blsOf_some q
      subst e3
      cases r with
      | lst h n r =>
        rw [r.of_bls] at h
        exact ⟨_, ns, rfl, SqL.of h, k H _ (Step.refl T H) sim (.bl _)⟩
  · cases e
theorem pok_tup : POk K mg (fun xs H Q => ∃ p ys, xs = [.ref p] ∧ ((SqL K H p ys ∧ ∀ l, H l = none → Q (.ref l) (upd H l (.tup ys))) ∨ (SqT K H p ys ∧ Q (.ref p) H))) tupD := fun T S H vs ds d Q sim rep e k => by
  have mk : ∀ {a : Addr} {xs : List V} {es : List D}, H a = some (.lst xs) → RepL K T H xs es → d = .tup es → ∃ p ys, [V.ref a] = [.ref p] ∧ ((SqL K H p ys ∧ ∀ l, H l = none → Q (.ref l) (upd H l (.tup ys))) ∨ (SqT K H p ys ∧ Q (.ref p) H)) := fun {a xs es} h r ed => by
    subst ed
    refine ⟨a, xs, rfl, .inl ⟨SqL.of h, fun p hp => ?_⟩⟩
    have st := sim.stepNew (o := .tup xs) hp
    exact k _ _ st (sim.new hp (hlen_tup sim.hl (sim.hl _ _ (.inl (.inl h))))) (.tup upd_same (sim.off hp) (r.step st))
  unfold tupD at e
  split at e
  · cases e
    obtain ⟨v, rfl, r⟩ := rep.one
    cases r with
    | lst h n r => exact mk h r rfl
  · cases e
    obtain ⟨v, rfl, r⟩ := rep.one
    cases r with
    | tup h n r => exact ⟨_, _, rfl, .inr ⟨SqT.of h, k H _ (Step.refl T H) sim (.tup h n r)⟩⟩
  · obtain ⟨v, rfl, r⟩ := rep.one
    split at e
    · rename_i xs q
      cases e
      cases r with
      | loc hn =>
        obtain ⟨ys, q1, q2⟩ := sim.obj _ _ _ hn q
        exact mk q1 q2 rfl
    · cases e
  · cases e
end
def tyN (d : D) : Option String := match d with
  | .non => some "NoneType"
  | .bl _ => some "bool"
  | .int _ => some "int"
  | .str _ => some "str"
  | .tup _ => some "tuple"
  | .lst _ => some "list"
  | _ => none
def isiD (ds : List D) (_ : Store) : Option D := match ds with
  | [d, .ty n] => ((tyN d).bind fun t => kitB t n).map .bl
  | _ => none
section
variable {X : Cx} {K : PySem.W.Frag} {mg : Str → Option Value} {Wx : WX}
theorem Rep.tyx {T : Tb} {H : Hp} {v : V} {d : D} {t : String} (h : Rep K T H v d) (e : tyN d = some t) : TyX K H v (.type t) := by
  cases h <;> cases e
  · exact .base .non
  · exact .base (.bl _)
  · exact .base (.int _)
  · exact .base (.str _)
  · rename_i h n r
    exact .base (.tup h)
  · rename_i h n r
    exact .base (.lst h)
theorem pok_isi : POk K mg (rIsi K) isiD := fun T S H vs ds d Q sim rep e k => by
  unfold isiD at e
  split at e
  · rename_i x n
    cases rep with
    | cons r1 q =>
      cases q with
      | cons r2 q =>
        cases q
        cases q1 : tyN x with
        | none => rw [q1] at e; cases e
        | some t =>
          rw [q1] at e
          have e : (kitB t n).map D.bl = some d := e
          cases q2 : kitB t n with
          | none => rw [q2] at e; cases e
          | some b =>
            rw [q2] at e
            cases e
            cases r2
            exact ⟨_, _, _, _, b, rfl, .ty n, r1.tyx q1, kit_ty q2, k H _ (Step.refl T H) sim (.bl _)⟩
  · cases e
theorem j_ty {x : Str} {n : String} {pos : Pos} (hg : Gl X x) (hm : X.mg x = none) (hv : bootBuiltins x = some (.type n)) (hn : x ≠ "__name__" := by decide) (hd : (x == ("__debug__" : Str)) = false := by decide) : PE X (.Name x pos) (tD X.K X.mg Wx (mC (.ty n))) :=
  j_c (pe_bltn (v := .ty n) hg hm hv rfl hn hd) fun _ _ => .ty n
end
def ixD (a b : D) (S : Store) : Option D := match a, b with
  | .lst xs, .int i => atI xs i
  | .tup xs, .int i => atI xs i
  | .scr ns, .int i => (atI ns i).map .int
  | .str x, .int i => if x.length ≤ 100000 then (atI x.cps.toList i).map chD else none
  | .loc n, .int i => match S[n]? with
    | some (.lst xs) => atI xs i
    | _ => none
  | _, _ => none
section
variable {X : Cx} {K : PySem.W.Frag} {mg : Str → Option Value} {Wx : WX}
theorem atI_rep {T : Tb} {H : Hp} {vs : List V} {ds : List D} {i : Int} {d : D} (h : RepL K T H vs ds) (e : atI ds i = some d) : ∃ v, atI vs i = some v ∧ Rep K T H v d := by
  unfold atI at e ⊢
  rw [h.length]
  cases q : ixN ds.length i with
  | none => rw [q] at e; cases e
  | some j =>
    rw [q] at e
    exact h.get e
theorem atI_map {α β : Type} (f : α → β) (xs : List α) (i : Int) : atI (xs.map f) i = (atI xs i).map f := by
  unfold atI
  rw [List.length_map]
  cases ixN xs.length i with
  | none => rfl
  | some j => exact List.getElem?_map
theorem pok_ix : POk2 K mg (rIx K) ixD := fun T S H x y a b d Q sim rx ry e k => by
  cases ry <;> try (cases a <;> cases e)
  rename_i i
  cases rx <;> try cases e
  · rename_i x
    simp only [ixD] at e
    split at e
    · rename_i hz
      cases q : atI x.cps.toList i with
      | none => rw [q] at e; cases e
      | some c =>
        rw [q] at e
        cases e
        exact .inr (.inr ⟨x, i, c, rfl, rfl, sz5 hz, q, k H _ (Step.refl T H) sim (.str _)⟩)
    · cases e
  · rename_i a xs ds h n r
    obtain ⟨v, h1, h2⟩ := atI_rep r e
    exact .inr (.inl ⟨a, xs, i, v, rfl, rfl, SqT.of h, h1, k H _ (Step.refl T H) sim h2⟩)
  · rename_i a xs ds h n r
    obtain ⟨v, h1, h2⟩ := atI_rep r e
    exact .inl ⟨a, xs, i, v, rfl, rfl, SqL.of h, h1, k H _ (Step.refl T H) sim h2⟩
  · rename_i a ns h
    simp only [ixD] at e
    cases q : atI ns i with
    | none => rw [q] at e; cases e
    | some c =>
      rw [q] at e
      cases e
      exact .inl ⟨a, _, i, .int c, rfl, rfl, h.sq, by rw [atI_map, q]; rfl, k H _ (Step.refl T H) sim (.int _)⟩
  · rename_i a n hn
    simp only [ixD] at e
    split at e
    · rename_i xs q
      obtain ⟨ys, q1, q2⟩ := sim.obj _ _ _ hn q
      obtain ⟨v, h1, h2⟩ := atI_rep q2 e
      exact .inl ⟨a, ys, i, v, rfl, rfl, SqL.of q1, h1, k H _ (Step.refl T H) sim h2⟩
    · cases e
end
abbrev OM := Env → Store → R (Option Int)
def mNoP : OM := fun _ S => .ok none S
def mP (m : EM) : OM := fun r S => (m r S).bind fun d S1 => match d with
  | .int i => .ok (some i) S1
  | _ => .bad
def cutL {α : Type} (xs : List α) (lo hi : Option Int) : List α := (xs.drop (HT.sIx xs.length 0 lo)).take (HT.sIx xs.length xs.length hi - HT.sIx xs.length 0 lo)
def slD (d : D) (lo hi : Option Int) (S : Store) : Option D := match d with
  | .lst xs => some (.lst (cutL xs lo hi))
  | .tup xs => some (.tup (cutL xs lo hi))
  | .loc n => match S[n]? with
    | some (.lst xs) => some (.lst (cutL xs lo hi))
    | _ => none
  | _ => none
def mSl (m : EM) (ml mh : OM) : EM := fun r S => (m r S).bind fun d S1 => (ml r S1).bind fun lo S2 => (mh r S2).bind fun hi S3 => ofO (slD d lo hi S3) S3
def tDO (K : PySem.W.Frag) (mg : Str → Option Value) (Wx : WX) (m : OM) : TO := fun g H Q => ∃ T r S, RepSt K T H r g ∧ Sim K mg T S H ∧ Out K mg Wx (fun _ _ v d => v = d) T g H (m r S) Q
section
variable {X : Cx} {K : PySem.W.Frag} {mg : Str → Option Value} {Wx : WX} {e : Expr} {m : EM} {ml mh : OM} {pos p2 : Pos} {lo hi : Option Expr}
theorem po_imp {e : Option Expr} {t t' : TO} (h : PO X e t) (i : ∀ g H Q, t' g H Q → t g H Q) : PO X e t' := ⟨fun pins s g H Q I w => h.run pins s g H Q I (i g H Q w)⟩
theorem jo_none : PO X none (tDO X.K X.mg Wx mNoP) := po_imp po_none fun g H Q h => by
  obtain ⟨T, r, S, rs, sim, h⟩ := h
  exact h T H none (Step.refl T H) sim rfl
theorem jo_some (h : PE X e (tD X.K X.mg Wx m)) : PO X (some e) (tDO X.K X.mg Wx (mP m)) := po_imp (po_some h) fun g H Q h => by
  obtain ⟨T, r, S, rs, sim, h⟩ := h
  refine ⟨T, r, S, rs, sim, Out.bind h fun d S1 T1 H1 v st sim1 rel h1 => ?_⟩
  cases d with
  | int i =>
    rw [rel.int_of]
    exact ⟨i, rfl, h1 T1 H1 _ (Step.refl T1 H1) sim1 rfl⟩
  | _ => exact h1.elim
theorem cut_rep {T : Tb} {H : Hp} {vs : List V} {ds : List D} (lo hi : Option Int) (h : RepL K T H vs ds) : RepL K T H (cutV vs lo hi) (cutL ds lo hi) := by
  unfold cutV cutL
  rw [h.length]
  exact (h.drop _).take _
theorem cut_whole {α : Type} {xs : List α} {lo hi : Option Int} (h : HT.sIx xs.length 0 lo = 0 ∧ HT.sIx xs.length xs.length hi = xs.length) : cutL xs lo hi = xs := by
  unfold cutL
  rw [h.1, h.2, Nat.sub_zero, List.drop_zero, List.take_length]
def rSlB (K : PySem.W.Frag) : V → Option Int → Option Int → Hp → VK → Prop := fun x lo hi H Q => rSlL K x lo hi H Q ∨ rSlA K x lo hi H Q
theorem sl_B : SlR X (rSlB X.K) := sl_list.or sl_tupA
theorem sl_ok {T : Tb} {S : Store} {H : Hp} {v : V} {d d' : D} {lo hi : Option Int} {Q : VK} (sim : Sim K mg T S H) (h : Rep K T H v d) (e : slD d lo hi S = some d') (k : ∀ H' v, Step T H T H' → Sim K mg T S H' → Rep K T H' v d' → Q v H') : rSlB K v lo hi H Q := by
  have mk : ∀ {a : Addr} {xs : List V} {es : List D}, H a = some (.lst xs) → RepL K T H xs es → d' = .lst (cutL es lo hi) → rSlB K (.ref a) lo hi H Q := fun {a xs es} h r ed => by
    subst ed
    refine .inl ⟨a, xs, rfl, SqL.of h, fun p hp => ?_⟩
    have st := sim.stepNew (o := .lst (cutV xs lo hi)) hp
    exact k _ _ st (sim.new hp (hlen_lst sim.hl (Nat.le_trans (cutV_length _ _ _) (sim.hl _ _ (.inl (.inl h)))))) (.lst upd_same (sim.off hp) ((cut_rep lo hi r).step st))
  cases h <;> try cases e
  · rename_i a xs ds h n r
    refine .inr ⟨a, xs, rfl, SqT.of h, fun q => ?_, fun q p hp => ?_⟩
    · refine k H _ (Step.refl T H) sim ?_
      rw [r.length] at q
      rw [cut_whole q]
      exact .tup h n r
    · have st := sim.stepNew (o := .tup (cutV xs lo hi)) hp
      exact k _ _ st (sim.new hp (hlen_tup sim.hl (Nat.le_trans (cutV_length _ _ _) (sim.hl _ _ (.inr (.inl h)))))) (.tup upd_same (sim.off hp) ((cut_rep lo hi r).step st))
  · rename_i a xs ds h n r
    exact mk h r rfl
  · rename_i a n hn
    simp only [slD] at e
    split at e
    · rename_i xs q
      cases e
      obtain ⟨ys, q1, q2⟩ := sim.obj _ _ _ hn q
      exact mk q1 q2 rfl
    · cases e
theorem j_slice (he : PE X e (tD X.K X.mg Wx m)) (hl : PO X lo (tDO X.K X.mg Wx ml)) (hu : PO X hi (tDO X.K X.mg Wx mh)) : PE X (.Subscript e (.Slice lo hi none p2) pos) (tD X.K X.mg Wx (mSl m ml mh)) :=
  pe_imp (pe_slice sl_B he hl hu) fun g H Q h => by
    obtain ⟨T, r, S, rs, sim, h⟩ := h
    refine ⟨T, r, S, rs, sim, Out.bind h fun d S1 T1 H1 v st sim1 rel h1 => ?_⟩
    refine ⟨T1, r, S1, rs.step st, sim1, Out.bind h1 fun l S2 T2 H2 lv st2 sim2 rel2 h2 => ?_⟩
    subst rel2
    refine ⟨T2, r, S2, (rs.step st).step st2, sim2, Out.bind h2 fun u S3 T3 H3 uv st3 sim3 rel3 h3 => ?_⟩
    subst rel3
    exact Out.use h3 fun d' e k => sl_ok sim3 (rel.step (st2.trans st3)) e fun H' v' s' => k T3 H' v' s'
end
def isLoc (o : D) (S : Store) : Bool := match o with
  | .loc n => match S[n]? with
    | some (.lst _) => true
    | _ => false
  | _ => false
def appD (o d : D) (S : Store) : R D := match o with
  | .loc n => match S[n]? with
    | some (.lst xs) => if xs.length < 100000 then .ok .non (S.set n (.lst (xs ++ [d]))) else .bad
    | _ => .bad
  | _ => .bad
def mAppend (mo m : EM) : EM := fun r S => (mo r S).bind fun o S1 => if isLoc o S1 = true then (m r S1).bind fun d S2 => appD o d S2 else .bad
def putD (o i d : D) (r : Env) (S : Store) : Z := match o, i with
  | .loc n, .int k => match S[n]? with
    | some (.lst xs) => match ixN xs.length k with
      | some j => .ok .next r (S.set n (.lst (xs.set j d)))
      | none => .bad
    | _ => .bad
  | _, _ => .bad
def sSetIx (mo mi m : EM) : SM := fun r S => bindS (m r S) r fun d S1 => bindS (mo r S1) r fun o S2 => bindS (mi r S2) r fun i S3 => putD o i d r S3
section
variable {X : Cx} {Wx : WX} {o e i : Expr} {mo mi m : EM} {pos apos tpos : Pos} {K : PySem.W.Frag} {mg : Str → Option Value}
theorem loc_of {T : Tb} {S : Store} {H : Hp} {v : V} {n : Nat} {o : O} (sim : Sim K mg T S H) (h : Rep K T H v (.loc n)) (e : S[n]? = some o) : ∃ a, v = .ref a ∧ T.loc[n]? = some a ∧ ORep K mg T H a o := by
  cases h with
  | loc hn => exact ⟨_, rfl, hn, sim.obj _ _ _ hn e⟩
theorem lst_set {T : Tb} {S : Store} {H : Hp} {a : Addr} {n : Nat} {xs : List V} {ds : List D} (sim : Sim K mg T S H) (hn : T.loc[n]? = some a) (hz : xs.length ≤ sizeLine) (r : RepL K T H xs ds) :
    Step T H T (upd H a (.lst xs)) ∧ Sim K mg T (S.set n (.lst ds)) (upd H a (.lst xs)) := by
  have st := sim.stepSet (u := .lst xs) (List.mem_of_getElem? hn)
  exact ⟨st, sim.set hn (hlen_lst sim.hl hz) ⟨xs, upd_same, r.step st⟩⟩
theorem isLoc_ty {T : Tb} {S : Store} {H : Hp} {v : V} {d : D} (sim : Sim K mg T S H) (h : Rep K T H v d) (e : isLoc d S = true) : tyV K "list" v H := by
  unfold isLoc at e
  split at e
  · rename_i n
    split at e
    · rename_i xs q
      obtain ⟨a, rfl, hn, ys, q1, q2⟩ := loc_of sim h q
      exact .inl ⟨rfl, ys, SqL.of q1⟩
    · cases e
  · cases e
theorem j_append (ho : PE X o (tD X.K X.mg Wx mo)) (ha : PE X e (tD X.K X.mg Wx m)) (hbase : attributeBase o "append" X.env (eval o X.env) = eval o X.env := by rfl)
    (hfew : ((backTo pos (starEach [e] X.env)).all (fun x => !x.1) && (backToKw pos (keywordEach [] X.env)).all (fun x => x.1.isSome) && decide (([e] : List Expr).length + ([] : List Keyword).length + (if ([] : List Keyword).isEmpty then 0 else 1) < 30)) = true := by rfl)
    (hline : (apos.endLine == pos.line) = true := by rfl) (hs : starEach [e] X.env = (false, eval e X.env) :: starEach [] X.env := by rfl) (hplain : (backTo pos (starEach [] X.env)).any (·.1) = false := by rfl) :
    PE X (.Call (.Attribute o "append" apos) [e] [] pos) (tD X.K X.mg Wx (mAppend mo m)) :=
  pe_imp (pe_bm PySem.F.plainAttrs_list PySem.F.slot_list_append PySem.F.type_list_append mt_append ho (pa_cons ha pa_nil hs) hbase hfew hline hs hplain) fun g H Q h => by
    obtain ⟨T, r, S, rs, sim, h⟩ := h
    refine ⟨T, r, S, rs, sim, Out.bind h fun d S1 T1 H1 v st sim1 rel h1 => ?_⟩
    split at h1
    · rename_i hl
      refine ⟨isLoc_ty sim1 rel hl, T1, r, S1, rs.step st, sim1, Out.bind h1 fun y S2 T2 H2 w st2 sim2 rel2 h2 => ?_⟩
      unfold appD at h2
      split at h2
      · rename_i n
        split at h2
        · rename_i xs q
          split at h2
          · rename_i hz
            obtain ⟨a, rfl, hn, ys, q1, q2⟩ := loc_of sim2 (rel.step st2) q
            have hl' : ys.length < sizeLine := by rw [q2.length]; exact Nat.lt_of_lt_of_le hz (by decide)
            obtain ⟨st3, sim3⟩ := lst_set (xs := ys ++ [w]) (ds := xs ++ [y]) sim2 hn (by rw [List.length_append, List.length_singleton]; omega) (RepL.append q2 (.cons rel2 .nil))
            exact ⟨a, ys, w, rfl, rfl, q1, hl', h2 T2 _ _ st3 sim3 .non⟩
          · exact h2.elim
        · exact h2.elim
      · exact h2.elim
    · exact h1.elim
theorem RepL.dropLast {T : Tb} {H : Hp} {vs : List V} {ds : List D} (h : RepL K T H vs ds) : RepL K T H vs.dropLast ds.dropLast := by
  rw [List.dropLast_eq_take, List.dropLast_eq_take, h.length]
  exact h.take _
theorem putD_ok {T : Tb} {S : Store} {H : Hp} {r : Env} {E : Ends} {g : St} {ov iv v : V} {o i d : D} (sim : Sim K mg T S H) (rs : RepSt K T H r g) (h1 : Rep K T H ov o) (h2 : Rep K T H iv i) (h3 : Rep K T H v d) (h : ZOut K mg Wx T H (putD o i d r S) E) :
    rSetL ov iv v H fun H4 => E.nx g H4 := by
  unfold putD at h
  split at h
  · rename_i n k
    split at h
    · rename_i xs q
      split at h
      · rename_i j ej
        obtain ⟨a, rfl, hn, ys, q1, q2⟩ := loc_of sim h1 q
        obtain ⟨st3, sim3⟩ := lst_set sim hn (by rw [List.length_set]; exact sim.hl a ys (.inl (.inl q1))) (q2.set h3 j)
        exact ⟨a, ys, k, j, rfl, h2.int_of, q1, by rw [q2.length]; exact ej, h T _ g st3 sim3 (rs.step st3)⟩
      · exact h.elim
    · exact h.elim
  · exact h.elim
theorem js_setIx {hv : Expr} {mv : EM} (he : PE X hv (tD X.K X.mg Wx mv)) (ho : PE X o (tD X.K X.mg Wx mo)) (hi : PE X i (tD X.K X.mg Wx mi))
    (ha : ∀ v, assign (.Subscript o i tpos) X.env v = (do
      let ov ← holding [v] (eval o X.env)
      let iv ← holding [v, ov] (eval i X.env)
      standAt tpos
      holding [v, ov, iv] (setItem ov iv v)
      release [v, ov, iv] []) := by intro _; rfl)
    (hs : swapsWithSole [.Subscript o i tpos] hv pos.line X.env = pure false := by rfl) (hw : swappedStores [.Subscript o i tpos] hv X.env = pure none := by rfl)
    (h1 : (assignEach [.Subscript o i tpos] X.env).map (·.2) = [assign (.Subscript o i tpos) X.env] := by rfl) : PS X (.Assign [.Subscript o i tpos] hv pos) (tDS X.K X.mg Wx (sSetIx mo mi mv)) :=
  ps_imp (ps_asg he (pg_sub ho hi set_list ha) hs hw h1) fun E g H h => by
    obtain ⟨T, r, S, rs, sim, h⟩ := h
    refine ⟨T, r, S, rs, sim, ZOut.bind h rs fun d S1 T1 H1 v st sim1 rel rs1 h1 => ?_⟩
    refine ⟨T1, r, S1, rs1, sim1, ZOut.bind h1 rs1 fun ov S2 T2 H2 x st2 sim2 rel2 rs2 h2 => ?_⟩
    refine ⟨T2, r, S2, rs2, sim2, ZOut.bind h2 rs2 fun iv S3 T3 H3 y st3 sim3 rel3 rs3 h3 => ?_⟩
    exact putD_ok sim3 rs3 (rel2.step st3) rel3 (rel.step (st2.trans st3)) h3
end
end Dv
namespace Dv
open PySem L2
section
variable {K : PySem.W.Frag} {mg : Str → Option Value} {T : Tb} {H : Hp}
end
section
variable {X : Cx} {Wx : WX} {o e : Expr} {c f : Str} {C : Addr} {mo m : EM} {pos pos' tpos : Pos}
end
section
variable {X : Cx} {Wx : WX} {o e : Expr} {es : List Expr} {c mth : Str} {C f : Addr} {mo : EM} {ms : AM} {pos apos p : Pos} {k n : Nat} {fd : FuncData} {ps : List Str} {Fn : List D → Store → R D} {x : Str}
end
end Dv
set_option maxHeartbeats 1000000
namespace Dv
open PySem L2
section
variable {α : Type}
def insL (lt : α → α → Bool) (x : α) : List α → List α
  | [] => [x]
  | y :: ys => if lt y x = true then y :: insL lt x ys else x :: y :: ys
def sortL (lt : α → α → Bool) : List α → List α
  | [] => []
  | x :: xs => insL lt x (sortL lt xs)
variable {lt : α → α → Bool}
theorem insL_perm (x : α) : ∀ l : List α, (insL lt x l).Perm (x :: l)
  | [] => List.Perm.refl _
  | y :: ys => by
    unfold insL
    split
    · exact ((insL_perm x ys).cons y).trans (List.Perm.swap x y ys)
    · exact List.Perm.refl _
theorem sortL_perm : ∀ l : List α, (sortL lt l).Perm l
  | [] => List.Perm.refl _
  | x :: xs => (insL_perm x _).trans ((sortL_perm xs).cons x)
theorem insL_srtd (O : SrtO.Swo lt) (x : α) : ∀ {l : List α}, SrtO.Srtd lt l → SrtO.Srtd lt (insL lt x l)
  | [], _ => List.pairwise_singleton _ _
  | y :: ys, h => by
    unfold insL
    split
    · rename_i hy
      refine List.pairwise_cons.mpr ⟨fun z hz => ?_, insL_srtd O x (List.pairwise_cons.mp h).2⟩
      rcases List.mem_cons.mp ((insL_perm x ys).mem_iff.mp hz) with e | e
      · rw [e]
        exact O.asym _ _ hy
      · exact (List.pairwise_cons.mp h).1 z e
    · rename_i hy
      refine List.pairwise_cons.mpr ⟨fun z hz => ?_, h⟩
      have hy : lt y x = false := by simpa using hy
      rcases List.mem_cons.mp hz with e | e
      · rw [e]
        exact hy
      · exact O.tr x y z hy ((List.pairwise_cons.mp h).1 z e)
theorem sortL_srtd (O : SrtO.Swo lt) : ∀ l : List α, SrtO.Srtd lt (sortL lt l)
  | [] => List.Pairwise.nil
  | x :: xs => insL_srtd O x (sortL_srtd O xs)
theorem insL_cls (O : SrtO.Swo lt) (x z : α) : ∀ l : List α, (insL lt x l).filter (SrtO.eqv lt z) = (x :: l).filter (SrtO.eqv lt z)
  | [] => rfl
  | y :: ys => by
    unfold insL
    split
    · rename_i hy
      have ih := insL_cls O x z ys
      by_cases hz : SrtO.eqv lt z y = true
      · have hx : SrtO.eqv lt z x = false := by
          by_cases q : SrtO.eqv lt z x = true
          · have h1 := SrtO.eqv_iff.mp hz
            have h2 := SrtO.eqv_iff.mp q
            have : lt y x = false := O.tr x z y h2.1 h1.2
            rw [hy] at this
            cases this
          · simpa using q
        rw [List.filter_cons_of_pos hz, ih, List.filter_cons_of_neg (by rw [hx]; exact Bool.false_ne_true), List.filter_cons_of_neg (by rw [hx]; exact Bool.false_ne_true), List.filter_cons_of_pos hz]
      · rw [List.filter_cons_of_neg hz, ih]
        by_cases hx : SrtO.eqv lt z x = true
        · rw [List.filter_cons_of_pos hx, List.filter_cons_of_pos hx, List.filter_cons_of_neg hz]
        · rw [List.filter_cons_of_neg hx, List.filter_cons_of_neg hx, List.filter_cons_of_neg hz]
    · rfl
theorem sortL_stb (O : SrtO.Swo lt) : ∀ l : List α, SrtO.Stb lt (sortL lt l) l
  | [] => SrtO.Stb.refl _
  | x :: xs => ⟨sortL_perm _, fun z => by
    show (insL lt x (sortL lt xs)).filter (SrtO.eqv lt z) = (x :: xs).filter (SrtO.eqv lt z)
    rw [insL_cls O]
    by_cases hx : SrtO.eqv lt z x = true
    · rw [List.filter_cons_of_pos hx, List.filter_cons_of_pos hx, (sortL_stb O xs).cls z]
    · rw [List.filter_cons_of_neg hx, List.filter_cons_of_neg hx, (sortL_stb O xs).cls z]⟩
theorem sortL_uniq (O : SrtO.Swo lt) {l m : List α} (h1 : SrtO.Srtd lt m) (h2 : SrtO.Stb lt m l) : m = sortL lt l :=
  SrtO.stb_uniq O h1 (sortL_srtd O l) (h2.trans ⟨(sortL_stb O l).perm.symm, fun z => ((sortL_stb O l).cls z).symm⟩)
theorem sortL_len (l : List α) : (sortL lt l).length = l.length := (sortL_perm l).length_eq
end
def ltI (a b : Int) : Bool := decide (a < b)
theorem ltI_swo : SrtO.Swo ltI := ⟨fun x y h => decide_eq_false (by have := of_decide_eq_true h; omega), fun x y z h1 h2 => decide_eq_false (by have := of_decide_eq_false h1; have := of_decide_eq_false h2; omega)⟩
abbrev ltR : List Int → List Int → Bool := HT.lexLt
theorem ltR_asym : ∀ x y : List Int, ltR x y = true → ltR y x = false
  | [], [], h => by cases h
  | [], _ :: _, _ => rfl
  | _ :: _, [], h => by cases h
  | a :: x, b :: y, h => by
    have h : (if a = b then HT.lexLt x y else decide (a < b)) = true := h
    show (if b = a then HT.lexLt y x else decide (b < a)) = false
    by_cases e : a = b
    · subst e
      rw [if_pos rfl] at h ⊢
      exact ltR_asym x y h
    · rw [if_neg e] at h
      rw [if_neg (Ne.symm e)]
      have := of_decide_eq_true h
      exact decide_eq_false (by omega)
theorem ltR_tr : ∀ x y z : List Int, ltR y x = false → ltR z y = false → ltR z x = false
  | [], [], z, _, h => h
  | [], b :: y, [], _, _ => rfl
  | [], b :: y, c :: z, _, _ => rfl
  | a :: x, [], z, h, _ => by cases h
  | a :: x, b :: y, [], _, h => by cases h
  | a :: x, b :: y, c :: z, g1, g2 => by
    have h1 : (if b = a then HT.lexLt y x else decide (b < a)) = false := g1
    have h2 : (if c = b then HT.lexLt z y else decide (c < b)) = false := g2
    clear g1 g2
    show (if c = a then HT.lexLt z x else decide (c < a)) = false
    by_cases e1 : b = a
    · subst e1
      rw [if_pos rfl] at h1
      by_cases e2 : c = b
      · subst e2
        rw [if_pos rfl] at h2 ⊢
        exact ltR_tr x y z h1 h2
      · rw [if_neg e2] at h2 ⊢
        exact h2
    · rw [if_neg e1] at h1
      have h3 := of_decide_eq_false h1
      by_cases e2 : c = b
      · subst e2
        rw [if_neg e1]
        exact h1
      · rw [if_neg e2] at h2
        have h4 := of_decide_eq_false h2
        rw [if_neg (by omega)]
        exact decide_eq_false (by omega)
theorem ltR_swo : SrtO.Swo ltR := ⟨ltR_asym, ltR_tr⟩
section
variable {prog : Program} {w : World} {A : Around} {s : Shared} {Q : Bool → Shared → Prop}
theorem lexI {b fin : Bool} : ∀ {xs ys : List Value} {ns ms : List Int} (i : Nat), PyProof.Rows.IntsAre xs ns → PyProof.Rows.IntsAre ys ms → fin = decide (ns.length < ms.length) → Q (ltR ns ms) s → PySem.W.KatLex prog w A b fin Q (xs.zip ys) i s
  | _, _, _, _, i, .nil, .nil, hf, h => by
    rw [hf]
    exact h
  | _, _, _, _, i, .nil, .cons q u hy, hf, h => by
    rw [hf]
    exact h
  | _, _, _, _, i, .cons p t hx, .nil, hf, h => by
    rw [hf]
    exact h
  | _, _, _, _, i, @PyProof.Rows.IntsAre.cons p t xs ns hx, @PyProof.Rows.IntsAre.cons q u ys ms hy, hf, h => by
    show PySem.W.KatLex prog w A b fin Q ((Value.int p t, Value.int q u) :: xs.zip ys) i s
    refine PySem.W.kat_cons (wpAny_eqBool_int ?_)
    have h : Q (if p = q then HT.lexLt ns ms else decide (p < q)) s := h
    by_cases e : p = q
    · subst e
      rw [if_pos rfl] at h
      rw [beq_self_eq_true]
      refine PySem.W.kat_yes (lexI (i + 1) hx hy ?_ h)
      rw [hf]
      simp only [List.length_cons, Nat.add_lt_add_iff_right]
    · rw [if_neg e] at h
      rw [show (p == q) = false from beq_eq_false_iff_ne.mpr e]
      exact PySem.W.kat_no (TS.oneLt_ints _ h)
def RowsIn (h : Heap) (vs : List Value) : Prop := ∀ v ∈ vs, ∃ ns, TS.TupInts h v ns ∧ ns ≠ []
theorem rows_firsts {h : Heap} : ∀ vs : List Value, RowsIn h vs → ∃ fs, PySem.W.KatTups h vs fs ∧ fs.length = vs.length ∧ ∀ f ∈ fs, ∃ n t, f = Value.int n t
  | [], _ => ⟨[], PySem.W.KatTups.nil, rfl, fun f hf => by cases hf⟩
  | v :: vs, x => by
    obtain ⟨fs, k, hl, hi⟩ := rows_firsts vs fun u hu => x u (List.mem_cons_of_mem _ hu)
    obtain ⟨ns, ⟨a, xs, ev, ⟨o, ho, hc, n, hdt⟩, ii⟩, hne⟩ := x v List.mem_cons_self
    subst ev
    cases q : xs.toList with
    | nil =>
      rw [q] at ii
      cases ii
      exact absurd rfl hne
    | cons y ys =>
      have hy : ∃ m t, y = Value.int m t := by
        rw [q] at ii
        cases ii
        exact ⟨_, _, rfl⟩
      obtain ⟨m, t, hy⟩ := hy
      refine ⟨y :: fs, PySem.W.KatTups.cons ho hc hdt ?_ k, by rw [List.length_cons, List.length_cons, hl], fun f hf => ?_⟩
      · have z := congrArg (fun l : List Value => l[0]?) q
        simpa using z
      · rcases List.mem_cons.mp hf with e | e
        · exact ⟨m, t, e.trans hy⟩
        · exact hi f e
theorem rows_sortable {h0 : Heap} {a : Addr} {vs : List Value} (x : RowsIn s.heap vs) (h2 : 2 ≤ vs.length) (ha : ∀ o, s.heap.get? a = some o → o.cls ≠ .type "tuple") (hf : ∀ v ∈ vs, ∀ ns, TS.TupInts s.heap v ns → TS.intsOf h0 v = ns) :
    SrtO.SortableO prog w A s a vs fun v u => ltR (TS.intsOf h0 v) (TS.intsOf h0 u) := by
  intro h' keep
  have kp : ∀ {v : Value} {ns : List Int}, TS.TupInts s.heap v ns → TS.TupInts h' v ns := fun q => q.keeps fun b o e c => keep b o (fun z => by subst z; exact ha o e c) e
  have x' : RowsIn h' vs := fun v hv => by
    obtain ⟨ns, h1, h2⟩ := x v hv
    exact ⟨ns, kp h1, h2⟩
  obtain ⟨fs, k1, k2, k3⟩ := rows_firsts vs x'
  refine ⟨PyProof.Rows.tuples' true, fun Q E hq => ?_, fun p q hp hq => ?_⟩
  · refine PySem.W.kat_kind (T := .type "int") k1 (by omega) (fun f hm => ?_) (by rfl) ?_
    · obtain ⟨m, t, e⟩ := k3 f hm
      subst e
      exact PySem.W.Looks.now
    · have e : (Value.type "int" != Value.type "tuple") = true := by first | decide +kernel | rfl | decide
      rw [e]
      exact hq
  · obtain ⟨ns, t1, _⟩ := x p.1 hp
    obtain ⟨ms, t2, _⟩ := x q.1 hq
    have e1 := hf _ hp _ t1
    have e2 := hf _ hq _ t2
    show wpAny (model prog w) A (PyProof.Rows.keyLt' (PyProof.Rows.tuples' true) p.1 q.1) (fun r s' => s' = { s with heap := h' } ∧ r = ltR (TS.intsOf h0 p.1) (TS.intsOf h0 q.1)) (fun _ _ => False) _
    rw [e1, e2]
    obtain ⟨a1, xs, f1, ⟨o1, ho1, hc1, n1, hd1⟩, i1⟩ := kp t1
    obtain ⟨a2, ys, f2, ⟨o2, ho2, hc2, n2, hd2⟩, i2⟩ := kp t2
    rw [f1, f2]
    refine PySem.W.kat_lt ho1 hd1 ho2 hd2 (lexI 0 i1 i2 ?_ ⟨rfl, rfl⟩)
    have l1 := i1.length
    have l2 := i2.length
    rw [Array.length_toList] at l1 l2
    rw [l1, l2]
end
def RowV (K : PySem.W.Frag) (H : Hp) (x : V) (ns : List Int) : Prop := ns ≠ [] ∧ ∃ t, x = .ref t ∧ SqT K H t (ns.map V.int)
def rSortR (K : PySem.W.Frag) : List V → Hp → VK → Prop := fun vs H Q => ∃ (a : Addr) (xs : List V) (rows : List (List Int)) (Pr : V → List Int → Prop), vs = [V.ref a] ∧ SqL K H a xs ∧ (∀ x ns, Pr x ns → RowV K H x ns) ∧ Paired Pr xs rows ∧
  ∀ ys p, Paired Pr ys (sortL ltR rows) → H p = none → Q (.ref p) (upd H p (.lst ys))
theorem paired_mem {α β : Type} {Pr : α → β → Prop} : ∀ {xs : List α} {ys : List β} {i : Nat} {x : α}, Paired Pr xs ys → xs[i]? = some x → ∃ y, ys[i]? = some y ∧ Pr x y
  | _, _, i, _, .nil, e => by simp at e
  | _, _, 0, _, .cons r _, e => by simp at e; subst e; exact ⟨_, rfl, r⟩
  | _, _, i + 1, x, .cons _ t, e => by
    obtain ⟨v, h1, h2⟩ := paired_mem (i := i) (x := x) t (by simpa using e)
    exact ⟨v, by simpa using h1, h2⟩
theorem paired_of_map {α β γ : Type} {Pr : β → γ → Prop} {f : α → β} {g : α → γ} : ∀ {l : List α}, (∀ u ∈ l, Pr (f u) (g u)) → Paired Pr (l.map f) (l.map g)
  | [], _ => .nil
  | u :: l, h => .cons (h u List.mem_cons_self) (paired_of_map fun v hv => h v (List.mem_cons_of_mem _ hv))
theorem cr_sortR {X : Cx} : CallR X (.builtin "sorted") (rSortR X.K) := by
  intro pins s g H vs us Q I r h
  obtain ⟨a, xs, rows, Pr, rfl, hs, hP, pr, q⟩ := h
  obtain ⟨its, rv, hl, hz⟩ := I.list hs
  rw [Vals.ref1 r]
  have rowOf : ∀ (i : Nat) (u : Value), its[i]? = some u → ∃ t ns, u = .ref t ∧ rows[i]? = some ns ∧ Pr (.ref t) ns ∧ TS.TupInts s.heap u ns ∧ ns ≠ [] := fun i u hu => by
    have hi : i < xs.length := by
      rw [rv.length]
      exact (List.getElem?_eq_some_iff.mp hu).1
    obtain ⟨ns, h1, h2⟩ := paired_mem pr (List.getElem?_eq_getElem hi)
    obtain ⟨u', h3, h4⟩ := rv.get (List.getElem?_eq_getElem hi)
    rw [hu] at h3
    cases h3
    obtain ⟨hne, t, et, hT⟩ := hP _ _ h2
    rw [et] at h4 h2
    cases h4
    exact ⟨t, ns, rfl, h1, h2, tupI_raw I hT, hne⟩
  have mem : ∀ u ∈ its, ∃ t ns, u = .ref t ∧ Pr (.ref t) ns ∧ TS.TupInts s.heap u ns ∧ ns ≠ [] := fun u hu => by
    obtain ⟨i, hi, e⟩ := List.mem_iff_getElem.mp hu
    obtain ⟨t, ns, h1, _, h2, h3, h4⟩ := rowOf i u (by rw [List.getElem?_eq_getElem hi, e])
    exact ⟨t, ns, h1, h2, h3, h4⟩
  have erow : its.map (TS.intsOf s.heap) = rows := by
    refine List.ext_getElem? fun i => ?_
    rw [List.getElem?_map]
    cases e : its[i]? with
    | none =>
      have h1 : its.length ≤ i := List.getElem?_eq_none_iff.mp e
      rw [List.getElem?_eq_none (by rw [← Paired.length pr, rv.length]; exact h1)]
      rfl
    | some u =>
      obtain ⟨t, ns, _, h1, _, h3, _⟩ := rowOf i u e
      rw [h1, ← h3.ints]
      rfl
  have rin : RowsIn s.heap its := fun u hu => by
    obtain ⟨t, ns, _, _, h3, h4⟩ := mem u hu
    exact ⟨ns, h3, h4⟩
  refine SrtO.sorted_ord (ltv := fun v u => ltR (TS.intsOf s.heap v) (TS.intsOf s.heap u)) ⟨fun x y => ltR_swo.asym _ _, fun x y z => ltR_swo.tr _ _ _⟩ hl.isList (by rw [← rv.length]; exact hz) (fun h2 h1 b hb kk => ?_) fun out h1 h2 => ?_
  · refine rows_sortable (s := { s with heap := h1 }) (h0 := s.heap) (fun v hv => ?_) h2 (fun o e => ?_) fun v hv ns t => ?_
    · obtain ⟨ns, t, hne⟩ := rin v hv
      exact ⟨ns, t.keeps fun b o e _ => (kk b o e).2, hne⟩
    · have e' : some o = some (PyProof.Rows.seqObj "list" its.toArray 0) := e.symm.trans hb
      cases e'
      intro c
      exact absurd (Value.type.inj c) (by decide)
    · obtain ⟨ms, t', _⟩ := rin v hv
      have t2 := t'.keeps (h' := h1) fun b o e _ => (kk b o e).2
      rw [t'.ints, ← t2.ints]
      exact t.ints
  · obtain ⟨n, hn⟩ := PyProof.Rows.sortedAll_at s.heap its out.toArray
    have mo : ∀ u ∈ out, ∃ t ns, u = .ref t ∧ Pr (.ref t) ns ∧ TS.TupInts s.heap u ns ∧ ns ≠ [] := fun u hu => mem u (h2.perm.mem_iff.mp hu)
    have eo : out.map (TS.intsOf s.heap) = sortL ltR rows := by
      rw [← erow]
      exact sortL_uniq ltR_swo (SrtO.srtd_map h1) (SrtO.Stb.map ltR_swo _ h2)
    have hp : Paired Pr (out.map backV) (sortL ltR rows) := by
      rw [← eo]
      exact paired_of_map fun u hu => by
        obtain ⟨t, ns, e, h3, h4, _⟩ := mo u hu
        rw [h4.ints, e]
        exact h3
    refine ⟨.ref _, upd H (s.heap.objs.size + 1) (.lst (out.map backV)), I.laid (t' := s.toks) (fun _ _ => PyProof.Rows.sortedAll_old) (Nat.le_succ _) ⟨?_, out, n, vals_back fun u hu => ?_, hn⟩, rfl, q _ _ hp (I.hok.fresh (Nat.le_succ _))⟩
    · rw [List.length_map, h2.len, ← rv.length]
      exact hz
    · obtain ⟨t, ns, e, _⟩ := mo u hu
      exact ⟨t, e⟩
def rowD (ns : List Int) : D := .tup (ns.map D.int)
def rowsOf : List D → Option (List (List Int))
  | [] => some []
  | .tup xs :: ds => (intsOf xs).bind fun ns => if ns = [] then none else (rowsOf ds).map (ns :: ·)
  | _ :: _ => none
theorem rowsOf_some : ∀ {ds : List D} {rows : List (List Int)}, rowsOf ds = some rows → ds = rows.map rowD ∧ ∀ ns ∈ rows, ns ≠ []
  | [], _, e => by cases e; exact ⟨rfl, fun _ h => by cases h⟩
  | d :: ds, rows, e => by
    cases d <;> try cases e
    rename_i xs
    simp only [rowsOf] at e
    cases q : intsOf xs with
    | none => rw [q] at e; cases e
    | some ns =>
      rw [q] at e
      have e : (if ns = [] then none else (rowsOf ds).map (ns :: ·)) = some rows := e
      split at e
      · cases e
      · rename_i hne
        cases q2 : rowsOf ds with
        | none => rw [q2] at e; cases e
        | some rs =>
          rw [q2] at e
          cases e
          obtain ⟨h1, h2⟩ := rowsOf_some q2
          refine ⟨by rw [h1, intsOf_some q]; rfl, fun m hm => (List.mem_cons.mp hm).elim (fun e => by rw [e]; exact hne) (h2 m)⟩
theorem rowsOf_map : ∀ {rows : List (List Int)}, (∀ ns ∈ rows, ns ≠ []) → rowsOf (rows.map rowD) = some rows
  | [], _ => rfl
  | ns :: rows, h => by
    show (intsOf (ns.map D.int)).bind (fun ns => if ns = [] then none else (rowsOf (rows.map rowD)).map (ns :: ·)) = _
    rw [intsOf_map, rowsOf_map fun m hm => h m (List.mem_cons_of_mem _ hm)]
    show (if ns = [] then none else some (ns :: rows)) = _
    rw [if_neg (h ns List.mem_cons_self)]
def sortD (ds : List D) (_ : Store) : Option D := match ds with
  | [.lst xs] => match intsOf xs with
    | some ns => some (.lst ((sortL ltI ns).map D.int))
    | none => (rowsOf xs).map fun rows => .lst ((sortL ltR rows).map rowD)
  | _ => none
section
variable {X : Cx} {K : PySem.W.Frag} {mg : Str → Option Value}
def rSortA (K : PySem.W.Frag) : List V → Hp → VK → Prop := fun vs H Q => rSortedI K vs H Q ∨ rSortR K vs H Q
theorem cr_sortA : CallR X (.builtin "sorted") (rSortA X.K) := cr_sortedI.or cr_sortR
theorem sortI_uniq {ns ms : List Int} (h1 : ms.Perm ns) (h2 : ms.Pairwise (· ≤ ·)) : ms = sortL ltI ns := by
  refine sortL_uniq ltI_swo (h2.imp fun {x y} h => decide_eq_false (by omega)) ⟨h1, fun z => ?_⟩
  have e : SrtO.eqv ltI z = fun y => decide (y = z) := funext fun y => by
    unfold SrtO.eqv ltI
    by_cases q : y = z
    · subst q
      simp
    · rw [decide_eq_false q]
      by_cases q2 : z < y
      · simp [q2]
      · have q3 : y < z := by omega
        simp [q3]
  rw [e]
  have h3 := h1.filter (fun y => decide (y = z))
  have h4 : ∀ l : List Int, l.filter (fun y => decide (y = z)) = List.replicate (l.filter (fun y => decide (y = z))).length z := fun l => List.eq_replicate_iff.mpr ⟨rfl, fun y hy => of_decide_eq_true (List.mem_filter.mp hy).2⟩
  rw [h4 ms, h4 ns, h3.length_eq]
theorem RepL.pr {T : Tb} {H : Hp} : ∀ {vs : List V} {rows : List (List Int)}, RepL K T H vs (rows.map rowD) → (∀ ns ∈ rows, ns ≠ []) → Paired (fun x ns => ns ≠ [] ∧ Rep K T H x (rowD ns)) vs rows
  | _, [], .nil, _ => .nil
  | _, ns :: rows, .cons h r, hn => .cons ⟨hn ns List.mem_cons_self, h⟩ (RepL.pr r fun m hm => hn m (List.mem_cons_of_mem _ hm))
theorem RepL.of_pr {T : Tb} {H : Hp} : ∀ {vs : List V} {rows : List (List Int)}, Paired (fun x ns => ns ≠ [] ∧ Rep K T H x (rowD ns)) vs rows → RepL K T H vs (rows.map rowD)
  | _, _, .nil => .nil
  | _, _, .cons h r => .cons h.2 (RepL.of_pr r)
theorem pok_sort : POk K mg (rSortA K) sortD := fun T S H vs ds d Q sim rep e k => by
  unfold sortD at e
  split at e
  · rename_i xs
    obtain ⟨v, rfl, r⟩ := rep.one
    cases r with
    | @lst a ys _ h n r =>
      split at e
      · rename_i ns q
        cases e
        have e3 := intsOf_some q
        subst e3
        rw [r.of_ints] at h
        refine .inl ⟨a, ns, rfl, SqL.of h, fun ms p h1 h2 hp => ?_⟩
        have e4 := sortI_uniq h1 h2
        subst e4
        have st := sim.stepNew (o := .lst ((sortL ltI ns).map V.int)) hp
        refine k _ _ st (sim.new hp (hlen_lst sim.hl ?_)) (.lst upd_same (sim.off hp) (RepL.ints _))
        have := sim.hl _ _ (.inl (.inl h))
        rw [List.length_map] at this ⊢
        rw [sortL_len]
        exact this
      · rename_i q
        cases q2 : rowsOf xs with
        | none => rw [q2] at e; cases e
        | some rows =>
          rw [q2] at e
          cases e
          obtain ⟨e3, hne⟩ := rowsOf_some q2
          subst e3
          refine .inr ⟨a, ys, rows, fun x ns => ns ≠ [] ∧ Rep K T H x (rowD ns), rfl, SqL.of h, fun x ns hx => ⟨hx.1, ?_⟩, r.pr hne, fun zs p hz hp => ?_⟩
          · obtain ⟨_, hx⟩ := hx
            cases hx with
            | tup h1 h2 h3 =>
              rw [h3.of_ints] at h1
              exact ⟨_, rfl, SqT.of h1⟩
          · have rz := RepL.of_pr hz
            have st := sim.stepNew (o := .lst zs) hp
            refine k _ _ st (sim.new hp (hlen_lst sim.hl ?_)) (.lst upd_same (sim.off hp) (rz.step st))
            have h1 := sim.hl _ _ (.inl (.inl h))
            have h2 := rz.length
            rw [List.length_map, sortL_len] at h2
            have h3 := r.length
            rw [List.length_map] at h3
            omega
  · cases e
end
theorem room65 {k : Nat} {A : Around} (r : Room k A) : A.units + 65 < cLine := by
  have := r.un
  omega
end Dv
namespace Dv
open PySem L2
theorem hlen_of {P : Program} {w : World} {H : Hp} {h : Heap} (x : HOk P w H h) : HLen H := fun a xs q => by
  rcases q with q | q
  · obtain ⟨z, _⟩ := q.ok x
    exact z
  · obtain ⟨z, _⟩ := q.ok x
    exact z
def spLaw (K : PySem.W.Frag) : Sp := fun vs H Q _ => ∃ (a : Addr) (ns : List Int), vs = [.ref a] ∧ SqL K H a (ns.map V.int) ∧ ns.length ≤ 63 ∧ ∀ H', Q (.bl true) H'
theorem law_fn {P : Program} {w : World} {K : PySem.W.Frag} {mg : Str → Option Value} {base : Heap} {CX : CXT} {k : Nat} {f : Addr} {fd : FuncData} {F : Nat → List D → Store → R D} (h : ∀ fu, FnOk P w K mg base CX k f fd ["script"] (spD K mg 1 (F fu)))
    (ht : ∀ ns : List Int, ns.length ≤ 63 → ∃ fu S, F fu [.scr ns] [] = .ok (.bl true) S) : FnOk P w K mg base CX k f fd ["script"] (spLaw K) := by
  refine ⟨fun vs H Q E q => ?_, fun A outer s H args us vs Q E hr he hb hv hs => ?_⟩
  · obtain ⟨a, ns, rfl, _⟩ := q
    rfl
  · obtain ⟨a, ns, rfl, hq, hl, q⟩ := hs
    obtain ⟨fu, S', e⟩ := ht ns hl
    refine (h fu).run A outer s H args us _ Q E hr he hb hv ⟨rfl, ⟨[], []⟩, [], [.scr ns], .cons (.scr ?_) .nil, ⟨rfl, List.nodup_nil, fun i a o h1 => ?_, fun a h1 => ?_, hlen_of he.hok⟩, ?_⟩
    · rcases hq with hq | hq
      · exact .inl ⟨hq, (by intro z; cases z), (by intro z; cases z)⟩
      · exact .inr (.inr hq)
    · cases h1
    · cases h1
    · rw [e]
      intro T' H' v _ _ r
      rw [r.bl_of]
      exact q H'
theorem sp_start {K : PySem.W.Frag} {H : Hp} {a : Addr} {ns : List Int} (hl : ns.length ≤ 63) (hS : SqL K H a (ns.map V.int)) : spLaw K [.ref a] H (fun v _ => v = .bl true) fun _ _ _ => False := ⟨a, ns, rfl, hS, hl, fun _ => rfl⟩
theorem no_exc {P : Program} {w : World} {l : List PySem.Env} {H : Hp} {s : Shared} {e : Value} {s' : Shared} (h : L2.CX P w l H s (fun _ _ _ => False) e s') : False := by
  obtain ⟨_, _, _, _, _, _, _, _, _, _, _, _, z⟩ := h
  exact z
end Dv
namespace Dv
open PySem L2
section
variable {r : Env} {S : Store} {ma mb mc m mo mi : EM} {ms : AM} {ta tb : BM} {sa sb : SM}
@[simp] theorem rb_ok {α β : Type} (a : α) (S : Store) (f : α → Store → R β) : (R.ok a S).bind f = f a S := rfl
@[simp] theorem rb_exc {α β : Type} (n : Str) (S : Store) (f : α → Store → R β) : (R.exc n S : R α).bind f = .exc n S := rfl
@[simp] theorem rb_bad {α β : Type} (f : α → Store → R β) : (R.bad : R α).bind f = .bad := rfl
@[simp] theorem ofO_some {α : Type} (a : α) : ofO (some a) S = .ok a S := rfl
@[simp] theorem ofO_none {α : Type} : ofO (none : Option α) S = .bad := rfl
@[simp] theorem mVar_ap (i : Nat) : mVar i r S = (match r[i]? with | some (some d) => .ok d S | _ => .bad) := rfl
@[simp] theorem mC_ap (d : D) : mC d r S = .ok d S := rfl
@[simp] theorem mNil_ap : mNil r S = .ok [] S := rfl
@[simp] theorem mCons_ap : mCons m ms r S = (m r S).bind fun d S1 => (ms r S1).bind fun ds S2 => .ok (d :: ds) S2 := rfl
@[simp] theorem mTup_ap : mTup ms r S = (ms r S).bind fun ds S1 => if ds.length ≤ 100000 then .ok (.tup ds) S1 else .bad := rfl
@[simp] theorem mLst_ap : mLst ms r S = (ms r S).bind fun ds S1 => if ds.length ≤ 100000 then .ok (.lst ds) S1 else .bad := rfl
@[simp] theorem mNewL_ap : mNewL ms r S = (ms r S).bind fun ds S1 => if ds.length ≤ 100000 then .ok (.loc S1.length) (S1 ++ [.lst ds]) else .bad := rfl
@[simp] theorem mBin_ap (f : D → D → Store → Option D) : mBin f ma mb r S = (ma r S).bind fun a S1 => (mb r S1).bind fun b S2 => ofO (f a b S2) S2 := rfl
@[simp] theorem mUn_ap (f : D → Store → Option D) : mUn f ma r S = (ma r S).bind fun a S1 => ofO (f a S1) S1 := rfl
@[simp] theorem mCall_ap (f : List D → Store → Option D) : mCall f ms r S = (ms r S).bind fun ds S1 => ofO (f ds S1) S1 := rfl
@[simp] theorem mT_ap : mT m r S = (m r S).bind fun d S1 => ofO (asB d) S1 := rfl
@[simp] theorem asB_bl (b : Bool) : asB (.bl b) = some b := rfl
@[simp] theorem mTru_ap : mTru m r S = (m r S).bind fun d S1 => ofO (truD d S1) S1 := rfl
@[simp] theorem mNotT_ap : mNotT ta r S = (ta r S).bind fun b S1 => .ok (!b) S1 := rfl
@[simp] theorem mAndT_ap : mAndT ta tb r S = (ta r S).bind fun b S1 => if b = true then tb r S1 else .ok false S1 := rfl
@[simp] theorem mOrT_ap : mOrT ta tb r S = (ta r S).bind fun b S1 => if b = true then .ok true S1 else tb r S1 := rfl
@[simp] theorem mAnd_ap : mAnd ma mb r S = (ma r S).bind fun d S1 => match d with
  | .bl true => mb r S1
  | .bl false => .ok (.bl false) S1
  | _ => .bad := rfl
@[simp] theorem mNot_ap : mNot ma r S = (ma r S).bind fun d S1 => match d with
  | .bl b => .ok (.bl (!b)) S1
  | _ => .bad := rfl
@[simp] theorem mIf_ap : mIf ta ma mb r S = (ta r S).bind fun b S1 => if b = true then ma r S1 else mb r S1 := rfl
@[simp] theorem mChain_ap (f f' : D → D → Store → Option D) : mChain f f' ma mb mc r S = (ma r S).bind fun a S1 => (mb r S1).bind fun b S2 => (ofO (f a b S2) S2).bind fun d S3 => match d with
  | .bl true => (mc r S3).bind fun c S4 => ofO (f' b c S4) S4
  | .bl false => .ok (.bl false) S3
  | _ => .bad := rfl
@[simp] theorem bs_ok {α : Type} (a : α) (f : α → Store → Z) : bindS (.ok a S) r f = f a S := rfl
@[simp] theorem bs_exc {α : Type} (n : Str) (f : α → Store → Z) : bindS (.exc n S : R α) r f = .exc n r S := rfl
@[simp] theorem bs_bad {α : Type} (f : α → Store → Z) : bindS (.bad : R α) r f = .bad := rfl
@[simp] theorem sNil_ap : sNil r S = .ok .next r S := rfl
@[simp] theorem sSeq_ap : sSeq sa sb r S = (match sa r S with | .ok .next r1 S1 => sb r1 S1 | z => z) := rfl
@[simp] theorem sSet_ap (i : Nat) : sSet i m r S = bindS (m r S) r fun d S1 => .ok .next (r.set i (some d)) S1 := rfl
@[simp] theorem sDrop_ap : sDrop m r S = bindS (m r S) r fun _ S1 => .ok .next r S1 := rfl
@[simp] theorem sRet_ap : sRet m r S = bindS (m r S) r fun d S1 => .ok (.ret d) r S1 := rfl
@[simp] theorem sIf_ap : sIf ta sa sb r S = bindS (ta r S) r fun k S1 => if k = true then sa r S1 else sb r S1 := rfl
@[simp] theorem sAug_ap (i : Nat) (f : Int → Int → Int) : sAug i f m r S = (match r[i]? with
  | some (some (.int a)) => bindS (m r S) r fun d S1 => match d with
    | .int b => .ok .next (r.set i (some (.int (f a b)))) S1
    | _ => .bad
  | _ => .bad) := rfl
@[simp] theorem sPar_ap (i j : Nat) : sPar i j ms r S = bindS (ms r S) r fun ds S1 => match ds with
  | [a, b] => .ok .next ((r.set i (some a)).set j (some b)) S1
  | _ => .bad := rfl
@[simp] theorem tgN_ap (i : Nat) (d : D) : tgN i d r = some (r.set i (some d)) := rfl
@[simp] theorem tgsNil_ap : tgsNil [] r = some r := rfl
@[simp] theorem tgsCons_ap (a : D → Env → Option Env) (b : List D → Env → Option Env) (d : D) (ds : List D) : tgsCons a b (d :: ds) r = (a d r).bind fun r1 => b ds r1 := rfl
@[simp] theorem tgT_ap (n : Nat) (b : List D → Env → Option Env) (ds : List D) : tgT n b (.tup ds) r = if ds.length = n then b ds r else none := rfl
@[simp] theorem sAsg_ap (gm : D → Env → Option Env) : sAsg m gm r S = bindS (m r S) r fun d S1 => match gm d r with
  | some r1 => .ok .next r1 S1
  | none => .bad := rfl
@[simp] theorem sFor_ap (im : IM) (gm : D → Env → Option Env) : sFor im gm sb r S = bindS (im r S) r fun ds S1 => sLoop gm sb ds r S1 := rfl
@[simp] theorem mIter_ap : mIter m r S = (m r S).bind fun d S1 => ofO (seqD d) S1 := rfl
@[simp] theorem mRng1_ap : mRng1 ms r S = (ms r S).bind fun ds S1 => ofO (rng1 ds) S1 := rfl
@[simp] theorem mZip_ap : mZip ms r S = (ms r S).bind fun ds S1 => ofO (zipD ds) S1 := rfl
@[simp] theorem mLc_ap (im : IM) (vs : List Nat) (gm : D → Env → Option Env) (te : EM) : mLc im vs gm ta te r S = (im r S).bind fun ds S1 => (lcL gm ta te (wipeE r vs) ds S1).bind fun ys S2 => .ok (.lst ys) S2 := rfl
@[simp] theorem mYes_ap : mYes r S = .ok true S := rfl
@[simp] theorem nox_ok {α : Type} (a : α) : nox (.ok a S) = .ok a S := rfl
@[simp] theorem mApp_ap (n : Nat) (F : List D → Store → R D) : mApp n F ms r S = (ms r S).bind fun ds S1 => if ds.length = n then F ds S1 else .bad := rfl
@[simp] theorem mNoP_ap : mNoP r S = .ok none S := rfl
@[simp] theorem mP_ap : mP m r S = (m r S).bind fun d S1 => match d with
  | .int i => .ok (some i) S1
  | _ => .bad := rfl
@[simp] theorem mSl_ap (ml mh : OM) : mSl m ml mh r S = (m r S).bind fun d S1 => (ml r S1).bind fun lo S2 => (mh r S2).bind fun hi S3 => ofO (slD d lo hi S3) S3 := rfl
@[simp] theorem mAppend_ap : mAppend mo m r S = (mo r S).bind fun o S1 => if isLoc o S1 = true then (m r S1).bind fun d S2 => appD o d S2 else .bad := rfl
@[simp] theorem isLoc_ap (n : Nat) : isLoc (.loc n) S = (match S[n]? with | some (.lst _) => true | _ => false) := rfl
@[simp] theorem appD_ap (n : Nat) (d : D) : appD (.loc n) d S = (match S[n]? with
    | some (.lst xs) => if xs.length < 100000 then .ok .non (S.set n (.lst (xs ++ [d]))) else .bad
    | _ => .bad) := rfl
@[simp] theorem sSetIx_ap : sSetIx mo mi m r S = bindS (m r S) r fun d S1 => bindS (mo r S1) r fun o S2 => bindS (mi r S2) r fun i S3 => putD o i d r S3 := rfl
@[simp] theorem putD_ap (n : Nat) (k : Int) (d : D) : putD (.loc n) (.int k) d r S = (match S[n]? with
    | some (.lst xs) => match ixN xs.length k with
      | some j => .ok .next r (S.set n (.lst (xs.set j d)))
      | none => .bad
    | _ => .bad) := rfl
@[simp] theorem sLoop_nil (gm : D → Env → Option Env) : sLoop gm sb [] r S = .ok .next r S := rfl
@[simp] theorem subD_int (i j : Int) : subD (.int i) (.int j) S = some (.int (i - j)) := rfl
@[simp] theorem addD_int (i j : Int) : addD (.int i) (.int j) S = some (.int (i + j)) := rfl
@[simp] theorem addD_lst (xs ys : List D) : addD (.lst xs) (.lst ys) S = if xs.length + ys.length ≤ 100000 then some (.lst (xs ++ ys)) else none := rfl
@[simp] theorem addD_tup (xs ys : List D) : addD (.tup xs) (.tup ys) S = if xs.length + ys.length ≤ 100000 then some (.tup (xs ++ ys)) else none := rfl
@[simp] theorem fdivD_int (i j : Int) : fdivD (.int i) (.int j) S = if 0 < j ∧ j < 1073741824 then some (.int (i / j)) else none := rfl
@[simp] theorem modD_int (i j : Int) : modD (.int i) (.int j) S = if 0 < j then some (.int (i % j)) else none := rfl
@[simp] theorem negD_int (i : Int) : negD (.int i) S = some (.int (-i)) := rfl
@[simp] theorem mulD_int (i j : Int) : mulD (.int i) (.int j) S = if (-(2 ^ 64) < i ∧ i < 2 ^ 64) ∨ (-(2 ^ 64) < j ∧ j < 2 ^ 64) then some (.int (i * j)) else none := rfl
@[simp] theorem mulD_lst (xs : List D) (k : Int) : mulD (.lst xs) (.int k) S = if -100000 ≤ k ∧ k ≤ 100000 ∧ xs.length * k.toNat ≤ 100000 then some (.lst (List.replicate k.toNat xs).flatten) else none := rfl
@[simp] theorem ltD_int (i j : Int) : ltD (.int i) (.int j) S = some (.bl (decide (i < j))) := rfl
@[simp] theorem leD_int (i j : Int) : leD (.int i) (.int j) S = some (.bl (decide (i ≤ j))) := rfl
@[simp] theorem eqD_int (i j : Int) : eqD (.int i) (.int j) S = some (.bl (decide (i = j))) := rfl
@[simp] theorem neD_int (i j : Int) : neD (.int i) (.int j) S = some (.bl (!decide (i = j))) := rfl
@[simp] theorem lenD_lst (xs : List D) : lenD [.lst xs] S = some (.int xs.length) := rfl
@[simp] theorem lenD_tup (xs : List D) : lenD [.tup xs] S = some (.int xs.length) := rfl
@[simp] theorem lenD_scr (xs : List Int) : lenD [.scr xs] S = some (.int xs.length) := rfl
@[simp] theorem lenD_loc (n : Nat) : lenD [.loc n] S = (match S[n]? with
    | some (.lst xs) => some (.int xs.length)
    | _ => none) := rfl
@[simp] theorem absD_int (i : Int) : absD [.int i] S = some (.int (if i < 0 then -i else i)) := rfl
@[simp] theorem intD_bl (b : Bool) : intD [.bl b] S = some (.int (if b = true then 1 else 0)) := rfl
@[simp] theorem tupD_lst (xs : List D) : tupD [.lst xs] S = some (.tup xs) := rfl
@[simp] theorem tupD_loc (n : Nat) : tupD [.loc n] S = (match S[n]? with
    | some (.lst xs) => some (.tup xs)
    | _ => none) := rfl
@[simp] theorem maxD_ints (ns : List Int) : maxD [.lst (ns.map D.int)] S = (maxI ns).map D.int := by
  show ((intsOf (ns.map D.int)).bind maxI).map D.int = _
  rw [intsOf_map]
  rfl
@[simp] theorem allD_bls (bs : List Bool) : allD [.lst (bs.map D.bl)] S = some (.bl (bs.all id)) := by
  show (blsOf (bs.map D.bl)).map _ = _
  rw [blsOf_map]
  rfl
@[simp] theorem truD_bl (b : Bool) : truD (.bl b) S = some b := rfl
@[simp] theorem truD_int (i : Int) : truD (.int i) S = some (i != 0) := rfl
@[simp] theorem truD_tup (xs : List D) : truD (.tup xs) S = some (!xs.isEmpty) := rfl
@[simp] theorem truD_lst (xs : List D) : truD (.lst xs) S = some (!xs.isEmpty) := rfl
@[simp] theorem truD_scr (xs : List Int) : truD (.scr xs) S = some (!xs.isEmpty) := rfl
@[simp] theorem truD_loc (n : Nat) : truD (.loc n) S = (match S[n]? with
    | some (.lst xs) => some (!xs.isEmpty)
    | _ => none) := rfl
@[simp] theorem ixD_lst (xs : List D) (i : Int) : ixD (.lst xs) (.int i) S = atI xs i := rfl
@[simp] theorem ixD_tup (xs : List D) (i : Int) : ixD (.tup xs) (.int i) S = atI xs i := rfl
@[simp] theorem ixD_scr (xs : List Int) (i : Int) : ixD (.scr xs) (.int i) S = (atI xs i).map .int := rfl
@[simp] theorem ixD_loc (n : Nat) (i : Int) : ixD (.loc n) (.int i) S = (match S[n]? with
    | some (.lst xs) => atI xs i
    | _ => none) := rfl
@[simp] theorem seqD_lst (xs : List D) : seqD (.lst xs) = some xs := rfl
@[simp] theorem seqD_tup (xs : List D) : seqD (.tup xs) = some xs := rfl
@[simp] theorem seqD_scr (xs : List Int) : seqD (.scr xs) = some (xs.map D.int) := rfl
@[simp] theorem rng1_int (j : Int) : rng1 [.int j] = if -100000 ≤ j ∧ j ≤ 100000 then some (rng 0 j.toNat) else none := rfl
@[simp] theorem slD_lst (xs : List D) (lo hi : Option Int) : slD (.lst xs) lo hi S = some (.lst (cutL xs lo hi)) := rfl
@[simp] theorem slD_tup (xs : List D) (lo hi : Option Int) : slD (.tup xs) lo hi S = some (.tup (cutL xs lo hi)) := rfl
@[simp] theorem wipeE_nil : wipeE r [] = r := rfl
@[simp] theorem wipeE_cons (v : Nat) (vs : List Nat) : wipeE r (v :: vs) = (wipeE r vs).set v none := rfl
@[simp] theorem isND_non : isND .non .non S = some (.bl true) := rfl
end
theorem atI_zero {α : Type} (x : α) (xs : List α) : atI (x :: xs) 0 = some x := atI_nat (j := 0) rfl
theorem atI_neg1 {α : Type} (xs : List α) (x : α) : atI (xs ++ [x]) (-1) = some x := atI_last xs x
theorem ixN_nat {n j : Nat} (h : j < n) : ixN n (j : Int) = some j := by
  unfold ixN
  rw [if_pos (by omega), if_pos (by omega)]
  simp
theorem ixN_zero {n : Nat} (h : 0 < n) : ixN n 0 = some 0 := ixN_nat (j := 0) h
end Dv
namespace Dv
open PySem L2
def mDraw2 : SM :=
    (sSeq (sDrop (mAppend (mVar 1) (mC (.int 0))))
    (sSeq (sSet 3 (mCall lenD (mCons (mVar 1) mNil)))
    (sSeq (sSet 4 (mIf (mTru (mVar 0)) (mBin ixD (mVar 0) (mBin modD (mVar 3) (mCall lenD (mCons (mVar 0) mNil)))) (mC (.int 0))))
    (sSeq (sSet 5 (mBin modD (mBin ixD (mVar 1) (mC (.int 0))) (mC (.int 65536))))
    (sSeq (sSetIx (mVar 1) (mC (.int 0)) (mBin fdivD (mBin ixD (mVar 1) (mC (.int 0))) (mC (.int 65536))))
    (sSeq (sSet 6 (mBin modD (mBin addD (mBin addD (mVar 4) (mBin mulD (mC (.int 40503)) (mVar 5))) (mBin mulD (mC (.int 104729)) (mVar 3))) (mC (.int 4294967291))))
    (sSeq (sSet 6 (mBin modD (mBin mulD (mBin modD (mBin mulD (mVar 6) (mVar 6)) (mC (.int 4294967279))) (mC (.int 48271))) (mC (.int 4294967291))))
    (sSeq (sSet 7 (mBin modD (mBin mulD (mBin modD (mBin mulD (mVar 6) (mVar 6)) (mC (.int 4294967279))) (mC (.int 69621))) (mC (.int 4294967291))))
    (sRet (mBin modD (mBin addD (mBin mulD (mBin fdivD (mVar 6) (mC (.int 64))) (mC (.int 67108864))) (mBin fdivD (mVar 7) (mC (.int 64)))) (mVar 2)))))))))))
def mDraw : SM :=
    (sSeq (sIf (mNotT (mTru (mVar 1))) (sDrop (mAppend (mVar 1) (mCall maxD (mCons (mBin addD (mLc (mIter (mVar 0)) [4] (tgN 4) mYes (mCall absD (mCons (mVar 4) mNil))) (mLst (mCons (mC (.int 0)) mNil))) mNil)))) sNil)
    mDraw2)
def FDraw : List D → Store → R D := runT 8 mDraw
def absI (i : Int) : Int := if i < 0 then -i else i
theorem lc_abs (r0 : Env) (h4 : 4 < r0.length) (S : Store) : ∀ ns : List Int, lcL (tgN 4) mYes (mCall absD (mCons (mVar 4) mNil)) r0 (ns.map D.int) S = .ok ((ns.map absI).map D.int) S
  | [] => rfl
  | n :: ns => by
    have e : (r0.set 4 (some (D.int n)))[4]? = some (some (D.int n)) := List.getElem?_set_self h4
    rw [List.map_cons, lcL]
    simp [lc_abs r0 h4 S ns, absI, h4]
theorem maxI_cons : ∀ (x : Int) (xs : List Int), ∃ m, maxI (x :: xs) = some m
  | x, [] => ⟨x, rfl⟩
  | x, y :: ys => by
    obtain ⟨m, e⟩ := maxI_cons y ys
    show ∃ m, (maxI (y :: ys)).map (fun m => if m < x then x else m) = some m
    rw [e]
    exact ⟨_, rfl⟩
theorem maxI_app : ∀ (xs : List Int) (x : Int), ∃ m, maxI (xs ++ [x]) = some m
  | [], x => ⟨x, rfl⟩
  | y :: ys, x => maxI_cons y (ys ++ [x])
theorem atI_mod {α : Type} (x : α) (xs : List α) (k : Int) : ∃ y, atI (x :: xs) (k % ((xs.length : Int) + 1)) = some y := by
  have h1 : 0 ≤ k % ((xs.length : Int) + 1) := Int.emod_nonneg _ (by omega)
  have h2 : k % ((xs.length : Int) + 1) < xs.length + 1 := Int.emod_lt_of_pos _ (by omega)
  obtain ⟨j, ej⟩ : ∃ j : Nat, k % ((xs.length : Int) + 1) = j := ⟨_, (Int.toNat_of_nonneg h1).symm⟩
  rw [ej] at h2 ⊢
  have h3 : j < (x :: xs).length := by rw [List.length_cons]; omega
  exact ⟨(x :: xs)[j], atI_nat (List.getElem?_eq_getElem h3)⟩
theorem gs {S : Store} {t : Nat} {o : O} (h : S[t]? = some o) (o' : O) : (List.set S t o')[t]? = some o' := List.getElem?_set_self (List.getElem?_eq_some_iff.mp h).1
theorem draw_tail (ns ts : List Int) (t0 many : Int) (S : Store) (t : Nat) (hS : S[t]? = some (.lst ((t0 :: ts).map D.int))) (hl : ts.length < 99990) (hm : 0 < many) (y4 : Option D) : ∃ (r : Int) (ts' : List Int) (rho : Env), 0 ≤ r ∧ r < many ∧ ts'.length = ts.length + 2 ∧
    mDraw2 [some (.scr ns), some (.loc t), some (.int many), none, y4, none, none, none] S =
      .ok (.ret (.int r)) rho (S.set t (.lst (ts'.map D.int))) := by
  have ht : t < S.length := (List.getElem?_eq_some_iff.mp hS).1
  obtain ⟨c, hc⟩ : ∃ c, ∀ S' : Store, (mIf (mTru (mVar 0)) (mBin ixD (mVar 0) (mBin modD (mVar 3) (mCall lenD (mCons (mVar 0) mNil)))) (mC (.int 0))) [some (.scr ns), some (.loc t), some (.int many), some (.int ((ts.length : Int) + 1 + 1)), y4, none, none, none] S' = .ok (.int c) S' := by
    cases ns with
    | nil => exact ⟨0, fun _ => rfl⟩
    | cons n ns =>
      obtain ⟨x, ex⟩ := atI_mod n ns ((ts.length : Int) + 1 + 1)
      refine ⟨x, fun S' => ?_⟩
      have hp : (0 : Int) < (ns.length : Int) + 1 := by omega
      simp [hp, ex]
  have hlt : ts.length + 1 < 100000 := by omega
  have e1 : atI (D.int t0 :: (List.map D.int ts ++ [D.int 0])) 0 = some (D.int t0) := atI_zero _ _
  have e2 : ixN (ts.length + 1 + 1) 0 = some 0 := ixN_zero (by omega)
  have sm : ∀ a : Int, (-18446744073709551616 < a % 4294967291 ∧ a % 4294967291 < 18446744073709551616) := fun a => by omega
  have h : ∃ (a : Int) (rho : Env), mDraw2 [some (.scr ns), some (.loc t), some (.int many), none, y4, none, none, none] S = .ok (.ret (.int (a % many))) rho (S.set t (.lst (((t0 / 65536) :: (ts ++ [0])).map D.int))) := by
    unfold mDraw2
    simp [hS, gs hS, hlt, hc, e1, e2, sm, hm, -mIf_ap]
    exact ⟨_, rfl⟩
  obtain ⟨a, rho, e⟩ := h
  exact ⟨a % many, _, rho, Int.emod_nonneg _ (by omega), Int.emod_lt_of_pos _ hm, by simp, e⟩
theorem start_draw (ns : List Int) (t : Nat) (many : Int) : frame 8 [.scr ns, .loc t, .int many] = [some (.scr ns), some (.loc t), some (.int many), none, none, none, none, none] := rfl
section
variable {S S1 : Store} {rho : Env} {d d' : D}
open Classical in
theorem finT_ret (tr : Tr S S1) (e : fzD S.length S1 d = some d') : finT S (.ok (.ret d) rho S1) = .ok d' (S1.take S.length) := by
  have e' : fzE S.length S1 d = some d' := by unfold fzE; rw [e]
  simp only [finT, if_pos tr, e']
theorem take_app (E : Store) : (S ++ E).take S.length = S := by simp
theorem fz_clo (h : clo S.length d = true) : fzD S.length S1 d = some d := by
  cases d with
  | loc m =>
    have : m < S.length := of_decide_eq_true h
    show (if m < S.length then _ else _) = _
    rw [if_pos this]
  | _ => exact (if_pos h : (if clo S.length _ = true then some _ else none) = some _)
theorem fin_ret0 (h : clo S.length d = true) : finT S (.ok (.ret d) rho S) = .ok d S := by
  have t := Tr.app S []
  rw [List.append_nil] at t
  rw [finT_ret t (fz_clo h), List.take_length]
theorem fin_ret_app (E : Store) (h : fzD S.length (S ++ E) d = some d') : finT S (.ok (.ret d) rho (S ++ E)) = .ok d' S := by
  rw [finT_ret (Tr.app S E) h, take_app]
theorem fin_ret_set (n : Nat) (o : O) (ho : cloO S.length o = true) (h : clo S.length d = true) : finT S (.ok (.ret d) rho (List.set S n o)) = .ok d (List.set S n o) := by
  have t := Tr.set S [] n o ho
  rw [List.append_nil] at t
  rw [finT_ret t (fz_clo h), List.take_of_length_le (by rw [List.length_set]; exact Nat.le_refl _)]
end
theorem draw_ok (ns ts : List Int) (many : Int) (S : Store) (t : Nat) (hS : S[t]? = some (.lst (ts.map D.int))) (h63 : ns.length ≤ 63) (hl : ts.length < 99990) (hm : 0 < many) : ∃ (r : Int) (ts' : List Int), 0 ≤ r ∧ r < many ∧ ts'.length ≤ ts.length + 2 ∧
    FDraw [.scr ns, .loc t, .int many] S = .ok (.int r) (S.set t (.lst (ts'.map D.int))) := by
  have ht : t < S.length := (List.getElem?_eq_some_iff.mp hS).1
  obtain ⟨r, ts', rho, h0, h1, h2, e⟩ : ∃ (r : Int) (ts' : List Int) (rho : Env), 0 ≤ r ∧ r < many ∧ ts'.length ≤ ts.length + 2 ∧ mDraw (frame 8 [.scr ns, .loc t, .int many]) S = .ok (.ret (.int r)) rho (S.set t (.lst (ts'.map D.int))) := by
    rw [start_draw]
    unfold mDraw
    cases ts with
    | nil =>
      obtain ⟨m, em⟩ := maxI_app (ns.map absI) 0
      have hS' : (S.set t (.lst ([m].map D.int)))[t]? = some (.lst ([m].map D.int)) := gs hS _
      obtain ⟨r, ts', rho, h0, h1, h2, e⟩ := draw_tail ns [] m many (S.set t (.lst ([m].map D.int))) t hS' (by simp) hm none
      refine ⟨r, ts', rho, h0, h1, by simp at h2; simp [h2], ?_⟩
      rw [List.set_set] at e
      have hx : ns.length + 1 ≤ 100000 := by omega
      have em' : maxD [D.lst (List.map D.int (List.map absI ns) ++ [D.int 0])] S = some (.int m) := by
        rw [show List.map D.int (List.map absI ns) ++ [D.int 0] = (ns.map absI ++ [0]).map D.int by simp, maxD_ints, em]
        rfl
      rw [← e]
      simp only [List.map_nil] at hS
      have hlc := lc_abs [some (D.scr ns), some (D.loc t), some (D.int many), none, none, none, none, none] (by simp) S ns
      simp [hS, hlc, hx, em', -List.map_map]
    | cons t0 ts =>
      obtain ⟨r, ts', rho, h0, h1, h2, e⟩ := draw_tail ns ts t0 many S t hS (by simp at hl; omega) hm none
      refine ⟨r, ts', rho, h0, h1, by simp [h2], ?_⟩
      rw [← e]
      simp only [List.map_cons] at hS
      simp [hS]
  refine ⟨r, ts', h0, h1, h2, ?_⟩
  show finT S (mDraw (frame 8 _) S) = _
  rw [e]
  exact fin_ret_set t _ (cloL_ints _ _) rfl
end Dv
namespace Dv
open PySem L2
noncomputable instance : DecidableEq D := fun a b => Classical.propDecidable (a = b)
def pl : Nat → D → Bool
  | _, .non => true
  | _, .int _ => true
  | _, .str x => PyData.strOk x
  | k + 1, .tup xs => xs.all (pl k)
  | k + 1, .lst xs => xs.all (pl k)
  | _, _ => false
theorem pl_dat : ∀ (k : Nat) (d : D), pl k d = true → dat d = true ∧ (pyD d).canLay0 = true ∧ (pyD d).depth ≤ k
  | _, .non, _ => ⟨rfl, rfl, Nat.zero_le _⟩
  | _, .int _, _ => ⟨rfl, rfl, Nat.zero_le _⟩
  | _, .str x, h => ⟨rfl, by cases ‹Nat› <;> exact h, Nat.zero_le _⟩
  | 0, .tup _, h => by cases h
  | 0, .lst _, h => by cases h
  | 0, .bl _, h => by cases h
  | _ + 1, .bl _, h => by cases h
  | 0, .scr _, h => by cases h
  | _ + 1, .scr _, h => by cases h
  | 0, .dct _, h => by cases h
  | _ + 1, .dct _, h => by cases h
  | 0, .dtt _, h => by cases h
  | _ + 1, .dtt _, h => by cases h
  | 0, .dpr _ _, h => by cases h
  | _ + 1, .dpr _ _, h => by cases h
  | 0, .adr _, h => by cases h
  | _ + 1, .adr _, h => by cases h
  | 0, .loc _, h => by cases h
  | _ + 1, .loc _, h => by cases h
  | 0, .ty _, h => by cases h
  | _ + 1, .ty _, h => by cases h
  | 0, .tux _, h => by cases h
  | _ + 1, .tux _, h => by cases h
  | k + 1, .tup xs, h => by
    have h : xs.all (pl k) = true := h
    have r : ∀ ys : List D, ys.all (pl k) = true → dats ys = true ∧ PyData.canLayAll0 (pyDs ys) = true ∧ PyData.depthAll (pyDs ys) ≤ k := fun ys => by
      induction ys with
      | nil => exact fun _ => ⟨rfl, rfl, Nat.zero_le _⟩
      | cons y ys ih =>
        intro h
        rw [List.all_cons, Bool.and_eq_true] at h
        obtain ⟨a, b, c⟩ := pl_dat k y h.1
        obtain ⟨a', b', c'⟩ := ih h.2
        refine ⟨by show (dat y && dats ys) = true; rw [a, a']; rfl, by show (PyData.canLay0 (pyD y) && PyData.canLayAll0 (pyDs ys)) = true; rw [b, b']; rfl, ?_⟩
        show max (PyData.depth (pyD y)) (PyData.depthAll (pyDs ys)) ≤ k
        omega
    obtain ⟨a, b, c⟩ := r xs h
    exact ⟨a, b, by show PyData.depthAll (pyDs xs) + 1 ≤ _; omega⟩
  | k + 1, .lst xs, h => by
    have h : xs.all (pl k) = true := h
    have r : ∀ ys : List D, ys.all (pl k) = true → dats ys = true ∧ PyData.canLayAll0 (pyDs ys) = true ∧ PyData.depthAll (pyDs ys) ≤ k := fun ys => by
      induction ys with
      | nil => exact fun _ => ⟨rfl, rfl, Nat.zero_le _⟩
      | cons y ys ih =>
        intro h
        rw [List.all_cons, Bool.and_eq_true] at h
        obtain ⟨a, b, c⟩ := pl_dat k y h.1
        obtain ⟨a', b', c'⟩ := ih h.2
        refine ⟨by show (dat y && dats ys) = true; rw [a, a']; rfl, by show (PyData.canLay0 (pyD y) && PyData.canLayAll0 (pyDs ys)) = true; rw [b, b']; rfl, ?_⟩
        show max (PyData.depth (pyD y)) (PyData.depthAll (pyDs ys)) ≤ k
        omega
    obtain ⟨a, b, c⟩ := r xs h
    exact ⟨a, b, by show PyData.depthAll (pyDs xs) + 1 ≤ _; omega⟩
theorem pl_ok {k : Nat} {d : D} (h : pl k d = true) (hk : k ≤ 64) : okD d = true := by
  obtain ⟨a, b, c⟩ := pl_dat k d h
  unfold okD SeqAt.shaped
  rw [a, b, decide_eq_true (show (pyD d).depth ≤ 64 by omega)]
  rfl
theorem pl_all_eqv (k : Nat) (ih : ∀ a b : D, pl k a = true → pl k b = true → (PyData.eqv (pyD a) (pyD b) = true ↔ a = b)) : ∀ xs ys : List D, xs.all (pl k) = true → ys.all (pl k) = true → (PyData.eqvAll (pyDs xs) (pyDs ys) = true ↔ xs = ys)
  | [], [], _, _ => ⟨fun _ => rfl, fun _ => rfl⟩
  | [], y :: ys, _, _ => ⟨(by intro h; cases h), (by intro h; cases h)⟩
  | x :: xs, [], _, _ => ⟨(by intro h; cases h), (by intro h; cases h)⟩
  | x :: xs, y :: ys, h1, h2 => by
    rw [List.all_cons, Bool.and_eq_true] at h1 h2
    show (PyData.eqv (pyD x) (pyD y) && PyData.eqvAll (pyDs xs) (pyDs ys)) = true ↔ _
    rw [Bool.and_eq_true, ih x y h1.1 h2.1, pl_all_eqv k ih xs ys h1.2 h2.2, List.cons.injEq]
theorem pl_eqv : ∀ (k : Nat) (a b : D), pl k a = true → pl k b = true → (PyData.eqv (pyD a) (pyD b) = true ↔ a = b) := fun k => by
  induction k with
  | zero =>
    intro a b ha hb
    cases a <;> cases b <;> first | (simp [pl] at ha; done) | (simp [pl] at hb; done) | simp [pyD, PyData.eqv]
  | succ k ih =>
    intro a b ha hb
    cases a <;> cases b <;> first | (simp [pl] at ha; done) | (simp [pl] at hb; done) | simp [pyD, PyData.eqv]
    · exact pl_all_eqv k ih _ _ ha hb
    · exact pl_all_eqv k ih _ _ ha hb
theorem pl_eqvD {k : Nat} {a b : D} (ha : pl k a = true) (hb : pl k b = true) : eqvD a b = decide (a = b) := by
  by_cases h : a = b
  · rw [decide_eq_true h]
    exact (pl_eqv k a b ha hb).mpr h
  · rw [decide_eq_false h]
    cases q : eqvD a b with
    | false => rfl
    | true => exact absurd ((pl_eqv k a b ha hb).mp q) h
theorem eqO_pl {k : Nat} {a b : D} (ha : pl k a = true) (hb : pl k b = true) (hk : k ≤ 64) : eqO a b = some (decide (a = b)) := by
  have h : (if okD a = true ∧ okD b = true then some (eqvD a b) else none) = some (decide (a = b)) := by
    rw [if_pos ⟨pl_ok ha hk, pl_ok hb hk⟩, pl_eqvD ha hb]
  unfold eqO
  split
  · congr 1
    simp
  · congr 1
    simp
  · congr 1
    simp
  · exact h
theorem eqD_pl {k : Nat} {a b : D} {S : Store} (ha : pl k (now a S) = true) (hb : pl k (now b S) = true) (hk : k ≤ 64) : eqD a b S = some (.bl (decide (now a S = now b S))) := by
  unfold eqD
  rw [eqO_pl ha hb hk]
  rfl
theorem any_pl {k : Nat} {a : D} (ha : pl k a = true) : ∀ xs : List D, xs.all (pl k) = true → (xs.any fun z => eqvD z a) = decide (a ∈ xs)
  | [], _ => by simp
  | x :: xs, h => by
    rw [List.all_cons, Bool.and_eq_true] at h
    rw [List.any_cons, any_pl ha xs h.2, pl_eqvD h.1 ha]
    by_cases e : a = x
    · subst e; simp
    · have : ¬ x = a := fun z => e z.symm
      simp [e, this]
theorem inO_pl {k : Nat} {a : D} {xs : List D} (ha : pl k a = true) (hb : xs.all (pl k) = true) (hk : k + 1 ≤ 64) : inO a (.lst xs) = some (decide (a ∈ xs)) := by
  show (if okD a = true ∧ okD (.lst xs) = true then some (xs.any fun z => eqvD z a) else none) = _
  rw [if_pos ⟨pl_ok ha (by omega), pl_ok (k := k + 1) hb hk⟩, any_pl ha xs hb]
theorem pl_rowD (k : Nat) (ns : List Int) : pl (k + 1) (rowD ns) = true := by
  show (ns.map D.int).all (pl k) = true
  rw [List.all_map, List.all_eq_true]
  intro n _
  cases k <;> rfl
theorem pl_rows (k : Nat) (rows : List (List Int)) : (rows.map rowD).all (pl (k + 1)) = true := by
  rw [List.all_map, List.all_eq_true]
  intro n _
  exact pl_rowD k n
theorem map_int_inj {a b : List Int} (h : a.map D.int = b.map D.int) : a = b := by
  induction a generalizing b with
  | nil => cases b with
    | nil => rfl
    | cons => cases h
  | cons x xs ih => cases b with
    | nil => cases h
    | cons y ys =>
      rw [List.map_cons, List.map_cons, List.cons.injEq, D.int.injEq] at h
      rw [h.1, ih h.2]
theorem rowD_inj {a b : List Int} (h : rowD a = rowD b) : a = b := by
  unfold rowD at h
  injection h with h
  exact map_int_inj h
theorem mem_rowD {a : List Int} {rows : List (List Int)} : rowD a ∈ rows.map rowD ↔ a ∈ rows := by
  constructor
  · intro h
    obtain ⟨b, hb, e⟩ := List.mem_map.mp h
    rw [← rowD_inj e]
    exact hb
  · exact fun h => List.mem_map.mpr ⟨a, h, rfl⟩
end Dv
namespace Dv
open PySem L2
theorem sLoop_cons (gm : D → Env → Option Env) (b : SM) (d : D) (ds : List D) (r : Env) (S : Store) : sLoop gm b (d :: ds) r S = (match gm d r with
    | none => .bad
    | some r1 => match b r1 S with
      | .ok .next r2 S2 => sLoop gm b ds r2 S2
      | .ok .cont r2 S2 => sLoop gm b ds r2 S2
      | .ok .brk r2 S2 => .ok .next r2 S2
      | .ok (.ret d) r2 S2 => .ok (.ret d) r2 S2
      | .exc x r2 S2 => .exc x r2 S2
      | .bad => .bad) := rfl
theorem loop_inv {gm : D → Env → Option Env} {b : SM} (I : Nat → Env → Store → Prop) : ∀ (ds : List D) (k : Nat) (r : Env) (S : Store),
    (∀ i d r S, ds[i]? = some d → I (k + i) r S → ∃ r1 r2 S2, gm d r = some r1 ∧ (b r1 S = .ok .next r2 S2 ∨ b r1 S = .ok .cont r2 S2) ∧ I (k + i + 1) r2 S2) →
    I k r S → ∃ r' S', sLoop gm b ds r S = .ok .next r' S' ∧ I (k + ds.length) r' S'
  | [], k, r, S, _, h => ⟨r, S, rfl, h⟩
  | d :: ds, k, r, S, st, h => by
    obtain ⟨r1, r2, S2, e1, e2, h2⟩ := st 0 d r S rfl h
    obtain ⟨r', S', e3, h3⟩ := loop_inv I ds (k + 1) r2 S2 (fun i d' r S q h => by
      have := st (i + 1) d' r S q
      rw [show k + (i + 1) = k + 1 + i by omega] at this
      exact this h) h2
    refine ⟨r', S', ?_, by rw [List.length_cons, show k + (ds.length + 1) = k + 1 + ds.length by omega]; exact h3⟩
    rw [sLoop_cons, e1]
    rcases e2 with e2 | e2 <;> simp only [e2] <;> exact e3
theorem lcL_cons (gm : D → Env → Option Env) (tt : BM) (te : EM) (r0 : Env) (d : D) (ds : List D) (S : Store) : lcL gm tt te r0 (d :: ds) S = (match gm d r0 with
    | none => .bad
    | some r1 => (nox (tt r1 S)).bind fun b S1 => if b = true then (nox (te r1 S1)).bind fun y S2 => (lcL gm tt te r0 ds S2).bind fun ys S3 => .ok (y :: ys) S3 else lcL gm tt te r0 ds S1) := rfl
theorem lc_inv {gm : D → Env → Option Env} {te : EM} {r0 : Env} (I : Nat → List D → Store → Prop) : ∀ (ds : List D) (k : Nat) (zs : List D) (S : Store),
    (∀ i d zs S, ds[i]? = some d → I (k + i) zs S → ∃ r1 y S2, gm d r0 = some r1 ∧ te r1 S = .ok y S2 ∧ I (k + i + 1) (zs ++ [y]) S2) →
    I k zs S → ∃ ys S', lcL gm mYes te r0 ds S = .ok ys S' ∧ I (k + ds.length) (zs ++ ys) S'
  | [], k, zs, S, _, h => ⟨[], S, rfl, by rw [List.append_nil]; exact h⟩
  | d :: ds, k, zs, S, st, h => by
    obtain ⟨r1, y, S2, e1, e2, h2⟩ := st 0 d zs S rfl h
    obtain ⟨ys, S', e3, h3⟩ := lc_inv I ds (k + 1) (zs ++ [y]) S2 (fun i d' zs S q h => by
      have := st (i + 1) d' zs S q
      rw [show k + (i + 1) = k + 1 + i by omega] at this
      exact this h) h2
    refine ⟨y :: ys, S', ?_, by rw [List.length_cons, show k + (ds.length + 1) = k + 1 + ds.length by omega]; rwa [List.append_assoc] at h3⟩
    rw [lcL_cons, e1]
    simp [e2, e3]
theorem lc_pure {gm : D → Env → Option Env} {tt : BM} {te : EM} {r0 : Env} {S : Store} (p : D → Bool) (f : D → D) : ∀ ds : List D,
    (∀ d ∈ ds, ∃ r1, gm d r0 = some r1 ∧ tt r1 S = .ok (p d) S ∧ (p d = true → te r1 S = .ok (f d) S)) → lcL gm tt te r0 ds S = .ok ((ds.filter p).map f) S
  | [], _ => rfl
  | d :: ds, h => by
    obtain ⟨r1, e1, e2, e3⟩ := h d List.mem_cons_self
    have ih := lc_pure p f ds fun d h' => h d (List.mem_cons_of_mem _ h')
    rw [lcL_cons, e1]
    cases q : p d with
    | false => simp [e2, q, ih]
    | true => simp [e2, q, e3 q, ih]
theorem lc_map {gm : D → Env → Option Env} {te : EM} {r0 : Env} {S : Store} (f : D → D) (ds : List D)
    (h : ∀ d ∈ ds, ∃ r1, gm d r0 = some r1 ∧ te r1 S = .ok (f d) S) : lcL gm mYes te r0 ds S = .ok (ds.map f) S := by
  have := lc_pure (gm := gm) (tt := mYes) (te := te) (r0 := r0) (S := S) (fun _ => true) f ds fun d hd => by
    obtain ⟨r1, a, b⟩ := h d hd
    exact ⟨r1, a, rfl, fun _ => b⟩
  rw [this, List.filter_eq_self.mpr fun _ _ => rfl]
theorem rng_get {lo : Int} {n i : Nat} {d : D} (h : (rng lo n)[i]? = some d) : i < n ∧ d = .int (lo + i) := by
  unfold rng at h
  rw [List.getElem?_map] at h
  by_cases hi : i < n
  · rw [List.getElem?_range hi] at h
    cases h
    exact ⟨hi, rfl⟩
  · rw [List.getElem?_eq_none (by rw [List.length_range]; omega)] at h
    cases h
theorem rng0_get {n i : Nat} {d : D} (h : (rng 0 n)[i]? = some d) : i < n ∧ d = .int i := by
  obtain ⟨a, b⟩ := rng_get h
  exact ⟨a, by rw [b, Int.zero_add]⟩
def Twn (t n : Nat) (S : Store) : Prop := ∃ ts : List Int, ts.length ≤ n ∧ S[t]? = some (.lst (ts.map D.int))
def Dif (t : Nat) (S S' : Store) : Prop := ∃ ts : List Int, S' = List.set S t (.lst (ts.map D.int))
theorem Twn.mono {t n m : Nat} {S : Store} (h : Twn t n S) (hm : n ≤ m) : Twn t m S := by
  obtain ⟨ts, a, b⟩ := h
  exact ⟨ts, by omega, b⟩
theorem Dif.trans {t : Nat} {S S' S'' : Store} (h : Dif t S S') (h' : Dif t S' S'') : Dif t S S'' := by
  obtain ⟨a, rfl⟩ := h
  obtain ⟨b, rfl⟩ := h'
  exact ⟨b, by rw [List.set_set]⟩
theorem Twn.dif {t n : Nat} {S : Store} (h : Twn t n S) : Dif t S S := by
  obtain ⟨ts, _, b⟩ := h
  refine ⟨ts, ?_⟩
  obtain ⟨h1, h2⟩ := List.getElem?_eq_some_iff.mp b
  rw [← h2, List.set_getElem_self]
theorem Dif.len {t : Nat} {S S' : Store} (h : Dif t S S') : S'.length = S.length := by
  obtain ⟨a, rfl⟩ := h
  exact List.length_set
theorem Dif.other {t i : Nat} {S S' : Store} (h : Dif t S S') (hi : i ≠ t) : S'[i]? = S[i]? := by
  obtain ⟨a, rfl⟩ := h
  exact List.getElem?_set_ne (fun e => hi e.symm)
theorem Dif.fin {t : Nat} {S S' : Store} {rho : Env} {d : D} (h : Dif t S S') (hd : clo S.length d = true) : finT S (.ok (.ret d) rho S') = .ok d S' := by
  obtain ⟨a, rfl⟩ := h
  exact fin_ret_set t _ (cloL_ints _ _) hd
theorem draw_tw {ns : List Int} {many : Int} {S : Store} {t n : Nat} (h63 : ns.length ≤ 63) (h : Twn t n S) (hn : n < 99990) (hm : 0 < many) : ∃ (r : Nat) (S' : Store), (r : Int) < many ∧ Twn t (n + 2) S' ∧ Dif t S S' ∧ FDraw [.scr ns, .loc t, .int many] S = .ok (.int r) S' := by
  obtain ⟨ts, h1, h2⟩ := h
  obtain ⟨r, ts', a, b, c, e⟩ := draw_ok ns ts many S t h2 h63 (by omega) hm
  refine ⟨r.toNat, _, ?_, ⟨ts', ?_, ?_⟩, ⟨ts', rfl⟩, ?_⟩
  · omega
  · omega
  · exact gs h2 _
  · rw [Int.toNat_of_nonneg a]
    exact e
theorem ltR_tri : ∀ a b : List Int, ltR a b = false → ltR b a = false → a = b
  | [], [], _, _ => rfl
  | [], _ :: _, h, _ => by cases h
  | _ :: _, [], _, h => by cases h
  | x :: xs, y :: ys, h1, h2 => by
    rw [ltR, HT.lexLt_cons] at h1 h2
    by_cases e : x = y
    · subst e
      simp only [if_true] at h1 h2
      rw [ltR_tri xs ys h1 h2]
    · rw [if_neg e] at h1
      rw [if_neg (fun z => e z.symm)] at h2
      have := of_decide_eq_false h1
      have := of_decide_eq_false h2
      omega
theorem sortL_strict {α : Type} {lt : α → α → Bool} (O : SrtO.Swo lt) (tri : ∀ a b, lt a b = false → lt b a = false → a = b) {l : List α} (nd : l.Nodup) : (sortL lt l).Pairwise fun a b => lt a b = true := by
  have h1 : (sortL lt l).Pairwise fun a b => lt b a = false := sortL_srtd O l
  have h2 : (sortL lt l).Nodup := (sortL_perm l).nodup_iff.mpr nd
  refine (h1.and h2).imp fun {a b} h => ?_
  cases q : lt a b with
  | true => rfl
  | false => exact absurd (tri a b q h.1) h.2
theorem intsOf_row (r : List Int) (rs : List (List Int)) : intsOf ((r :: rs).map rowD) = none := rfl
theorem sortD_rows {S : Store} (rows : List (List Int)) (h : ∀ r ∈ rows, r ≠ []) : sortD [.lst (rows.map rowD)] S = some (.lst ((sortL ltR rows).map rowD)) := by
  cases rows with
  | nil => rfl
  | cons r rs =>
    show (match intsOf ((r :: rs).map rowD) with
      | some ns => some (D.lst ((sortL ltI ns).map D.int))
      | none => (rowsOf ((r :: rs).map rowD)).map fun rows => D.lst ((sortL ltR rows).map rowD)) = _
    rw [intsOf_row, rowsOf_map h]
    rfl
theorem cloL_rows (n : Nat) (rows : List (List Int)) : cloL n (rows.map rowD) = true := (cloL_iff n _).mpr fun d hd => by
  obtain ⟨r, _, rfl⟩ := List.mem_map.mp hd
  exact cloL_ints n r
def mRowsB : SM := (sSeq (sSet 7 (mCall tupD (mCons (mLc (mRng1 (mCons (mVar 2) mNil)) [8] (tgN 8) mYes (mApp 3 FDraw (mCons (mVar 0) (mCons (mVar 1) (mCons (mVar 4) mNil))))) mNil)))
    (sSet 5 (mBin addD (mVar 5) (mBin mulD (mLst (mCons (mVar 7) mNil)) (mCall intD (mCons (mBin ninD (mVar 7) (mVar 5)) mNil))))))
def mRows : SM :=
    (sSeq (sSet 5 (mLst mNil))
    (sSeq (sFor (mRng1 (mCons (mApp 3 FDraw (mCons (mVar 0) (mCons (mVar 1) (mCons (mBin addD (mVar 3) (mC (.int 1))) mNil)))) mNil)) (tgN 6) mRowsB)
    (sRet (mCall tupD (mCons (mCall sortD (mCons (mVar 5) mNil)) mNil)))))
def FRows : List D → Store → R D := runT 9 mRows
def Row (width : Nat) (far : Int) (r : List Int) : Prop := r.length = width ∧ ∀ x ∈ r, 0 ≤ x ∧ x < far
theorem rowsB_ok {ns : List Int} {t n width : Nat} {most far : Int} {S : Store} {rows : List (List Int)} (h63 : ns.length ≤ 63) (hw : width ≤ 1000) (hf : 0 < far) (ht : Twn t n S) (hn : n + 2 * width < 99000) (hr : rows.length < 90000) (y6 y7 y8 : Option D) :
    ∃ (row : List Int) (S' : Store) (y7' y8' : Option D), Row width far row ∧ Twn t (n + 2 * width) S' ∧ Dif t S S' ∧
    mRowsB [some (.scr ns), some (.loc t), some (.int width), some (.int most), some (.int far), some (.lst (rows.map rowD)), y6, y7, y8] S =
      .ok .next [some (.scr ns), some (.loc t), some (.int width), some (.int most), some (.int far), some (.lst ((if row ∈ rows then rows else rows ++ [row]).map rowD)), y6, y7', y8'] S' := by
  obtain ⟨ys, S', e, row, h0, h1, h2, h3, h4⟩ := lc_inv (gm := tgN 8) (te := mApp 3 FDraw (mCons (mVar 0) (mCons (mVar 1) (mCons (mVar 4) mNil))))
    (r0 := [some (.scr ns), some (.loc t), some (.int width), some (.int most), some (.int far), some (.lst (rows.map rowD)), y6, y7, none])
    (fun i zs S' => ∃ row : List Int, i ≤ width ∧ zs = row.map D.int ∧ Row i far row ∧ Twn t (n + 2 * i) S' ∧ Dif t S S') (rng 0 width) 0 [] S (fun i d zs S1 hd hi => by
      obtain ⟨hi2, rfl⟩ := rng_get hd
      obtain ⟨row, h0, h1, h2, h3, h4⟩ := hi
      obtain ⟨x, S2, a, b, c, e⟩ := draw_tw h63 h3 (by omega) hf
      refine ⟨_, .int x, S2, rfl, ?_, row ++ [(x : Int)], by omega, ?_, ⟨?_, ?_⟩, b.mono (by omega), h4.trans c⟩
      · simp
        exact e
      · rw [h1]; simp
      · simp [h2.1]
      · intro z hz
        rw [List.mem_append] at hz
        rcases hz with hz | hz
        · exact h2.2 z hz
        · rw [List.mem_singleton] at hz
          subst hz
          omega) ⟨[], Nat.zero_le _, rfl, ⟨rfl, by intro x hx; cases hx⟩, ht.mono (by omega), ht.dif⟩
  rw [rng_len, Nat.zero_add] at h0 h2 h3
  have hin : inO (rowD row) (.lst (rows.map rowD)) = some (decide (row ∈ rows)) := by
    rw [inO_pl (k := 1) (pl_rowD 0 row) (pl_rows 0 rows) (by decide)]
    congr 1
    exact decide_eq_decide.mpr mem_rowD
  have hnin : ninD (rowD row) (.lst (rows.map rowD)) S' = some (.bl (!decide (row ∈ rows))) := by
    show (inO (rowD row) (.lst (rows.map rowD))).map (fun k => D.bl (!k)) = _
    rw [hin]
    rfl
  have hys : ys = row.map D.int := by simpa using h1
  subst hys
  refine ⟨row, S', some (rowD row), y8, h2, h3, h4, ?_⟩
  have hw' : -100000 ≤ (width : Int) ∧ (width : Int) ≤ 100000 := by omega
  have hr' : rows.length ≤ 100000 := by omega
  have hr2 : rows.length + 1 ≤ 100000 := by omega
  unfold mRowsB
  have e' : D.tup (row.map D.int) = rowD row := rfl
  by_cases hm : row ∈ rows
  · simp [hw', e, e', hnin, hm, hr']
  · simp [hw', e, e', hnin, hm, hr', hr2]
theorem rows_ok {ns : List Int} {t n width most : Nat} {far : Int} {S : Store} (h63 : ns.length ≤ 63) (hw0 : 0 < width) (hw : width ≤ 1000) (hf : 0 < far) (ht : Twn t n S) (hn : n + 2 + 2 * width * most < 99000) (hr : most < 90000) :
    ∃ (rows : List (List Int)) (S' : Store), rows.length ≤ most ∧ (∀ r ∈ rows, Row width far r) ∧ (rows.Pairwise fun a b => ltR a b = true) ∧ Twn t (n + 2 + 2 * width * most) S' ∧ Dif t S S' ∧
    FRows [.scr ns, .loc t, .int width, .int most, .int far] S = .ok (.tup (rows.map rowD)) S' := by
  obtain ⟨m, S1, hm, t1, d1, e1⟩ := draw_tw (many := (most : Int) + 1) h63 ht (by omega) (by omega)
  have hmm : m ≤ most := by omega
  obtain ⟨r', S', e, rows, y6, y7, y8, rfl, h0, h1, h2, h3, h4⟩ := loop_inv (gm := tgN 6) (b := mRowsB)
    (fun i r S' => ∃ (rows : List (List Int)) (y6 y7 y8 : Option D), r = [some (.scr ns), some (.loc t), some (.int width), some (.int most), some (.int far), some (.lst (rows.map rowD)), y6, y7, y8] ∧
      rows.length ≤ i ∧ rows.Nodup ∧ (∀ r ∈ rows, Row width far r) ∧ Twn t (n + 2 + 2 * width * i) S' ∧ Dif t S S') (rng 0 m) 0 [some (.scr ns), some (.loc t), some (.int width), some (.int most), some (.int far), some (.lst (([] : List (List Int)).map rowD)), none, none, none] S1 (fun i d r S2 hd hi => by
      obtain ⟨hi2, rfl⟩ := rng_get hd
      obtain ⟨rows, y6, y7, y8, rfl, h0, h1, h2, h3, h4⟩ := hi
      have hle : 2 * width * (0 + i + 1) ≤ 2 * width * most := Nat.mul_le_mul_left _ (by omega)
      have hsu : 2 * width * (0 + i + 1) = 2 * width * (0 + i) + 2 * width := Nat.mul_succ _ _
      obtain ⟨row, S3, y7', y8', a, b, c, e⟩ := rowsB_ok (most := (most : Int)) h63 hw hf h3 (by omega) (show rows.length < 90000 by omega) (some (.int (0 + (i : Int)))) y7 y8
      refine ⟨_, _, S3, rfl, .inl e, (if row ∈ rows then rows else rows ++ [row]), _, _, _, rfl, ?_, ?_, ?_, b.mono (by omega), h4.trans c⟩
      · split
        · omega
        · rw [List.length_append, List.length_singleton]; omega
      · split
        · exact h1
        · rename_i q
          rw [List.nodup_append]
          refine ⟨h1, by simp, fun x hx y hy => ?_⟩
          rw [List.mem_singleton] at hy
          subst hy
          intro e
          subst e
          exact q hx
      · intro z hz
        split at hz
        · exact h2 z hz
        · rw [List.mem_append] at hz
          rcases hz with hz | hz
          · exact h2 z hz
          · rw [List.mem_singleton] at hz
            subst hz
            exact a) ⟨[], none, none, none, rfl, Nat.zero_le _, List.nodup_nil, (by intro x hx; cases hx), t1.mono (by omega), d1⟩
  rw [rng_len, Nat.zero_add] at h0 h3
  have hle : 2 * width * m ≤ 2 * width * most := Nat.mul_le_mul_left _ hmm
  have hne : ∀ r ∈ rows, r ≠ [] := fun r hr e => by
    have := (h2 r hr).1
    rw [e, List.length_nil] at this
    omega
  refine ⟨sortL ltR rows, S', by rw [sortL_len]; omega, fun r hr => h2 r ((sortL_perm rows).mem_iff.mp hr), sortL_strict ltR_swo ltR_tri h1, h3.mono (by omega), h4, ?_⟩
  show finT S (mRows (frame 9 _) S) = _
  have hmr : -100000 ≤ (m : Int) ∧ (m : Int) ≤ 100000 := by omega
  have ef : frame 9 [.scr ns, .loc t, .int width, .int most, .int far] = [some (.scr ns), some (.loc t), some (.int width), some (.int most), some (.int far), none, none, none, none] := rfl
  have eb : ∃ rho, mRows (frame 9 [.scr ns, .loc t, .int width, .int most, .int far]) S = .ok (.ret (.tup ((sortL ltR rows).map rowD))) rho S' := by
    rw [ef]
    unfold mRows
    simp only [List.map_nil] at e
    simp [e1, hmr, e, sortD_rows rows hne]
  obtain ⟨rho, eb⟩ := eb
  rw [eb]
  refine h4.fin ?_
  show cloL _ _ = true
  exact cloL_rows _ _
end Dv
namespace Dv
open PySem L2
end Dv
namespace Dv
open PySem L2
section
variable {S : Store} {l v : Nat} {rows : List (List Int)} {lv : List (Nat × Nat × Nat)} {m : Int}
end
end Dv
set_option maxHeartbeats 4000000
namespace Dv
open PySem PySem.Spec PyProof.Rows L2
section
variable {P : Program} {w : World} {A : Around} {E : Value → Shared → Prop} {s : Shared}
end
end Dv
namespace Dv
open PySem PySem.Spec PyProof.Rows L2
section
variable {X : Cx}
end
end Dv
namespace Dv
open PySem L2
section
variable (K : PySem.W.Frag) (mg : Str → Option Value)
def POk2N (r : R2) (f : D → D → Store → Option (List D)) : Prop := ∀ T S H x y a b ds (Q : VK), Sim K mg T S H → Rep K T H x a → Rep K T H y b → f a b S = some ds →
  (∀ vs p, RepL K T H vs ds → vs.length ≤ sizeLine → H p = none → Q (.ref p) (upd H p (.lst vs))) → r x y H Q
end
def newO (o : Option (List D)) (S : Store) : R D := match o with
  | some ds => .ok (.loc S.length) (S ++ [.lst ds])
  | none => .bad
def mBinN (f : D → D → Store → Option (List D)) (ma mb : EM) : EM := fun r S => (ma r S).bind fun a S1 => (mb r S1).bind fun b S2 => newO (f a b S2) S2
@[simp] theorem newO_some (ds : List D) (S : Store) : newO (some ds) S = .ok (.loc S.length) (S ++ [.lst ds]) := rfl
@[simp] theorem mBinN_ap {f : D → D → Store → Option (List D)} {ma mb : EM} {r : Env} {S : Store} : mBinN f ma mb r S = (ma r S).bind fun a S1 => (mb r S1).bind fun b S2 => newO (f a b S2) S2 := rfl
section
variable {X : Cx} {Wx : WX} {a b : Expr} {es : List Expr} {pos : Pos} {ma mb : EM} {ms : AM}
theorem newO_use {K : PySem.W.Frag} {mg : Str → Option Value} {T : Tb} {S : Store} {H : Hp} {g : St} {o : Option (List D)} {Q : VK} (sim : Sim K mg T S H) (h : Out K mg Wx (Rep K) T g H (newO o S) Q) : ∃ ds, o = some ds ∧ ∀ vs p, RepL K T H vs ds → vs.length ≤ sizeLine → H p = none → Q (.ref p) (upd H p (.lst vs)) := by
  cases o with
  | none => exact h.elim
  | some ds =>
    refine ⟨ds, rfl, fun vs p rl hz hp => ?_⟩
    have st : Step T H (T.add p) (upd H p (.lst vs)) := sim.stepAlloc hp
    exact h (T.add p) _ _ st (sim.alloc hp (hlen_lst sim.hl hz) ⟨vs, upd_same, rl.step st⟩) (.loc sim.newGet)
theorem j_binN {op : Operator} {r : R2} {f : D → D → Store → Option (List D)} (ho : OpR X (binaryOp op) r) (hf : POk2N X.K X.mg r f) (ha : PE X a (tD X.K X.mg Wx ma)) (hb : PE X b (tD X.K X.mg Wx mb)) : PE X (.BinOp a op b pos) (tD X.K X.mg Wx (mBinN f ma mb)) := by
  refine pe_imp (pe_op ho ha hb) fun g H Q h => ?_
  obtain ⟨T, r, S, rs, sim, h⟩ := h
  refine ⟨T, r, S, rs, sim, Out.bind h fun x S1 T1 H1 v st sim1 rel h1 => ?_⟩
  refine ⟨T1, r, S1, rs.step st, sim1, Out.bind h1 fun y S2 T2 H2 w st2 sim2 rel2 h2 => ?_⟩
  obtain ⟨ds, e, k⟩ := newO_use sim2 h2
  exact hf T2 S2 H2 v w x y ds Q sim2 (rel.step st2) rel2 e k
end
def lstAt (d : D) (S : Store) : Option (List D) := match d with
  | .lst xs => some xs
  | .loc n => match S[n]? with
    | some (.lst xs) => some xs
    | _ => none
  | _ => none
@[simp] theorem lstAt_lst (xs : List D) (S : Store) : lstAt (.lst xs) S = some xs := rfl
@[simp] theorem lstAt_loc (n : Nat) (S : Store) : lstAt (.loc n) S = (match S[n]? with
    | some (.lst xs) => some xs
    | _ => none) := rfl
section
variable {K : PySem.W.Frag} {mg : Str → Option Value} {T : Tb} {S : Store} {H : Hp}
theorem lstAt_rep {v : V} {d : D} {ds : List D} (sim : Sim K mg T S H) (r : Rep K T H v d) (e : lstAt d S = some ds) : ∃ a xs, v = .ref a ∧ H a = some (.lst xs) ∧ RepL K T H xs ds ∧ xs.length ≤ sizeLine := by
  cases r with
  | lst h n r =>
    cases e
    exact ⟨_, _, rfl, h, r, sim.hl _ _ (.inl (.inl h))⟩
  | @loc a n h =>
    simp only [lstAt] at e
    split at e
    · rename_i ys hs
      cases e
      obtain ⟨xs, h1, h2⟩ := sim.obj n a _ h hs
      exact ⟨a, xs, rfl, h1, h2, sim.hl _ _ (.inl (.inl h1))⟩
    · cases e
  | _ => cases e
end
def catN (a b : D) (S : Store) : Option (List D) := match lstAt a S, lstAt b S with
  | some xs, some ys => if xs.length + ys.length ≤ 100000 then some (xs ++ ys) else none
  | _, _ => none
section
variable {K : PySem.W.Frag} {mg : Str → Option Value}
theorem pok_catN : POk2N K mg (rAddA K) catN := fun T S H x y a b ds Q sim rx ry e k => by
  unfold catN at e
  split at e
  · rename_i xs ys h1 h2
    split at e
    · rename_i hz
      cases e
      obtain ⟨p, us, rfl, hp, r1, _⟩ := lstAt_rep sim rx h1
      obtain ⟨q, vs, rfl, hq, r2, _⟩ := lstAt_rep sim ry h2
      have hz' : us.length + vs.length ≤ sizeLine := by rw [r1.length, r2.length]; exact sz5 hz
      exact .inr (.inr (.inr ⟨p, q, us, vs, rfl, rfl, hp, hq, hz', fun o ho => k _ o (RepL.append r1 r2) (by rw [List.length_append]; exact hz') ho⟩))
    · cases e
  · cases e
def addL (a b : D) (S : Store) : Option D := (catN a b S).map .lst
theorem pok_addL : POk2 K mg (rAddA K) addL := fun T S H x y a b d Q sim rx ry e k => by
  unfold addL at e
  cases q : catN a b S with
  | none => rw [q] at e; cases e
  | some ds =>
    rw [q] at e
    cases e
    refine pok_catN T S H x y a b ds Q sim rx ry q fun vs p rl hz hp => ?_
    have st := sim.stepNew (o := .lst vs) hp
    exact k _ _ st (sim.new hp (hlen_lst sim.hl hz)) (.lst upd_same (sim.off hp) (rl.step st))
theorem fn_bad {P : Program} {w : World} {base : Heap} {CX : CXT} {k : Nat} {f : Addr} {fd : FuncData} {ps : List Str} : FnOk P w K mg base CX k f fd ps (spD K mg ps.length fun _ _ => .bad) := by
  refine ⟨fun vs H Q E q => q.1, fun A outer s H args us vs Q E hr he hb hv hs => ?_⟩
  obtain ⟨hl, T, S, ds, rep, sim, out⟩ := hs
  exact out.elim
end
end Dv
namespace Dv
open PySem L2
def tk (rows : List (List Int)) (d i : Nat) : List Int := (rows.getD i []).take d
def cl (rows : List (List Int)) (k i : Nat) : Int := (rows.getD i []).getD k 0
section
variable {rows : List (List Int)} {w : Nat}
structure Blk (rows : List (List Int)) (k lo far : Nat) : Prop where
  lt : lo < far
  le : far ≤ rows.length
  iff : ∀ i, i < rows.length → (tk rows k i = tk rows k lo ↔ lo ≤ i ∧ i < far)
structure St (rows : List (List Int)) (k : Nat) (x : Nat × Nat × Nat) : Prop where
  blk : Blk rows k x.1 x.2.1
  lo : x.1 ≤ x.2.2
  hi : x.2.2 ≤ x.2.1
  gs : x.2.2 < x.2.1 → ∀ i, x.1 ≤ i → i < x.2.2 → cl rows k i < cl rows k x.2.2
end
end Dv
namespace Dv
open PySem L2
section
variable {S : Store} {l v : Nat} {rows : List (List Int)} {lv : List (Nat × Nat × Nat)} {m : Int} {w : Nat}
end
end Dv
namespace Dv
open PySem L2
section
variable {S S1 : Store} {l v : Nat} {rows : List (List Int)} {lv : List (Nat × Nat × Nat)} {m : Int} {w : Nat}
end
end Dv
namespace Dv
open PySem L2
def mSame (self : List D → Store → R D) : SM :=
    (sSeq (sIf (mT (mBin isND (mVar 1) (mC .non))) (sRet (mBin isND (mVar 0) (mC .non))) sNil)
    (sSeq (sIf (mTru (mCall isiD (mCons (mVar 1) (mCons (mC (.ty "bool")) mNil)))) (sRet (mAnd (mCall isiD (mCons (mVar 0) (mCons (mC (.ty "bool")) mNil))) (mBin eqD (mVar 0) (mVar 1)))) sNil)
    (sSeq (sIf (mTru (mCall isiD (mCons (mVar 1) (mCons (mC (.ty "tuple")) mNil)))) (sSeq (sIf (mOrT (mNotT (mTru (mCall isiD (mCons (mVar 0) (mCons (mC (.ty "tuple")) mNil))))) (mT (mBin neD (mCall lenD (mCons (mVar 0) mNil)) (mCall lenD (mCons (mVar 1) mNil))))) (sRet (mC (.bl false))) sNil)
    (sRet (mCall allD (mCons (mLc (mZip (mCons (mVar 0) (mCons (mVar 1) mNil))) [2, 3] (tgT 2 (tgsCons (tgN 2) (tgsCons (tgN 3) tgsNil))) mYes (mApp 2 self (mCons (mVar 2) (mCons (mVar 3) mNil)))) mNil)))) sNil)
    (sSeq (sIf (mTru (mCall isiD (mCons (mVar 1) (mCons (mC (.ty "str")) mNil)))) (sRet (mAnd (mCall isiD (mCons (mVar 0) (mCons (mC (.ty "str")) mNil))) (mBin eqD (mVar 0) (mVar 1)))) sNil)
    (sRet (mAnd (mCall isiD (mCons (mVar 0) (mCons (mC (.ty "int")) mNil))) (mAnd (mNot (mCall isiD (mCons (mVar 0) (mCons (mC (.ty "bool")) mNil)))) (mBin eqD (mVar 0) (mVar 1)))))))))
def FSame : Nat → List D → Store → R D
  | 0 => fun _ _ => .bad
  | n + 1 => runT 4 (mSame (FSame n))
def pt : Nat → D → Bool
  | _, .non => true
  | _, .bl _ => true
  | _, .int _ => true
  | _, .str _ => true
  | k + 1, .tup xs => xs.all (pt k)
  | _, _ => false
theorem same_zip {S : Store} (f : List D → Store → R D) (k : Nat) (ih : ∀ a b, pt k a = true → pt k b = true → f [a, b] S = .ok (.bl (decide (a = b))) S) (r0 : Env) (h0 : r0.length = 4) : ∀ xs ys : List D, xs.all (pt k) = true → ys.all (pt k) = true →
    lcL (tgT 2 (tgsCons (tgN 2) (tgsCons (tgN 3) tgsNil))) mYes (mApp 2 f (mCons (mVar 2) (mCons (mVar 3) mNil))) r0 (List.zipWith (fun a b => D.tup [a, b]) xs ys) S = .ok ((List.zipWith (fun a b => decide (a = b)) xs ys).map D.bl) S
  | [], _, _, _ => by simp [lcL]
  | x :: xs, [], _, _ => by simp [lcL]
  | x :: xs, y :: ys, h1, h2 => by
    rw [List.all_cons, Bool.and_eq_true] at h1 h2
    rw [List.zipWith_cons_cons, lcL_cons]
    have e := same_zip f k ih r0 h0 xs ys h1.2 h2.2
    have e2 := ih x y h1.1 h2.1
    simp [h0, e, e2]
theorem zip_all : ∀ xs ys : List D, xs.length = ys.length → ((List.zipWith (fun a b => decide (a = b)) xs ys).all id) = decide (xs = ys)
  | [], [], _ => by simp
  | x :: xs, y :: ys, h => by
    rw [List.zipWith_cons_cons, List.all_cons, zip_all xs ys (by simpa using h)]
    by_cases e : x = y
    · subst e; simp
    · simp [e]
theorem same_ok {S : Store} : ∀ (n k : Nat), k < n → ∀ a b, pt k a = true → pt k b = true → FSame n [a, b] S = .ok (.bl (decide (a = b))) S
  | 0, k, h, _, _, _, _ => absurd h (Nat.not_lt_zero _)
  | n + 1, k, h, a, b, ha, hb => by
    have eb : ∃ rho, mSame (FSame n) (frame 4 [a, b]) S = .ok (.ret (.bl (decide (a = b)))) rho S := by
      rw [show frame 4 [a, b] = [some a, some b, none, none] from rfl]
      unfold mSame
      have i1 : ∀ d, pt k d = true → ∀ S, isiD [d, .ty "bool"] S = some (.bl (match d with | .bl _ => true | _ => false)) := fun d hd S => by
        cases d <;> first | rfl | (cases k <;> cases hd)
      have i2 : ∀ d, pt k d = true → ∀ S, isiD [d, .ty "tuple"] S = some (.bl (match d with | .tup _ => true | _ => false)) := fun d hd S => by
        cases d <;> first | rfl | (cases k <;> cases hd)
      have i3 : ∀ d, pt k d = true → ∀ S, isiD [d, .ty "str"] S = some (.bl (match d with | .str _ => true | _ => false)) := fun d hd S => by
        cases d <;> first | rfl | (cases k <;> cases hd)
      have i4 : ∀ d, pt k d = true → ∀ S, isiD [d, .ty "int"] S = some (.bl (match d with | .int _ => true | .bl _ => true | _ => false)) := fun d hd S => by
        cases d <;> first | rfl | (cases k <;> cases hd)
      have j1 : ∀ d, pt k d = true → ∀ S, isND d .non S = some (.bl (match d with | .non => true | _ => false)) := fun d hd S => by
        cases d <;> rfl
      have q1 : ∀ x y : Bool, ∀ S, eqD (.bl x) (.bl y) S = some (.bl (decide (x = y))) := fun _ _ _ => rfl
      have q2 : ∀ x y : Str, ∀ S, eqD (.str x) (.str y) S = some (.bl (decide (x = y))) := fun _ _ _ => rfl
      cases b with
      | tup ys =>
        cases a with
        | tup xs =>
          cases k with
          | zero => cases ha
          | succ k =>
            have z := same_zip (S := S) (FSame n) k (fun a b h1 h2 => same_ok n k (by omega) a b h1 h2) [some (.tup xs), some (.tup ys), none, none] rfl xs ys ha hb
            by_cases hl : xs.length = ys.length
            · have hz := zip_all xs ys hl
              have e1 : ((xs.length : Int) = (ys.length : Int)) := by rw [hl]
              have e2 : zipD [.tup xs, .tup ys] = some (List.zipWith (fun a b => D.tup [a, b]) xs ys) := rfl
              have e3 := allD_bls (S := S) (List.zipWith (fun a b => decide (a = b)) xs ys)
              simp [i1 _ ha, i1 _ hb, i2 _ ha, i2 _ hb, j1 _ hb, e1, e2, z, e3, hz, -List.map_zipWith]
            · have e1 : ¬ ((xs.length : Int) = (ys.length : Int)) := by omega
              have e2 : ¬ xs = ys := fun e => hl (by rw [e])
              simp [i1 _ ha, i1 _ hb, i2 _ ha, i2 _ hb, j1 _ hb, e1, e2]
        | _ => simp [i1 _ ha, i1 _ hb, i2 _ ha, i2 _ hb, j1 _ hb]
      | _ => cases a <;> simp [i1 _ ha, i1 _ hb, i2 _ ha, i2 _ hb, i3 _ ha, i3 _ hb, i4 _ ha, j1 _ hb, j1 _ ha, q1, q2] <;> (first | done | (cases k <;> cases hb) | (cases k <;> cases ha))
    obtain ⟨rho, eb⟩ := eb
    show finT S (mSame (FSame n) (frame 4 _) S) = _
    rw [eb]
    exact fin_ret0 rfl
end Dv
namespace Dv
open PySem L2
def mPick : SM := (sRet (mBin ixD (mVar 2) (mApp 3 FDraw (mCons (mVar 0) (mCons (mVar 1) (mCons (mCall lenD (mCons (mVar 2) mNil)) mNil))))))
def FPick : List D → Store → R D := runT 3 mPick
theorem pick_tw {ns : List Int} {S : Store} {t n : Nat} {seq : D} {xs : List D} (h63 : ns.length ≤ 63) (h : Twn t n S) (hn : n < 99990) (hs : seq = .lst xs ∨ seq = .tup xs) (hne : xs ≠ []) (hc : ∀ m, cloL m xs = true) : ∃ (i : Nat) (d : D) (S' : Store), xs[i]? = some d ∧ Twn t (n + 2) S' ∧ Dif t S S' ∧ FPick [.scr ns, .loc t, seq] S = .ok d S' := by
  have hl : 0 < xs.length := List.length_pos_iff.mpr hne
  obtain ⟨r, S', a, b, c, e⟩ := draw_tw (many := (xs.length : Int)) h63 h hn (by omega)
  have hr : r < xs.length := by omega
  refine ⟨r, xs[r], S', List.getElem?_eq_getElem hr, b, c, ?_⟩
  have eb : ∃ rho, mPick (frame 3 [.scr ns, .loc t, seq]) S = .ok (.ret xs[r]) rho S' := by
    rw [show frame 3 [.scr ns, .loc t, seq] = [some (.scr ns), some (.loc t), some seq] from rfl]
    unfold mPick
    have ea : atI xs (r : Int) = some xs[r] := atI_nat (List.getElem?_eq_getElem hr)
    rcases hs with rfl | rfl
    · simp [e, ea]
    · simp [e, ea]
  obtain ⟨rho, eb⟩ := eb
  show finT S (mPick (frame 3 _) S) = _
  rw [eb]
  exact c.fin ((cloL_iff _ _).mp (hc _) _ (List.getElem_mem hr))
structure Tq (S S1 : Store) : Prop where
  len : S.length ≤ S1.length
  oth : ∀ i, i < S.length → i ≠ 0 → S1[i]? = S[i]?
end Dv
namespace Dv
open PySem L2
section
variable {K : PySem.W.Frag} {mg : Str → Option Value} {Wx : WX} {T : Tb} {H : Hp} {g : L2.St}
end
section
variable {X : Cx} {Wx : WX} {elt tg iter tg1 iter1 : Expr} {ifs ifs1 : List Expr} {scope : Scope} {own : List (Str × Nat)} {pos : Pos} {mi mi1 : IM} {sl sl1 vs1 : List Nat} {gm gm1 : D → Env → Option Env} {tt tt1 : BM} {te : EM}
end
end Dv
namespace Dv
open PySem L2
section
variable {K : PySem.W.Frag} {mg : Str → Option Value} {T : Tb} {H : Hp} {S : Store}
end
section
variable {X : Cx} {Wx : WX} {o i e f : Expr} {pos apos cpos : Pos} {mo mi mx : EM}
end
end Dv
namespace Dv
open PySem L2
section
variable {K : PySem.W.Frag} {mg : Str → Option Value} {T : Tb} {H : Hp}
end
section
variable {X : Cx} {Wx : WX} {kx vx tg iter : Expr} {ifs : List Expr} {scope : Scope} {own : List (Str × Nat)} {pos : Pos} {mi : IM} {sl : List Nat} {gm : D → Env → Option Env} {tt : BM} {tk tv : EM} {nw : Bool}
end
end Dv
namespace Dv
open PySem PySem.Spec PyProof.Rows L2
section
variable {prog : Program} {w : World} {K : Type} [DecidableEq K] {knd : KeyKind prog w K} {A : Around} {E : Value → Shared → Prop} {s : Shared}
end
section
variable {X : Cx} {o e f : Expr} {apos cpos : Pos} {td ty tx : TE}
end
section
variable {X : Cx} {Wx : WX} {o i e f : Expr} {pos apos cpos : Pos} {mo mi mx : EM}
end
end Dv
namespace Dv
open PySem L2
section
variable {K : PySem.W.Frag} {mg : Str → Option Value} {T : Tb} {H : Hp} {S : Store}
end
section
variable {X : Cx} {Wx : WX} {kx vx : Expr} {ifs : List Expr} {scope : Scope} {own : List (Str × Nat)} {pos apos cpos npos tpos : Pos} {elts : List Expr} {kk : Nat} {sl : List Nat} {gm : D → Env → Option Env} {tt : BM} {tk tv : EM} {nw : Bool} {i : Nat} {x : Str}
end
end Dv
namespace Dv
open PySem PySem.Spec PyProof.Rows L2
section
variable {X : Cx} {Wx : WX} {o e : Expr} {apos pos : Pos} {mo m : EM}
end
end Dv
namespace Dv
open PySem PySem.Spec PyProof.Rows L2
section
variable {X : Cx}
end
section
variable {K : PySem.W.Frag} {mg : Str → Option Value} {T : Tb} {H : Hp}
end
section
variable {X : Cx} {Wx : WX} {ms : AM} {es : List Expr} {x y : Str} {p p' pos pos' : Pos} {e : Expr}
end
end Dv
namespace Dv
open PySem L2
def flatD : D → Bool
  | .non => true
  | .bl _ => true
  | .int _ => true
  | .str _ => true
  | _ => false
def inTO (a b : D) : Option Bool := match b with
  | .tup xs => if flatD a = true ∧ xs.all flatD = true then some (xs.any fun z => eqvD z a) else none
  | b => inO a b
def inTD (a b : D) (S : Store) : Option D := (inTO (now a S) (now b S)).map .bl
section
variable {X : Cx} {K : PySem.W.Frag} {mg : Str → Option Value} {T : Tb} {H : Hp} {S : Store}
theorem flat_eq {v v' : V} {d d' : D} (h : Rep K T H v d) (h' : Rep K T H v' d') (f : flatD d = true) (f' : flatD d' = true) : flatV v = true ∧ eqV v v' = eqvD d d' := by
  cases h <;> first | (cases f; done) | skip
  all_goals (cases h' <;> first | (cases f'; done) | skip)
  all_goals first | exact ⟨rfl, rfl⟩ | exact ⟨rfl, by simp [eqV, eqvD, pyD, PyData.eqv]⟩
theorem flat_any {v : V} {d : D} (h : Rep K T H v d) (f : flatD d = true) : ∀ {vs : List V} {ds : List D}, RepL K T H vs ds → ds.all flatD = true → vs.all flatV = true ∧ (vs.any fun y => eqV y v) = ds.any fun z => eqvD z d
  | _, _, .nil, _ => ⟨rfl, rfl⟩
  | _, _, .cons (v := u) (d := e) a b, g => by
    rw [List.all_cons, Bool.and_eq_true] at g
    obtain ⟨q1, q2⟩ := flat_eq a h g.1 f
    obtain ⟨q3, q4⟩ := flat_any h f b g.2
    exact ⟨by rw [List.all_cons, q1, q3]; rfl, by rw [List.any_cons, List.any_cons, q2, q4]⟩
def rInT (K : PySem.W.Frag) : R2 := fun x y H Q => rInD K x y H Q ∨ rIn K false x y H Q
theorem op_inT (hu : X.A.units + 65 < cLine) : OpR X (compareOp .In) (rInT X.K) := (op_inD hu).or op_in_seq
theorem now_flat {d : D} (f : flatD (now d S) = true) : now d S = d := by
  cases d with
  | loc n =>
    simp only [now] at f ⊢
    split at f <;> cases f
  | _ => rfl
theorem now_tup {d : D} {xs : List D} (e : now d S = .tup xs) : d = .tup xs := by
  cases d with
  | loc n =>
    simp only [now] at e
    split at e <;> cases e
  | _ => exact e
theorem pok_inT : POk2 K mg (rInT K) inTD := fun T S H x y a b d Q sim rx ry e k => by
  unfold inTD at e
  obtain ⟨t, e1, rfl⟩ := Option.map_eq_some_iff.mp e
  unfold inTO at e1
  split at e1
  · rename_i xs eb
    split at e1
    · rename_i hf
      cases e1
      have h1 := now_tup eb
      subst h1
      have en := now_flat hf.1
      rw [en] at hf k
      cases ry with
      | tup h n r =>
        obtain ⟨q1, q2⟩ := flat_any rx hf.1 r hf.2
        have q0 : flatV x = true := (flat_eq rx rx hf.1 hf.1).1
        refine .inr ⟨_, _, rfl, .inr (SqT.of h), q0, q1, ?_⟩
        show Q (.bl (inV x _)) H
        unfold inV
        rw [q2]
        exact k H _ (Step.refl T H) sim (.bl _)
    · cases e1
  · have e2 : inD a b S = some (.bl t) := by
      unfold inD
      rw [e1]
      rfl
    exact .inl (pok_in T S H x y a b (.bl t) Q sim rx ry e2 k)
end
end Dv
namespace Dv
open PySem L2
end Dv
namespace Dv
open PySem PySem.Spec PyProof.Rows L2
section
variable {prog : Program} {w : World} {A : Around}
end
section
variable {X : Cx}
end
section
variable {X : Cx} {K : PySem.W.Frag} {mg : Str → Option Value} {T : Tb} {H : Hp}
end
end Dv
namespace Dv
open PySem L2
section
variable {K : PySem.W.Frag} {mg : Str → Option Value}
end
section
variable {X : Cx} {Wx : WX} {e : Expr} {ms : AM} {pos p tpos : Pos} {elts : List Expr} {kk : Nat}
end
end Dv
namespace Dv
open PySem PySem.Spec PyProof.Rows
section
variable {prog : Program} {w : World} {A : Around} {s : Shared}
end
end Dv
namespace Dv
open PySem PySem.Spec PyProof.Rows L2 LamX
section
variable {K : PySem.W.Frag} {mg : Str → Option Value} {T : Tb} {H H1 : Hp} {S : Store} {P c' : Addr} {x q : Str} {ps : Array Value}
end
section
variable {X : Cx} {pins : List (Addr × Obj)} {σ : L2.St} {H : Hp} {s : Shared}
end
end Dv
namespace Dv
open PySem PySem.Spec PyProof.Rows L2 LamX PySem.W
section
variable {X : Cx} {Wx : WX}
end
end Dv
namespace Lp
end Lp
namespace Dv
open PySem L2
section
variable {rows : List (List Int)} {S0 : Store} {order : List Nat} {fu : Nat}
end
end Dv
namespace Dv
open PySem L2
end Dv
namespace Dv
open PySem L2
abbrev Gd := Store → Bool
abbrev IG := Env → Store → R (List D × Gd)
section
variable {X : Cx} {Wx : WX} {tg e : Expr} {m : EM} {ms : AM} {mi : IM} {pos p tpos : Pos} {elts : List Expr} {kk : Nat}
end
section
variable {X : Cx} {Wx : WX} {pos : Pos} {tg iter : Expr} {mi : IG} {sl : List Nat} {gm : D → Env → Option Env} {sb : SM}
end
section
variable {K : PySem.W.Frag} {mg : Str → Option Value} {H : Hp}
end
section
variable {X : Cx} {Wx : WX} {elt tg iter : Expr} {ifs : List Expr} {scope : Scope} {own : List (Str × Nat)} {pos : Pos} {mi : IG} {sl : List Nat} {gm : D → Env → Option Env} {tt : BM} {te : EM} {nw : Bool}
end
end Dv
namespace Dv
open PySem PySem.Spec PyProof.Rows L2
end Dv
namespace Dv
open PySem PySem.Spec PyProof.Rows L2
abbrev Ent := Nat × Addr × List Int
section
variable {P : Program} {w : World} {A : Around} {Ex : Value → Shared → Prop} {s : Shared} {a : Addr} {E : List Ent} {es : Array (Int × Value)} {ep : Nat} {t : SetTable} {h : Heap}
end
end Dv
namespace Dv
open PySem PySem.Spec PyProof.Rows L2
section
variable {P : Program} {w : World} {A : Around} {Ex : Value → Shared → Prop} {s : Shared} {a : Addr} {E : List Ent} {es : Array (Int × Value)} {ep : Nat} {t : SetTable}
end
end Dv
namespace Dv
open PySem PySem.Spec PyProof.Rows L2
section
variable {X : Cx} {elt tg iter : Expr} {ifs : List Expr} {scope : Scope} {own : List (Str × Nat)} {pos : Pos} {wi : TI} {gt : TG} {tt : TT} {te : TE}
end
end Dv
namespace Dv
open PySem PySem.Spec PyProof.Rows L2
section
variable {K : PySem.W.Frag} {mg : Str → Option Value} {T : Tb} {H : Hp} {S : Store}
end
end Dv
namespace Dv
open PySem PySem.Spec PyProof.Rows L2
section
variable {X : Cx} {kx vx tg iter : Expr} {ifs : List Expr} {scope : Scope} {own : List (Str × Nat)} {pos : Pos} {wi : TI} {gt : TG} {tt : TT} {tk tv : TE}
end
end Dv
namespace Dv
open PySem L2
section
variable {X : Cx} {Wx : WX} {kx vx tg iter : Expr} {ifs : List Expr} {scope : Scope} {own : List (Str × Nat)} {pos : Pos} {mi : IM} {sl : List Nat} {gm : D → Env → Option Env} {tt : BM} {tk tv : EM} {nw : Bool}
end
end Dv
namespace Dv
open PySem PySem.Spec PyProof.Rows L2
section
variable {prog : Program} {w : World} {A : Around} {E : Value → Shared → Prop} {s : Shared}
end
section
variable {X : Cx} {Wx : WX} {o : Expr} {p apos mpos pos : Pos} {mo : EM}
end
end Dv
namespace Dv
open PySem PySem.Spec PyProof.Rows L2
section
variable {P : Program} {w : World} {K : PySem.W.Frag} {h : Heap} {a : Addr} {L : List (Addr × List Int)}
end
end Dv
namespace Dv
open PySem L2
section
variable {K : PySem.W.Frag} {mg : Str → Option Value} {Wx : WX}
end
section
variable {X : Cx} {Wx : WX} {elt tg iter : Expr} {ifs : List Expr} {scope : Scope} {own : List (Str × Nat)} {pos pos' p' : Pos} {mi : IM} {sl : List Nat} {gm : D → Env → Option Env} {tt : BM} {te : EM}
end
end Dv
set_option maxHeartbeats 1000000
namespace Dv
open PySem PySem.Spec PyProof.Rows L2
section
variable {P : Program} {w : World}
section
variable {z TI TO i1 i2 d : Addr} {r1 r2 : List Addr} {xs ys : Array Value} {I1 I2 : Nat → Heap → Prop} {A : Around} {E : Value → Shared → Prop} {s : Shared} {k : Nat}
end
end
end Dv
set_option maxHeartbeats 1000000
namespace Dv
open PySem PySem.Spec PyProof.Rows L2
section
variable {P : Program} {w : World} {z TI TO i1 i2 : Addr} {r1 r2 : List Addr} {xs ys : Array Value} {I1 I2 : Nat → Heap → Prop}
end
section
variable {P : Program} {w : World} {A : Around} {E : Value → Shared → Prop} {s : Shared}
end
end Dv
namespace Dv
open PySem PySem.Spec PyProof.Rows L2
section
variable {X : Cx} {Wx : WX}
end
end Dv
namespace Dv
open PySem L2
section
variable {rows : List (List Int)}
end
section
variable {ns : List Int} {t n : Nat} {y2 : Option D}
end
end Dv
namespace Dv
open PySem PySem.Spec PyProof.Rows L2
section
variable {prog : Program} {w : World} {A : Around} {E : Value → Shared → Prop} {s : Shared}
end
section
variable {X : Cx} {Wx : WX} {m : EM}
end
end Dv
namespace Dv
open PySem PySem.Spec PyProof.Rows L2
section
variable {X : Cx}
end
def mulTD (a b : D) (S : Store) : Option D := match a, b with
  | .tup xs, .int k => if k = 1 then some (.tup xs) else if 2 ≤ k ∧ k ≤ 1000 ∧ xs ≠ [] ∧ xs.length ≤ 90 then some (.tup (List.replicate k.toNat xs).flatten) else none
  | a, b => mulD a b S
def strD (ds : List D) (_ : Store) : Option D := match ds with
  | [.int i] => if -1000000 < i ∧ i < 1000000 then some (.str (toString i : String)) else none
  | _ => none
theorem RepL.rev {K : PySem.W.Frag} {T : Tb} {H : Hp} : ∀ {vs : List V} {ds : List D}, RepL K T H vs ds → RepL K T H vs.reverse ds.reverse
  | _, _, .nil => .nil
  | _, _, .cons a b => by
    rw [List.reverse_cons, List.reverse_cons]
    exact RepL.append (RepL.rev b) (.cons a .nil)
section
variable {X : Cx} {Wx : WX} {m : EM} {K : PySem.W.Frag} {mg : Str → Option Value}
theorem log_small {i : Int} (h : -1000000 < i ∧ i < 1000000) : i.natAbs.log2 < 1920 := by
  have h1 : i.natAbs < 1000000 := by omega
  by_cases h0 : i.natAbs = 0
  · rw [h0]
    decide
  · rw [Nat.log2_lt h0]
    exact Nat.lt_of_lt_of_le h1 (Nat.le_trans (show 1000000 ≤ 2 ^ 20 by decide) (Nat.pow_le_pow_right (by decide) (by decide)))
theorem pok_str : POk K mg (fun xs H Q => ∃ i : Int, xs = [.int i] ∧ i.natAbs.log2 < 1920 ∧ Q (.str (toString i : String)) H) strD := fun T S H vs ds d Q sim rep e k => by
  unfold strD at e
  split at e
  · rename_i i
    split at e
    · rename_i c
      cases e
      obtain ⟨v, rfl, r⟩ := rep.one
      cases r
      exact ⟨i, rfl, log_small c, k H _ (Step.refl T H) sim (.str _)⟩
    · cases e
  · cases e
end
end Dv
namespace Dv
open PySem L2
section
variable {X : Cx} {Wx : WX} {o i e f : Expr} {pos pos' apos cpos : Pos} {mo mi mx mv : EM}
end
end Dv
namespace Dv
open PySem L2
end Dv
namespace Dv
open PySem PySem.Spec PyProof.Rows L2
section
variable {X : Cx} {Wx : WX} {o i e f : Expr} {pos pos' apos cpos : Pos} {mo mi mx mv : EM}
end
section
variable {K : PySem.W.Frag} {mg : Str → Option Value}
end
end Dv
namespace Dv
open PySem L2
section
variable {X : Cx} {Wx : WX} {c a b : Expr} {pos : Pos} {tc ta tb : BM}
end
end Dv
namespace Dv
open PySem L2
section
variable {X : Cx} {K : PySem.W.Frag} {mg : Str → Option Value}
end
end Dv
namespace Dv
open PySem PySem.Spec PyProof.Rows L2
section
variable {prog : Program} {w : World} {A : Around} {E : Value → Shared → Prop} {s : Shared}
end
section
variable {X : Cx} {Wx : WX} {e : Expr} {ms : AM} {pos p tpos : Pos} {elts : List Expr} {kk : Nat}
end
end Dv
namespace Dv
open PySem PySem.Spec PyProof.Rows L2
section
variable {X : Cx}
end
section
variable {K : PySem.W.Frag} {mg : Str → Option Value}
end
def strsOf : List D → Option (List Str)
  | [] => some []
  | .str x :: ds => (strsOf ds).map (x :: ·)
  | _ :: _ => none
theorem strsOf_some : ∀ {ds : List D} {xs : List Str}, strsOf ds = some xs → ds = xs.map D.str
  | [], _, h => by cases h; rfl
  | .str x :: ds, xs, h => by
    simp only [strsOf, Option.map_eq_some_iff] at h
    obtain ⟨ys, h1, rfl⟩ := h
    rw [strsOf_some h1]
    rfl
  | .non :: _, _, h => by simp [strsOf] at h
  | .bl _ :: _, _, h => by simp [strsOf] at h
  | .int _ :: _, _, h => by simp [strsOf] at h
  | .tup _ :: _, _, h => by simp [strsOf] at h
  | .lst _ :: _, _, h => by simp [strsOf] at h
  | .scr _ :: _, _, h => by simp [strsOf] at h
  | .dct _ :: _, _, h => by simp [strsOf] at h
  | .dtt _ :: _, _, h => by simp [strsOf] at h
  | .dpr _ _ :: _, _, h => by simp [strsOf] at h
  | .adr _ :: _, _, h => by simp [strsOf] at h
  | .loc _ :: _, _, h => by simp [strsOf] at h
  | .ty _ :: _, _, h => by simp [strsOf] at h
  | .tux _ :: _, _, h => by simp [strsOf] at h
@[simp] theorem strsOf_map : ∀ xs : List Str, strsOf (xs.map D.str) = some xs
  | [] => rfl
  | x :: xs => by
    show (strsOf (xs.map D.str)).map (x :: ·) = _
    rw [strsOf_map xs]
    rfl
section
variable {X : Cx} {Wx : WX} {o e : Expr} {apos pos : Pos} {mo m : EM}
end
end Dv
namespace Dv
open PySem PySem.Spec PyProof.Rows L2
section
variable {X : Cx}
end
section
variable {X : Cx} {Wx : WX} {o e : Expr} {apos pos : Pos} {mo m : EM}
end
end Dv
namespace Dv
open PySem L2
section
variable {X : Cx} {CX : CXT} {Wx : WX} {k n N : Nat} {f : Addr} {fd : FuncData} {ps ks : List Str} {Fn : List D → Store → R D} {x : Str} {p pos kpos : Pos} {e : Expr} {es : List Expr} {kws : List Keyword} {ms mk : AM} {m : EM} {nm : Option Str}
end
section
variable {K : PySem.W.Frag} {Dk : Addr}
end
end Dv
namespace Dv
open PySem L2
section
variable {X : Cx} {Wx : WX} {tg e : Expr} {m : EM}
end
end Dv
namespace Dv
open PySem PySem.Spec PyProof.Rows L2
open L2 (St)
section
variable {X : Cx} {pins : List (Addr × Obj)} {σ : L2.St} {H : Hp} {s : Shared} {d : Addr} {o : Obj}
end
section
variable {P : Program} {w : World} {K : PySem.W.Frag} {d : Addr} {o : Obj} {es : Array DictEntry} {ep : Nat}
end
section
variable {X : Cx} {e : Expr} {td : TE} {apos cpos : Pos}
end
section
variable {K : PySem.W.Frag} {mg : Str → Option Value} {T : Tb} {H : Hp} {S : Store}
end
def noxZ (z : Z) : Z := match z with
  | .exc _ _ _ => .bad
  | z => z
@[simp] theorem noxZ_ok (f : Fl) (r : Env) (S : Store) : noxZ (.ok f r S) = .ok f r S := rfl
section
variable {X : Cx} {Wx : WX} {e : Expr} {apos cpos pos tpos : Pos} {m : EM} {elts : List Expr} {kk : Nat} {sl : List Nat} {gm : D → Env → Option Env} {sb : SM}
end
end Dv
namespace Dv
open PySem PySem.W PySem.Spec PyProof.Rows L2
section
variable {X : Cx}
end
section
variable {K : PySem.W.Frag} {mg : Str → Option Value} {T : Tb} {H : Hp}
end
end Dv
namespace Dv
open PySem PySem.W PySem.Spec PyProof.Rows L2
section
variable {X : Cx}
end
section
variable {K : PySem.W.Frag} {mg : Str → Option Value}
end
section
variable {K : PySem.W.Frag} {mg : Str → Option Value}
end
end Dv
namespace Dv
open PySem L2
section
variable {X : Cx} {K : PySem.W.Frag} {mg : Str → Option Value}
end
end Dv
namespace Dv
open PySem PySem.Spec PyProof.Rows L2
def sRaise (x : Str) : SM := fun r S => .exc x r S
@[simp] theorem sRaise_ap (x : Str) (r : Env) (S : Store) : sRaise x r S = .exc x r S := rfl
def sTry (x : Str) (sa sb : SM) : SM := fun r S => match sa r S with
  | .exc m r1 S1 => if m = x then noxZ (sb r1 S1) else .bad
  | z => z
@[simp] theorem sTry_ap (x : Str) (sa sb : SM) (r : Env) (S : Store) : sTry x sa sb r S = (match sa r S with
  | .exc m r1 S1 => if m = x then noxZ (sb r1 S1) else .bad
  | z => z) := rfl
section
variable {X : Cx} {Wx : WX} {x : Str} {C : Addr} {p pos pos' np : Pos}
theorem pmk_own0 {bmB : List Value} {B newId initId : String} (F : ExcBaseFacts B newId initId bmB) (q : PySem.W.excIn X.K C bmB newId = true) (gC : X.mg x = some (.ref C)) (kC : PySem.W.keepIn X.K (.ref C) = true) (r : Raises X (.ref C)) (hg : Gl X x)
    (hdb : (x == ("__debug__" : Str)) = false := by decide) : PMk X (.Call (.Name x p) [] [] pos) (fun _ H Q => Q (.ref C) none H) := by
  intro pins s σ H Q I h
  refine wpAny_Call_Name_kw (ld_glob I hg gC ?_ hdb)
  refine PySem.W.callWith_K0 I.kIn kC ?_
  show wpAny _ _ (call (.ref C) []) _ _ _
  obtain ⟨bm, N, nm, qn, bs, hdct, sn, sub, ab, col, dd, k0, k1, k2, k3, k5, mN, hC, hN, hni, T⟩ := exc_obj I.kIn q
  refine wpAny_call_exc_subT F T hC hN hni (fun h' e hm => ?_) (Nat.zero_le _)
  exact mk_of I hm r h (I.hok.gone hm.new)
theorem js_raise {bmB : List Value} {B newId initId : String} (hc : X.calm = true) (tk : Takes X Wx) (F : ExcBaseFacts B newId initId bmB) (q : PySem.W.excIn X.K C bmB newId = true) (gC : X.mg x = some (.ref C)) (kC : PySem.W.keepIn X.K (.ref C) = true) (r : Raises X (.ref C)) (hg : Gl X x)
    (hdb : (x == ("__debug__" : Str)) = false := by decide) : PS X (.Raise (some (.Call (.Name x p) [] [] pos)) none pos') (tDS X.K X.mg Wx (sRaise x)) :=
  ps_imp (ps_raise hc tk (pmk_own0 F q gC kC r hg hdb)) fun E g H h => by
    obtain ⟨T, r, S, rs, sim, h⟩ := h
    exact h T H g (Step.refl T H) sim rs (.ref C) gC
theorem js_try {Wy : WX} {body suite : List Stmt} {b0 : Stmt} {sa sb : SM} (hs : X.stack = X.env :: X.outer) (hf : X.env.frame = some X.env.locals) (hn : Names X x (.ref C)) (gC : X.mg x = some (.ref C)) (hx : PySem.W.exmOne X.K (.ref C) (.ref C) = some true) (tk : Takes X Wx)
    (hb : ∀ (W : WX) (pn : List (Addr × Obj)) (xe : Value → Shared → Prop), Takes (X.tr pn xe) W → PSs (X.tr pn xe) body (tDS X.K X.mg W sa))
    (hsu : ∀ (a : Addr) (pn : List (Addr × Obj)), PSs (X.suite a pn) (b0 :: suite) (tDS X.K X.mg Wy sb)) :
    PS X (.Try body [.ExceptHandler (some (.Name x np)) none (b0 :: suite) pos'] [] [] pos) (tDS X.K X.mg Wx (sTry x sa sb)) :=
  ps_imp (ps_try_only (tb := fun W => tDS X.K X.mg W sa) (ts := fun _ _ _ => tDS X.K X.mg Wy sb) hs hf hn tk (fun W pn xe t _ => hb W pn xe t) fun a oe cls d pn _ _ => hsu a ((a, oe) :: pn)) fun D σ H h => by
    obtain ⟨T, r, S, rs, sim, h⟩ := h
    refine ⟨T, r, S, rs, sim, ?_⟩
    revert h
    show ZOut X.K X.mg Wx T H (match sa r S with
      | .exc m r1 S1 => if m = x then noxZ (sb r1 S1) else .bad
      | z => z) D → ZOut X.K X.mg _ T H (sa r S) D
    cases sa r S with
    | bad => exact fun h => h
    | ok f r1 S1 =>
      cases f with
      | next => exact fun h => h
      | ret d => exact fun h => h
      | brk => exact fun h => h
      | cont => exact fun h => h
    | exc m r1 S1 =>
      intro h
      by_cases e : m = x
      · subst e
        have h : ZOut X.K X.mg Wx T H (if m = m then noxZ (sb r1 S1) else .bad) D := h
        rw [if_pos rfl] at h
        intro T' H' g' st sim' rs' cls hcls
        rw [gC] at hcls
        cases hcls
        refine ⟨true, hx, fun _ a _ => ⟨T', r1, S1, rs', sim', ?_⟩, fun hf => by cases hf⟩
        have h2 : ZOut X.K X.mg Wx T' H' (noxZ (sb r1 S1)) D := ZOut.step st h
        revert h2
        cases sb r1 S1 with
        | bad => exact fun h => h
        | exc n r2 S2 => exact fun h => h.elim
        | ok f r2 S2 => cases f <;> exact fun h => h
      · have h : ZOut X.K X.mg Wx T H (if m = x then noxZ (sb r1 S1) else .bad) D := h
        rw [if_neg e] at h
        exact h.elim
end
theorem exm_own {K : PySem.W.Frag} {S : Addr} (h1 : PySem.W.subIn K (.ref S) (.type "BaseException") = some true) (h2 : PySem.W.isClsIn K S = true) (h3 : PySem.W.typeIn K (.ref S) = some (.type "type")) (h4 : PySem.W.subIn K (.ref S) (.ref S) = some true) : PySem.W.exmOne K (.ref S) (.ref S) = some true := by
  have h2 : (PySem.W.clsIn K S).isSome = true := h2
  unfold PySem.W.exmOne PySem.W.kitCls
  simp only [h1, h2, h3, h4]
  rfl
structure ExcOk (K : PySem.W.Frag) (mg : Str → Option Value) (x : Str) (C : Addr) : Prop where
  g : mg x = some (.ref C)
  q : PySem.W.excIn K C [.type "ValueError", .type "Exception", .type "BaseException", .type "object"] "ValueError.__new__" = true
  k : PySem.W.keepIn K (.ref C) = true
  b : PySem.W.subIn K (.ref C) (.type "BaseException") = some true
  t : PySem.W.typeIn K (.ref C) = some (.type "type")
  m : PySem.W.exmOne K (.ref C) (.ref C) = some true
section
variable {X : Cx} {Wx : WX} {x : Str} {C : Addr} {p pos pos' np : Pos}
theorem js_raiseX (o : ExcOk X.K X.mg x C) (hc : X.calm = true) (tk : Takes X Wx) (hg : Gl X x) (hdb : (x == ("__debug__" : Str)) = false := by decide) : PS X (.Raise (some (.Call (.Name x p) [] [] pos)) none pos') (tDS X.K X.mg Wx (sRaise x)) :=
  js_raise hc tk PySem.F.excBase_ValueError o.q o.g o.k (raises_own o.b o.t) hg hdb
theorem js_tryX {body suite : List Stmt} {b0 : Stmt} {sa sb : SM} (o : ExcOk X.K X.mg x C) (hs : X.stack = X.env :: X.outer) (hf : X.env.frame = some X.env.locals) (hg : Gl X x) (tk : Takes X Wx)
    (hb : ∀ (W : WX) (pn : List (Addr × Obj)) (xe : Value → Shared → Prop), Takes (X.tr pn xe) W → PSs (X.tr pn xe) body (tDS X.K X.mg W sa))
    (hsu : ∀ (a : Addr) (pn : List (Addr × Obj)), PSs (X.suite a pn) (b0 :: suite) (tDS X.K X.mg W0 sb)) (hdb : (x == ("__debug__" : Str)) = false := by decide) :
    PS X (.Try body [.ExceptHandler (some (.Name x np)) none (b0 :: suite) pos'] [] [] pos) (tDS X.K X.mg Wx (sTry x sa sb)) :=
  js_try hs hf ⟨hg, hdb, .inl o.g⟩ o.g o.m tk hb hsu
end
end Dv
namespace LcE
open PySem PySem.Spec PyProof.Rows L2
open HandSPX (HeldZ FlyingZ TracedZ)
section
variable {M : Model} {A : Around} {E : Value → Shared → Prop} {s : Shared} {base : Heap} {env : PySem.Env} {outer : List PySem.Env} {e L C : Addr} {Z : Obj → Prop}
theorem note_onZ {Q : Unit → Shared → Prop} (hZ : HandSPX.Steady Z) (hfr : A.frames = some (env :: outer)) (hf : env.frame = some L) (hne : C ≠ L) (hh : HeldZ base (env :: outer) e Z C s.heap)
    (hQ : ∀ h', HeldZ base (env :: outer) e Z L h' → s.heap.UpToSlots h' → Q () { s with heap := h' }) : wpAny M A (noteFrame (.ref e) env) Q E s := by
  obtain ⟨hkb, hen, hl, oe, vs, T, oT, ts, he, hz, hd, h1, hnT, hTe, hT, hdT, h3⟩ := hh
  have hcl : ¬ ((rawInt C == rawInt L) = true) := by
    intro z
    have : (C : Int) = (L : Int) := by simpa [rawInt] using z
    exact hne (Int.ofNat.inj this)
  unfold noteFrame
  simp only [hf]
  refine wpAny_bind (wpAny_field he hd h1 ?_)
  rw [if_pos (show (Value.ref T != Value.none) = true from by simp)]
  refine wpAny_bind (wpAny_field hT hdT h3 ?_)
  rw [if_neg hcl]
  refine wpAny_bind (wpAny_setField hT hdT (Array.getElem?_eq_some_iff.mp h3).1 ?_)
  have other : ∀ b, b ≠ T → (s.heap.update T (Obj.mapFields (·.setIfInBounds 3 Value.none))).get? b = s.heap.get? b := fun b hb => Heap.get?_update_other _ _ (Ne.symm hb)
  have noRecord : ∀ b o, s.heap.get? b = some o → (∀ vs, o.data ≠ .fields vs) → b ≠ T := fun b o hb hnf q => by
    rw [q, hT] at hb; injection hb with hb; subst hb; exact hnf ts hdT
  refine HandSPX.wpAny_entryZ hZ hfr (hl.of_keeps fun b o hb hnf => ⟨o, (other b (noRecord b o hb hnf)).trans hb, rfl⟩) hf ((other e (Ne.symm hTe)).trans he)
    (fun b o hbo => (other b fun q => by rw [q, hnT] at hbo; cases hbo).trans (hkb b o hbo)) hen hd (Array.getElem?_eq_some_iff.mp h1).1 hz fun h' hN => ?_
  obtain ⟨x1, x2, x3, x4⟩ := hN
  exact hQ h' ⟨x1, hen, x2, x3⟩ fun b o hb hnf => x4 b o ((other b (noRecord b o hb hnf)).trans hb) hnf
theorem sky_note {B : Heap} {Q : Unit → Shared → Prop} (hZ : HandSPX.Steady Z) (hfr : A.frames = some (env :: outer)) (hf : env.frame = some L) (x : Sky B (env :: outer) e Z C s.heap)
    (hQ : ∀ h', HeldZ B (env :: outer) e Z L h' → s.heap.UpToSlots h' → Q () { s with heap := h' }) : wpAny M A (noteFrame (.ref e) env) Q E s := by
  rcases x with ⟨hB, hn, hl, oe, vs, he, hz, hd, h1⟩ | fl | hh
  · exact HandSPX.look_newZ hZ hfr hl hf he hB hn hd h1 hz hQ
  · exact HandSPX.looks_onZ hZ hfr hf fl hQ
  · by_cases c : C = L
    · subst c
      exact HandSPX.againZ hf hh.2.2.2 (hQ s.heap hh (Heap.UpToSlots.refl _))
    · exact note_onZ hZ hfr hf c hh hQ
end
section
variable {X : Cx} {pins : List (Addr × Obj)} {σ : L2.St} {H3 : Hp} {s3 s' : Shared} {scope : Scope} {ce : PySem.Env} {fp : List Addr} {W Wx : WX}
theorem blk_fail (tk : Takes X Wx) (hs : X.stack = X.env :: X.outer) (hf : X.env.frame = some X.env.locals) (I3 : Inv X pins σ H3 s3) (hcf : ce.frame = X.env.frame) (hcl : ce.locals = s3.heap.objs.size)
    (f3 : ∀ b ∈ fp, FpOk X pins H3 b) {u : Value} (x : XE (X.blk s3 H3 scope ce fp) W u s') (hW : ∀ cls d σ' H', W cls d σ' H' → Wx cls d σ H') :
    notedBy (model X.prog X.w) X.A ce (CompFails (model X.prog X.w) X.A X.xe ce) u s' := by
  obtain ⟨a, B, sI, pins', σ', H', cls, d, rfl, J, nb, up, sky, na, os, ag, w⟩ := x
  have nb : ∀ b o, sI.heap.get? b = some o → b ∉ frs X.stack → B.get? b = some o := nb
  have sky : Sky B X.stack a (Zc cls d) ce.locals s'.heap := sky
  rw [hs] at sky
  have hfr : X.A.frames = some (X.env :: X.outer) := by rw [I3.ok.frames, hs]
  show wpAny _ _ (noteFrame (.ref a) ce) _ _ s'
  rw [noteFrame_env _ hcf]
  refine sky_note Zc.steady hfr hf sky fun h1 hh1 up1 => ?_
  have I7 : Inv X pins σ H' sI := I3.call' (ch := fp) J.os J.base J.hok J.bare fun b hb => ⟨(f3 b hb).2.2.2.1, (f3 b hb).2.1, (f3 b hb).2.2.2.2.1, (f3 b hb).2.2.2.2.2⟩
  have nC : H' ce.locals = none := J.free
  obtain ⟨m, hn, _⟩ := J.loc
  have hn : sI.heap.Ns ce.locals m := hn
  have hn1 : h1.Ns ce.locals m := (hn.upToSlots up).upToSlots up1
  have fC : FpOk X pins H' ce.locals := by
    have := I3.fpOk (b := ce.locals) (H' := H') (by rw [hcl]; exact Nat.le_refl _) nC
    exact this
  obtain ⟨oC, esC, epC, hoC, hdC, _⟩ := hn
  have cF : ce.locals ∉ frs X.stack := fun z => by
    rcases List.mem_cons.mp (I3.stkSub _ z) with q | q
    · exact fC.2.1 q
    · exact fC.2.2.1 q
  have hBC : B.get? ce.locals = some oC := nb _ _ hoC cF
  obtain ⟨b1, b0, b2, tr⟩ := hh1
  refine ⟨m, hn1, fun h2 m2 hn2 sb => ?_⟩
  -- the ground where the names are let go
  obtain ⟨G, g1, g2⟩ := restrict h2 fun b => (B.get? b).isSome
  have gN : ∀ b, B.get? b = none → G.get? b = none := fun b e => g2 b (by rw [e]; rfl)
  have gS : ∀ b o, B.get? b = some o → G.get? b = h2.get? b := fun b o e => g1 b (by rw [e]; rfl)
  have gst : G.StaysIn h2 := fun b o e => by
    cases q : B.get? b with
    | none => rw [gN b q] at e; cases e
    | some o' => rw [gS b o' q] at e; exact e
  have neC : ∀ b, B.get? b = none → b ≠ ce.locals := fun b e z => by rw [z, hBC] at e; cases e
  have fr2 : ∀ l : List PySem.Env, h1.FunFrames B l → h2.FunFrames G l := fun l => by
    induction l with
    | nil => exact fun _ => trivial
    | cons env rest ih =>
      rintro ⟨hk, ⟨L, o, hfL, hnL, hoL, hdL⟩, hr⟩
      exact ⟨hk, ⟨L, o, hfL, gN L hnL, (sb.2 L (neC L hnL)).trans hoL, hdL⟩, ih hr⟩
  have hh2 : HeldZ G (X.env :: X.outer) a (Zc cls d) X.env.locals h2 := by
    refine ⟨gst, gN a b0, fr2 _ b2, ?_⟩
    obtain ⟨oe, vs, T, oT, ts, he, hz, hd, h1', hnT, hTe, hT, hdT, h3⟩ := tr
    exact ⟨oe, vs, T, oT, ts, (sb.2 a (neC a b0)).trans he, hz, hd, h1', gN T hnT, hTe, (sb.2 T (neC T hnT)).trans hT, hdT, h3⟩
  obtain ⟨oe, vs, T, oT, ts, he, hz, hd, h1', hr⟩ := id hh2.2.2.2
  obtain ⟨o2, es2, ep2, ho2, hd2, _⟩ := hn2
  have up2 : ∀ (Q : Unit → Shared → Prop), (∀ h', HeldZ G (X.env :: X.outer) a (Zc cls d) X.env.locals h' → h2.UpToSlots h' → Q () { s' with heap := h' }) → wpAny (model X.prog X.w) X.A (setFlight (.ref a) (some X.env.locals)) Q X.xe { s' with heap := h2 } := fun Q hQ => HandSPX.setFlight_onZ (s := { s' with heap := h2 }) hh2 hQ
  unfold PySem.passOn
  refine wpAny_bind (wpAny_field he hd h1' ?_)
  rw [if_neg (show ¬ ((Value.ref T == Value.none) = true) from by simp), hcf, hf]
  have fin : wpAny (model X.prog X.w) X.A (setFlight (.ref a) (some X.env.locals)) (fun _ s4 => wpAny (model X.prog X.w) X.A (throw (.ref a) : Sem Value) (fun _ _ => False) X.xe s4) X.xe { s' with heap := h2 } := by
    refine up2 _ fun h3 hh3 up3 => wpAny_throw (tk _ _ ?_)
    -- the state without the exception
    have hsI : (sI.heap.update ce.locals fun _ => o2).get? ce.locals = some o2 := Heap.get?_update_self (fun _ => o2) hoC (by
      obtain ⟨c, dd, dt, sl⟩ := o2
      have hd2 : dt = .dict es2 ep2 := hd2
      subst hd2
      rfl)
    have hsO : ∀ b, b ≠ ce.locals → (sI.heap.update ce.locals fun _ => o2).get? b = sI.heap.get? b := fun b hb => Heap.get?_update_other _ _ (Ne.symm hb)
    have I8 : Inv X pins σ H' { sI with heap := sI.heap.update ce.locals fun _ => o2 } := I7.turned (t' := sI.toks) (fun b o hb e => (hsO b hb).trans e) fC.1 fC.2.1 fC.2.2.2.1 fC.2.2.2.2.1 fC.2.2.2.2.2
    refine ⟨a, G, _, pins, σ, H', cls, d, rfl, I8, fun b o e hb => ?_, fun b o e hnf => ?_, .inr (.inr (by rw [hs]; exact hh3)), na, os, ag, hW _ _ _ _ w⟩
    · by_cases c : b = ce.locals
      · subst c
        rw [hsI] at e
        cases e
        rw [gS _ _ hBC]
        exact ho2
      · have e : sI.heap.get? b = some o := (hsO b c) ▸ e
        have q := nb b o e hb
        rw [gS b o q]
        exact (sb.2 b c).trans (b1 b o q)
    · by_cases c : b = ce.locals
      · subst c
        rw [hsI] at e
        cases e
        exact up3 _ _ ho2 hnf
      · have e : sI.heap.get? b = some o := (hsO b c) ▸ e
        obtain ⟨sl, e1⟩ := (up.trans up1) b o e hnf
        obtain ⟨sl2, e2⟩ := up3 b _ ((sb.2 b c).trans e1) hnf
        exact ⟨sl2, e2⟩
  first
    | exact wpAny_bind (wpAny_pure (wpAny_bind fin))
    | exact wpAny_bind fin
end
end LcE
namespace LcE
open PySem PySem.Spec PyProof.Rows L2
def outW (Wx : WX) (σ : L2.St) : WX := fun cls d _ H => Wx cls d σ H
abbrev blkE (X : Cx) (s : Shared) (H : Hp) (scope : Scope) (ce : PySem.Env) (fp : List Addr) (xe : Value → Shared → Prop) : Cx := (X.blk s H scope ce fp).tr [] xe
def tLcE (wi : TI) (g : TG) (tt : WX → TT) (te : WX → TE) (vs : List Nat) (Wx : WX) : TE := fun σ H Q => wi σ H fun J H1 => ∀ D, H1 D = none → ∃ W : Nat → Nat → Hp → Prop, (∃ m, W 0 m (upd H1 D (.lst []))) ∧ ∀ i m H, W i m H →
  (J.stop i H ∧ Q (.ref D) H) ∨ (J.go i H ∧ ∃ Nx : Hp → Prop, (∀ H', Nx H' → ∃ m', m' < m ∧ W (i + 1) m' H') ∧ ∀ x H', J.yld i H x H' → g x (wipe σ vs) H' fun σ2 H2 => wipe σ2 vs = wipe σ vs ∧ tt (outW Wx σ) σ2 H2 fun b H3 =>
    if b = true then te (outW Wx σ) σ2 H3 fun y H4 => ∃ acc, H4 D = some (.lst acc) ∧ acc.length < sizeLine ∧ Nx (upd H4 D (.lst (acc ++ [y]))) else Nx H3)
section
variable {X : Cx} {Wx : WX}
theorem pe_lcE {elt tg iter : Expr} {ifs : List Expr} {scope : Scope} {own : List (Str × Nat)} {pos : Pos} {wi : TI} {g : TG} {tt : WX → TT} {te : WX → TE} (hc : X.calm = true) (hN : X.N.Nodup) (hst : X.stack = X.env :: X.outer) (hfr : X.env.frame = some X.env.locals) (tk : Takes X Wx)
    (hi : PI X tg iter wi) (ok : BlkOk X.N X.env.scope scope own)
    (hg : ∀ (s : Shared) (H : Hp) (C : Addr) (cl : List (Str × Addr)) (fp : List Addr) (xe : Value → Shared → Prop), PG (blkE X s H scope (compEnvC scope cl C X.env) fp xe) tg g)
    (ht : ∀ (s : Shared) (H : Hp) (C : Addr) (cl : List (Str × Addr)) (fp : List Addr) (xe : Value → Shared → Prop) (W : WX), Takes (blkE X s H scope (compEnvC scope cl C X.env) fp xe) W → PTs (blkE X s H scope (compEnvC scope cl C X.env) fp xe) ifs (tt W))
    (he : ∀ (s : Shared) (H : Hp) (C : Addr) (cl : List (Str × Addr)) (fp : List Addr) (xe : Value → Shared → Prop) (W : WX), Takes (blkE X s H scope (compEnvC scope cl C X.env) fp xe) W → PE (blkE X s H scope (compEnvC scope cl C X.env) fp xe) elt (te W))
    (hs : ∀ x, foldedSetIterable iter X.env x = pure x := by intro _; rfl) :
    PE X (.ListComp elt [⟨tg, iter, ifs, 0⟩] scope pos) (tLcE wi g tt te (own.map (·.2)) Wx) := by
  refine ⟨fun pins s σ H Q I h => ?_⟩
  rw [eval_ListComp]
  have hfree : ∀ y ∈ scope.names, y.2 = .free → ∃ c, X.env.cells.lookup y.1 = some c := fun y hy e => by
    rcases ok.free y hy e with k | k
    · exact I.ok.has _ (.inl k)
    · exact I.ok.has _ (.inr k)
  refine comprehension_at (use := none) rfl hs (closure_ok hfree) ok.kind (fun y hy e => by rw [ok.uniq y hy, e]) (thn (hi.run pins s σ H _ I h) fun xv s1 hx => thn hx fun itv s2 h2 => ?_)
  obtain ⟨it, fp, tn, J, H2, e, I2, T, st2, f2, q⟩ := h2
  subst e
  refine wpAny_newObj_type (newEnv_comp ?_) (by show 0 ≤ sizeLine; decide)
  generalize hD : s2.heap.objs.size = D
  have hDn : H2 D = none := I2.hok.fresh (Nat.le_of_eq hD)
  obtain ⟨W, ⟨m0, w0⟩, turn⟩ := q D hDn
  generalize hs3 : ({ s2 with heap := s2.heap.push { cls := .type "list", data := .seq ([] : List Value).toArray } } : Shared) = s3
  have h3 : s3.heap = s2.heap.push { cls := .type "list", data := .seq ([] : List Value).toArray } := by rw [← hs3]
  have I3 : Inv X pins σ (upd H2 D (.lst [])) s3 := by
    rw [← hs3]
    exact I2.laid (t' := s2.toks) (fun b o e => Heap.get?_push_of_some _ e) (Nat.le_of_eq hD) ⟨Nat.zero_le _, [], 0, .nil, by rw [← hD]; exact Heap.get?_push_size _ rfl⟩
  have f3 : ∀ b ∈ fp, FpOk X pins (upd H2 D (.lst [])) b ∧ b < s3.heap.objs.size := fun b hb => by
    obtain ⟨o, e, _⟩ := T.obj _ _ st2 b hb
    have hlt := Heap.lt_size e
    exact ⟨⟨by rw [upd_ne (by rw [← hD]; exact Nat.ne_of_lt hlt)]; exact (f2 b hb).1, (f2 b hb).2⟩, by rw [h3, Heap.size_push]; exact Nat.lt_succ_of_lt hlt⟩
  have st3 : tn 0 s3.heap := T.keep _ _ _ st2 fun b _ o e => by rw [h3]; exact Heap.get?_push_of_some _ e
  have I4 := block_start I3 ok hN f3
  have pgA := hg s3 (upd H2 D (.lst [])) s3.heap.objs.size (cellsFrom (s3.heap.objs.size + 1) scope.names (cloFrom X.env.cells scope.names [])) fp
  have ptA := ht s3 (upd H2 D (.lst [])) s3.heap.objs.size (cellsFrom (s3.heap.objs.size + 1) scope.names (cloFrom X.env.cells scope.names [])) fp
  have peA := he s3 (upd H2 D (.lst [])) s3.heap.objs.size (cellsFrom (s3.heap.objs.size + 1) scope.names (cloFrom X.env.cells scope.names [])) fp
  have nfp : ∀ b ∈ fp, (upd H2 D (.lst [])) b = none := fun b hb => (f3 b hb).1.1
  show codeAny _ _ (.compStart (.ListComp elt [⟨tg, iter, ifs, 0⟩] scope pos) 0 (.ref it) (.ref D) (compEnvC scope (cellsFrom (s3.heap.objs.size + 1) scope.names (cloFrom X.env.cells scope.names [])) s3.heap.objs.size X.env)) (compEnds (model X.prog X.w) X.A X.xe none (EP X pins σ Q) (.ref D) (compEnvC scope (cellsFrom (s3.heap.objs.size + 1) scope.names (cloFrom X.env.cells scope.names [])) s3.heap.objs.size X.env)) { s3 with heap := pushCells (s3.heap.push { cls := .type "dict", data := .dict #[] }) scope.names }
  generalize hce : compEnvC scope (cellsFrom (s3.heap.objs.size + 1) scope.names (cloFrom X.env.cells scope.names [])) s3.heap.objs.size X.env = ce at I4 pgA ptA peA ⊢
  have cL : ce.locals = s3.heap.objs.size := by subst hce; rfl
  have cF : ce.frame = X.env.frame := by subst hce; rfl
  generalize hH3 : upd H2 D (.lst []) = H3 at I3 I4 pgA ptA peA w0 nfp f3
  generalize hs4 : ({ s3 with heap := pushCells (s3.heap.push { cls := .type "dict", data := .dict #[] }) scope.names } : Shared) = s4 at I4 ⊢
  have st4 : tn 0 s4.heap := T.keep _ _ _ st3 fun b _ o e => by rw [← hs4]; exact pushCells_keeps _ _ _ _ (Heap.get?_push_of_some _ e)
  -- what the block lets out
  generalize hxe : XE (X.blk s3 H3 scope ce fp) (outW Wx σ) = xe
  have okY := I4.ok
  have tkZ : Takes (blkE X s3 H3 scope ce fp xe) (outW Wx σ) := fun u s' ⟨a, B, sI, pins', σ', H', cls, d, e, J, nb, up, sky, na, os, ag, w⟩ => by
    show xe u s'
    rw [← hxe]
    exact ⟨a, B, sI, [], σ', H', cls, d, e, J.ofTry (pins := []) okY, nb, up, sky, na, os, ag, w⟩
  have I5 : Inv (blkE X s3 H3 scope ce fp xe) [] (wipe σ (own.map (·.2))) H3 s4 := I4.toTry xe
  have pg := pgA xe
  have pt := ptA xe _ tkZ
  have pe := peA xe _ tkZ
  have err : ∀ u s', (blkE X s3 H3 scope ce fp xe).xe u s' → notedBy (model X.prog X.w) X.A ce (fun e s' => compEnds (model X.prog X.w) X.A X.xe none (EP X pins σ Q) (.ref D) ce (.error e) s') u s' := fun u s' x => by
    have x : xe u s' := x
    rw [← hxe] at x
    exact blk_fail tk hst hfr I3 cF cL (fun b hb => (f3 b hb).1) x fun _ _ _ _ h => h
  have stat : ∀ {σ' : L2.St} {H' : Hp} {s' : Shared}, Inv (blkE X s3 H3 scope ce fp xe) [] σ' H' s' → (∀ b ∈ fp, H' b = none) → ∀ b ∈ fp, FpOk (blkE X s3 H3 scope ce fp xe) [] H' b := fun {σ' H' s'} I' hn b hb =>
    ⟨hn b hb, (I'.ok.exf b hb).1, I'.ok.exfs b hb, .inl hb, fun x c e => (I'.ok.exf b hb).2 x c e, fun p hp => absurd (show p ∈ ([] : List (Addr × Obj)) ++ [] from hp) (by simp)⟩
  have loop : codeAny (model X.prog X.w) X.A (.compLoop (.ListComp elt [⟨tg, iter, ifs, 0⟩] scope pos) 0 (.ref it) (.ref D) ce) (compEnds (model X.prog X.w) X.A X.xe none (EP X pins σ Q) (.ref D) ce) s4 := by
    refine compLoop_any (fun n s' => ∃ i H', Inv (blkE X s3 H3 scope ce fp xe) [] (wipe σ (own.map (·.2))) H' s' ∧ tn i s'.heap ∧ (∀ b ∈ fp, H' b = none) ∧ W i n H') ?_ m0 ⟨0, H3, I5, st4, nfp, w0⟩
    rintro n s5 ⟨i, H5, J5, st5, n5, w5⟩
    rcases turn i n H5 w5 with ⟨stop, qq⟩ | ⟨go, Nx, hNx, step⟩
    · have td := T.done (blkE X s3 H3 scope ce fp xe) rfl rfl rfl hc i [] s5 _ H5 (fun _ _ => False) J5 (stat J5 n5) st5 stop
      refine thnF td fun r s6 ⟨hr, J6⟩ => ?_
      subst hr
      have K6 : Inv (X.blk s3 H3 scope ce fp) [] (wipe σ (own.map (·.2))) H5 s6 := J6.ofTry (pins := []) okY
      have I7 : Inv X pins σ H5 s6 := I3.call' (ch := fp) K6.os K6.base K6.hok K6.bare fun b hb => ⟨(f3 b hb).1.2.2.2.1, (f3 b hb).1.2.1, (f3 b hb).1.2.2.2.2.1, (f3 b hb).1.2.2.2.2.2⟩
      have nC : H5 ce.locals = none := K6.free
      obtain ⟨m, hn, _⟩ := K6.loc
      have hn : s6.heap.Ns ce.locals m := hn
      have fC : FpOk X pins H5 ce.locals := I3.fpOk (b := ce.locals) (H' := H5) (by rw [cL]; exact Nat.le_refl _) nC
      exact ⟨m, hn, fun h'' sb => ⟨.ref D, H5, I7.turned (t' := s6.toks) (fun b o hb e => (sb.2 b hb).trans e) fC.1 fC.2.1 fC.2.2.2.1 fC.2.2.2.2.1 fC.2.2.2.2.2, rfl, qq⟩⟩
    · have ti := T.item (blkE X s3 H3 scope ce fp xe) rfl rfl rfl hc i [] s5 _ H5 (fun _ _ => False) J5 (stat J5 n5) st5 go
      refine thnF ti fun r s6 ⟨u, hr, h6⟩ => ?_
      subst hr
      refine thnF h6 fun _ s7 ⟨x, H7, J7, r7, y7, st7, n7⟩ => ?_
      have J7' := J7.pinned (stat J7 n7) (T.obj _ _ st7)
      refine wpAny_mono (pg.run _ s7 _ H7 x u _ J7' r7 (step x H7 y7)) (fun _ s8 ⟨σ8, H8, J8, hw8, q8⟩ => ?_) err
      refine wpAny_mono (pt.run _ s8 σ8 H8 _ J8 q8) (fun b s9 ⟨H9, J9, q9⟩ => ?_) err
      have fin : ∀ {s' : Shared} {H' : Hp}, Inv (blkE X s3 H3 scope ce fp xe) ([] ++ pinsAt fp s7.heap) σ8 H' s' → Nx H' → ∃ m, m < n ∧ ∃ i H', Inv (blkE X s3 H3 scope ce fp xe) [] (wipe σ (own.map (·.2))) H' s' ∧ tn i s'.heap ∧ (∀ b ∈ fp, H' b = none) ∧ W i m H' := fun {s' H'} I' nx => by
        obtain ⟨m', hm, w'⟩ := hNx H' nx
        have pin' : ∀ b ∈ fp, ∀ o, s7.heap.get? b = some o → s'.heap.get? b = some o ∧ H' b = none := fun b hb o e =>
          let z := I'.pin (b, o) (List.mem_append_right _ (List.mem_append_right _ (mem_pinsAt hb e)))
          ⟨z.1, z.2.1⟩
        have hl : (wipe σ (own.map (·.2))).length = σ8.length := by rw [← hw8, wipe_length]
        refine ⟨m', hm, i + 1, H', (I'.unpinned (pins := [])).weak hl (fun j v e => ?_), T.keep _ _ _ st7 fun b hb o e => (pin' b hb o e).1, fun b hb => ?_, w'⟩
        · rw [← hw8] at e
          exact (wipe_some e).1
        · obtain ⟨o, e, _⟩ := T.obj _ _ st7 b hb
          exact (pin' b hb o e).2
      cases b with
      | false =>
        simp only [Bool.false_eq_true, if_false] at q9 ⊢
        exact fin J9 q9
      | true =>
        simp only [if_true] at q9 ⊢
        refine wpAny_mono (pe.run _ s9 σ8 H9 _ J9 q9) (fun z s10 ⟨yv, H10, J10, r10, acc, hD10, hz10, nx⟩ => ?_) err
        exact app_ok (X := blkE X s3 H3 scope ce fp xe) J10 hD10 hz10 r10 fun s11 J11 => fin J11 nx
  exact codeAny_compStart_list loop (T.self X.A 0 _ _ _ st4 loop)
end
end LcE
namespace Dv
open PySem PySem.Spec PyProof.Rows L2
def lcLE (gm : D → Env → Option Env) (tt : BM) (te : EM) (r0 : Env) : List D → Store → R (List D)
  | [], S => .ok [] S
  | d :: ds, S => match gm d r0 with
    | none => .bad
    | some r1 => (tt r1 S).bind fun b S1 => if b = true then (te r1 S1).bind fun y S2 => (lcLE gm tt te r0 ds S2).bind fun ys S3 => .ok (y :: ys) S3 else lcLE gm tt te r0 ds S1
def mLcE (mi : IM) (vs : List Nat) (gm : D → Env → Option Env) (tt : BM) (te : EM) : EM := fun r S => (mi r S).bind fun ds S1 => (lcLE gm tt te (wipeE r vs) ds S1).bind fun ys S2 => .ok (.lst ys) S2
section
variable {K : PySem.W.Frag} {mg : Str → Option Value} {Wx : WX} {T : Tb} {H : Hp} {r : Env} {g : L2.St}
theorem lc_bindE {α β γ δ : Type} {relA : Tb → Hp → β → α → Prop} {relB : Tb → Hp → δ → γ → Prop} {T1 : Tb} {H1 : Hp} {g g2 : L2.St} {x : R α} {f : α → Store → R γ} {Q : δ → Hp → Prop} {Q1 : β → Hp → Prop} (h : Out K mg Wx relB T1 g H1 (x.bind f) Q)
    (ke : ∀ S T3 H3, Step T H T3 H3 → Sim K mg T3 S H3 → ∃ T4, Step T1 H1 T4 H3 ∧ Sim K mg T4 S H3)
    (k : ∀ a S T3 H3 v, Step T H T3 H3 → Sim K mg T3 S H3 → relA T3 H3 v a → Out K mg Wx relB T1 g H1 (f a S) Q → Q1 v H3) : Out K mg (LcE.outW Wx g) relA T g2 H x Q1 := by
  cases x with
  | bad => exact h.elim
  | exc n S =>
    intro T3 H3 st sim cls hm
    obtain ⟨T4, st4, sim4⟩ := ke S T3 H3 st sim
    exact h T4 H3 st4 sim4 cls hm
  | ok a S => exact fun T3 H3 v st sim rl => k a S T3 H3 v st sim rl h
theorem sim_open {S : Store} {p : Addr} {h : List Addr} (e : T.hid = p :: h) (s : Sim K mg T S H) : Sim K mg ⟨T.loc, h⟩ S H := by
  obtain ⟨l, h2⟩ := T
  cases e
  exact s.unhide
end
section
variable {X : Cx} {Wx : WX} {elt tg iter : Expr} {ifs : List Expr} {scope : Scope} {own : List (Str × Nat)} {pos : Pos} {mi : IM} {sl : List Nat} {gm : D → Env → Option Env} {tt : BM} {te : EM}
theorem tLcE_of {K : PySem.W.Frag} {mg : Str → Option Value} {vs : List Nat} (hsl : ∀ i ∈ sl, i ∈ vs) : ∀ g H Q, tD K mg Wx (mLcE mi vs gm tt te) g H Q → LcE.tLcE (iD K mg Wx mi) (gD K mg sl gm) (fun W => tDT K mg W tt) (fun W => tD K mg W te) vs Wx g H Q := by
  intro g H Q h
  obtain ⟨T, r, S, rs, sim, h⟩ := h
  refine ⟨T, r, S, rs, sim, Out.bind h fun ds S1 T1 H1 J st sim1 rel h1 => ?_⟩
  obtain ⟨wk, hz⟩ := rel
  intro Dl hD
  have hl0 : HLen (upd H1 Dl (.lst [])) := hlen_lst sim1.hl (Nat.zero_le _)
  obtain ⟨kp0, simh⟩ := sim1.hide (u := .lst []) hD hl0
  have rs1 := rs.step st
  refine ⟨fun i m H => ∃ T S acc ys, m = ds.length - i ∧ i ≤ ds.length ∧ T.hid = Dl :: T1.hid ∧ Step T1 H1 ⟨T.loc, T1.hid⟩ H ∧ Sim K mg T S H ∧ H Dl = some (.lst acc) ∧ RepL K T H acc ys ∧ ys.length ≤ i ∧
    Out K mg Wx (Rep K) T1 g H1 ((lcLE gm tt te (wipeE r vs) (ds.drop i) S).bind fun zs S2 => .ok (.lst (ys ++ zs)) S2) Q, ⟨ds.length, T1.hide Dl, S1, [], [], by simp, Nat.zero_le _, rfl, sim1.stepNew hD, simh, upd_same, .nil, Nat.le_refl _, by simpa using h1⟩, ?_⟩
  rintro i m H2 ⟨T2, S2, acc, ys, rfl, hi, eh, st2, sim2, hD2, ra, hys, ho⟩
  have off2 : ∀ b, T1.off b → H1 b ≠ none → T2.off b := fun b n q => ⟨(st2.out q n).1, fun z => by
    rw [eh] at z
    rcases List.mem_cons.mp z with z | z
    · exact q (by rw [z]; exact hD)
    · exact n.2 z⟩
  have kp2 : Kp T1 H1 T2 H2 := ⟨fun b u k n q => ⟨st2.keep b u n q, off2 b n (some_ne q)⟩, fun b u n q => ⟨st2.rd q n, off2 b n (rd_some q)⟩, fun n a q => st2.get q⟩
  have kf2 : Kf T1 H1 T2 H2 := ⟨kp2, fun b o u n q => ⟨st2.keep b _ n q, off2 b n (some_ne q)⟩⟩
  obtain ⟨stop, go⟩ := wk T2 S2 H2 kf2 sim2
  by_cases hlt : i < ds.length
  · have ed : ds.drop i = ds[i] :: ds.drop (i + 1) := List.drop_eq_getElem_cons hlt
    rw [ed] at ho
    obtain ⟨g1, yl⟩ := go i ds[i] (List.getElem?_eq_getElem hlt)
    refine .inr ⟨g1, fun H => ∃ T S acc ys, T.hid = Dl :: T1.hid ∧ Step T1 H1 ⟨T.loc, T1.hid⟩ H ∧ Sim K mg T S H ∧ H Dl = some (.lst acc) ∧ RepL K T H acc ys ∧ ys.length ≤ i + 1 ∧
      Out K mg Wx (Rep K) T1 g H1 ((lcLE gm tt te (wipeE r vs) (ds.drop (i + 1)) S).bind fun zs S2 => .ok (.lst (ys ++ zs)) S2) Q, fun H3 q => ?_, fun x H3 y => ?_⟩
    · obtain ⟨T3, S3, acc3, ys3, q1, q2, q3, q4, q5, q6, q7⟩ := q
      exact ⟨ds.length - (i + 1), by omega, T3, S3, acc3, ys3, rfl, hlt, q1, q2, q3, q4, q5, q6, q7⟩
    · obtain ⟨st3, sim3, rep3⟩ := yl x H3 y
      simp only [lcLE] at ho
      -- how a step of the hidden table is one of the open one
      have opn : ∀ {Ta Tb : Tb} {Ha Hb : Hp}, Ta.hid = Dl :: T1.hid → Step T1 H1 ⟨Ta.loc, T1.hid⟩ Ha → Step Ta Ha Tb Hb → Tb.hid = Dl :: T1.hid ∧ Step T1 H1 ⟨Tb.loc, T1.hid⟩ Hb := fun {Ta Tb Ha Hb} e1 s1 s2 => by
        refine ⟨s2.hid.trans e1, s1.trans ⟨s2.ext, rfl, fun b hb => s2.hkeep b (by rw [e1]; exact List.mem_cons_of_mem _ hb), fun b u n q => ?_, s2.new⟩⟩
        by_cases hb : b = Dl
        · subst hb
          rw [s2.hkeep b (by rw [e1]; exact List.mem_cons_self)]
          exact q
        · exact s2.keep b u ⟨n.1, fun z => by
            rw [e1] at z
            exact (List.mem_cons.mp z).elim hb n.2⟩ q
      obtain ⟨eh3, op3⟩ := opn eh st2 st3
      have hid3 : Dl ∈ T2.hid := by rw [eh]; exact List.mem_cons_self
      split at ho
      · exact ho.elim
      · rename_i r1 eg
        refine ⟨T2, wipeE r vs, S2, ds[i], r1, ((rs1.wipe vs).kp kp2).step st3, sim3, rep3, eg, fun g4 rs4 lg kg => ⟨wipe_same hsl (by rw [lg, wipe_length]) kg, T2, r1, S2, rs4, sim3, ?_⟩⟩
        rw [R.bind_assoc] at ho
        refine lc_bindE ho (fun S6 T6 H6 st6 sim6 => by
          obtain ⟨e6, o6⟩ := opn eh3 op3 st6
          exact ⟨⟨T6.loc, T1.hid⟩, o6, sim_open e6 sim6⟩) fun b S4 T4 H4 v st4 sim4 rel4 ho4 => ?_
        subst rel4
        obtain ⟨eh4, op4⟩ := opn eh3 op3 st4
        have hid4 : Dl ∈ T4.hid := by rw [eh4]; exact List.mem_cons_self
        have hD4 : H4 Dl = some (.lst acc) := (st4.hkeep Dl hid3).trans ((st3.hkeep Dl hid3).trans hD2)
        cases v with
        | false =>
          rw [if_neg Bool.false_ne_true] at ho4 ⊢
          exact ⟨T4, S4, acc, ys, eh4, op4, sim4, hD4, ra.step (st3.trans st4), by omega, ho4⟩
        | true =>
          rw [if_pos rfl, R.bind_assoc] at ho4
          rw [if_pos rfl]
          refine ⟨T4, r1, S4, rs4.step st4, sim4, lc_bindE ho4 (fun S6 T6 H6 st6 sim6 => by
            obtain ⟨e6, o6⟩ := opn eh4 op4 st6
            exact ⟨⟨T6.loc, T1.hid⟩, o6, sim_open e6 sim6⟩) fun yd S5 T5 H5 yv st5 sim5 rel5 ho5 => ?_⟩
          obtain ⟨eh5, op5⟩ := opn eh4 op4 st5
          have hid5 : Dl ∈ T5.hid := by rw [eh5]; exact List.mem_cons_self
          have ra5 : RepL K T5 H5 acc ys := ra.step ((st3.trans st4).trans st5)
          have hal : acc.length < sizeLine := by rw [ra5.length]; omega
          have hl5 : HLen (upd H5 Dl (.lst (acc ++ [yv]))) := hlen_lst sim5.hl (by rw [List.length_append, List.length_singleton]; omega)
          obtain ⟨kp5, sim6⟩ := sim5.setHid (u := .lst (acc ++ [yv])) hid5 hl5
          refine ⟨acc, (st5.hkeep Dl hid4).trans hD4, hal, T5, S5, acc ++ [yv], ys ++ [yd], eh5, ⟨op5.ext, rfl, fun b hb => ?_, fun b u n q => ?_, op5.new⟩, sim6, upd_same, RepL.append (ra5.kp kp5.toKp) (.cons (rel5.kp kp5.toKp) .nil), by rw [List.length_append, List.length_singleton]; omega, ?_⟩
          · rw [upd_ne fun e => sim1.hid b hb (by rw [e]; exact hD)]
            exact op5.hkeep b hb
          · rw [upd_ne (ne_of_none q hD)]
            exact op5.keep b u n q
          · rw [R.bind_assoc] at ho5
            have e5 : (fun zs S2 => (R.ok (D.lst (ys ++ [yd] ++ zs)) S2 : R D)) = fun a S => (R.ok (yd :: a) S).bind fun zs S2 => R.ok (D.lst (ys ++ zs)) S2 := by
              funext zs S2
              show _ = R.ok (D.lst (ys ++ (yd :: zs))) S2
              rw [List.append_assoc]
              rfl
            rw [e5]
            exact ho5
  · have e : i = ds.length := by omega
    subst e
    rw [List.drop_length] at ho
    refine .inl ⟨stop, ho ⟨T2.loc, T1.hid⟩ H2 _ st2 ?_ ?_⟩
    · have h9 := sim2
      obtain ⟨l2, h2⟩ := T2
      cases eh
      exact h9.unhide
    · obtain ⟨l2, h2⟩ := T2
      cases eh
      rw [List.append_nil]
      refine .lst hD2 ⟨fun z => ?_, fun z => ?_⟩ (ra.kp kp_unhide)
      · exact sim2.apart z List.mem_cons_self
      · have nd := (List.nodup_append.mp sim2.nd).2.1
        exact (List.nodup_cons.mp nd).1 z
theorem j_lcE (hst : X.stack = X.env :: X.outer) (hfr : X.env.frame = some X.env.locals) (tk : Takes X Wx) (hsl : ∀ i ∈ sl, i ∈ own.map (·.2)) (hc : X.calm = true) (hN : X.N.Nodup) (hi : PI X tg iter (iD X.K X.mg Wx mi)) (ok : BlkOk X.N X.env.scope scope own)
    (hg : ∀ (s : Shared) (H : Hp) (C : Addr) (cl : List (Str × Addr)) (fp : List Addr) (xe : Value → Shared → Prop), PG (LcE.blkE X s H scope (compEnvC scope cl C X.env) fp xe) tg (gD X.K X.mg sl gm))
    (ht : ∀ (s : Shared) (H : Hp) (C : Addr) (cl : List (Str × Addr)) (fp : List Addr) (xe : Value → Shared → Prop) (W : WX), Takes (LcE.blkE X s H scope (compEnvC scope cl C X.env) fp xe) W → PTs (LcE.blkE X s H scope (compEnvC scope cl C X.env) fp xe) ifs (tDT X.K X.mg W tt))
    (he : ∀ (s : Shared) (H : Hp) (C : Addr) (cl : List (Str × Addr)) (fp : List Addr) (xe : Value → Shared → Prop) (W : WX), Takes (LcE.blkE X s H scope (compEnvC scope cl C X.env) fp xe) W → PE (LcE.blkE X s H scope (compEnvC scope cl C X.env) fp xe) elt (tD X.K X.mg W te)) (hs : ∀ x, foldedSetIterable iter X.env x = pure x := by intro _; rfl) :
    PE X (.ListComp elt [⟨tg, iter, ifs, 0⟩] scope pos) (tD X.K X.mg Wx (mLcE mi (own.map (·.2)) gm tt te)) := pe_imp (LcE.pe_lcE hc hN hst hfr tk hi ok hg ht he hs) (tLcE_of hsl)
end
end Dv
namespace Dv
open PySem PySem.Spec PyProof.Rows L2
def splP (x y : Str) : Option (List Str) := if (y.length == 0) = false ∧ x.length ≤ 100000 then some (Txt.split x y) else none
def splD (a b : D) (_ : Store) : Option D := match a, b with
  | .str x, .str y => (splP x y).map fun ys => .lst (ys.map D.str)
  | _, _ => none
def splN (a b : D) (_ : Store) : Option (List D) := match a, b with
  | .str x, .str y => (splP x y).map fun ys => ys.map D.str
  | _, _ => none
def joiD (a b : D) (S : Store) : Option D := match a, b with
  | .str x, .lst ds => match strsOf ds with
    | some ys => if (ys.map (·.length)).sum + ys.length * x.length ≤ 100000 then some (.str (Txt.join x ys)) else none
    | none => none
  | .str x, .tup ds => match strsOf ds with
    | some ys => if (ys.map (·.length)).sum + ys.length * x.length ≤ 100000 then some (.str (Txt.join x ys)) else none
    | none => none
  | .str x, .loc n => match S[n]? with
    | some (.lst ds) => match strsOf ds with
      | some ys => if (ys.map (·.length)).sum + ys.length * x.length ≤ 100000 then some (.str (Txt.join x ys)) else none
      | none => none
    | _ => none
  | _, _ => none
def mTm (f : D → D → Store → Option D) (mo m : EM) : EM := fun r S => (mo r S).bind fun o S1 => match o with
  | .str x => (m r S1).bind fun d S2 => ofO (f (.str x) d S2) S2
  | _ => .bad
def mTmN (f : D → D → Store → Option (List D)) (mo m : EM) : EM := fun r S => (mo r S).bind fun o S1 => match o with
  | .str x => (m r S1).bind fun d S2 => newO (f (.str x) d S2) S2
  | _ => .bad
@[simp] theorem mTm_ap {f : D → D → Store → Option D} {mo m : EM} {r : Env} {S : Store} : mTm f mo m r S = (mo r S).bind fun o S1 => match o with
  | .str x => (m r S1).bind fun d S2 => ofO (f (.str x) d S2) S2
  | _ => .bad := rfl
section
variable {X : Cx} {Wx : WX} {o e : Expr} {mo m : EM} {apos pos : Pos}
theorem split_len {x y : Str} : (Txt.split x y).length ≤ x.length + 2 := PyProof.Rows.split_le x y
theorem splP_some {x y : Str} {ys : List Str} (h : splP x y = some ys) : (y.length == 0) = false ∧ x.length ≤ 100000 ∧ ys = Txt.split x y := by
  unfold splP at h
  split at h
  · rename_i c
    cases h
    exact ⟨c.1, c.2, rfl⟩
  · cases h
theorem j_split (ho : PE X o (tD X.K X.mg Wx mo)) (he : PE X e (tD X.K X.mg Wx m)) (hs : starEach [e] X.env = [(false, eval e X.env)] := by rfl) (hbase : attributeBase o "split" X.env (eval o X.env) = eval o X.env := by rfl) (hline : (apos.endLine == pos.line) = true := by rfl) :
    PE X (.Call (.Attribute o "split" apos) [e] [] pos) (tD X.K X.mg Wx (mTm splD mo m)) :=
  pe_imp (pe_split ho he hs hbase hline) fun g H Q h => by
    obtain ⟨T, r, S, rs, sim, h⟩ := h
    refine ⟨T, r, S, rs, sim, Out.bind h fun d S1 T1 H1 v st sim1 rel h1 => ?_⟩
    split at h1
    · rename_i x
      cases rel
      refine ⟨⟨x, rfl⟩, T1, r, S1, rs.step st, sim1, Out.bind h1 fun y S2 T2 H2 w st2 sim2 rel2 h2 => ?_⟩
      refine Out.use h2 fun d' e k => ?_
      cases y with
      | str b =>
        cases rel2
        have e : (splP x b).map (fun ys => D.lst (ys.map D.str)) = some d' := e
        obtain ⟨ys, hy, rfl⟩ := Option.map_eq_some_iff.mp e
        obtain ⟨c1, c2, rfl⟩ := splP_some hy
        have hz := sizeLine_eq
        refine ⟨x, b, rfl, rfl, c1, by omega, fun p hp => ?_⟩
        have hl : (List.map V.str (Txt.split x b)).length ≤ sizeLine := by
          have := split_len (x := x) (y := b)
          rw [List.length_map]
          omega
        exact k T2 _ (.ref p) (sim2.stepNew hp) (sim2.new hp (hlen_lst sim2.hl hl)) (.lst upd_same (sim2.off hp) (RepL.strs _))
      | _ => cases e
    · exact h1.elim
theorem strsOf_rep {K : PySem.W.Frag} {T : Tb} {H : Hp} {vs : List V} {ds : List D} {ys : List Str} (h : RepL K T H vs ds) (e : strsOf ds = some ys) : vs = ys.map V.str := by
  have := strsOf_some e
  subst this
  exact RepL.of_strs h
theorem j_splitN (ho : PE X o (tD X.K X.mg Wx mo)) (he : PE X e (tD X.K X.mg Wx m)) (hs : starEach [e] X.env = [(false, eval e X.env)] := by rfl) (hbase : attributeBase o "split" X.env (eval o X.env) = eval o X.env := by rfl) (hline : (apos.endLine == pos.line) = true := by rfl) :
    PE X (.Call (.Attribute o "split" apos) [e] [] pos) (tD X.K X.mg Wx (mTmN splN mo m)) :=
  pe_imp (pe_split ho he hs hbase hline) fun g H Q h => by
    obtain ⟨T, r, S, rs, sim, h⟩ := h
    refine ⟨T, r, S, rs, sim, Out.bind h fun d S1 T1 H1 v st sim1 rel h1 => ?_⟩
    split at h1
    · rename_i x
      cases rel
      refine ⟨⟨x, rfl⟩, T1, r, S1, rs.step st, sim1, Out.bind h1 fun y S2 T2 H2 w st2 sim2 rel2 h2 => ?_⟩
      obtain ⟨ds, e, k⟩ := newO_use sim2 h2
      cases y with
      | str b =>
        cases rel2
        have e : (splP x b).map (fun ys => ys.map D.str) = some ds := e
        obtain ⟨ys, hy, rfl⟩ := Option.map_eq_some_iff.mp e
        obtain ⟨c1, c2, rfl⟩ := splP_some hy
        have hz := sizeLine_eq
        refine ⟨x, b, rfl, rfl, c1, by omega, fun p hp => ?_⟩
        have hl : (List.map V.str (Txt.split x b)).length ≤ sizeLine := by
          have := split_len (x := x) (y := b)
          rw [List.length_map]
          omega
        exact k _ p (RepL.strs _) hl hp
      | _ => cases e
    · exact h1.elim
theorem j_join (ho : PE X o (tD X.K X.mg Wx mo)) (he : PE X e (tD X.K X.mg Wx m)) (hs : starEach [e] X.env = [(false, eval e X.env)] := by rfl) (hbase : attributeBase o "join" X.env (eval o X.env) = eval o X.env := by rfl) (hline : (apos.endLine == pos.line) = true := by rfl) :
    PE X (.Call (.Attribute o "join" apos) [e] [] pos) (tD X.K X.mg Wx (mTm joiD mo m)) :=
  pe_imp (pe_join ho he hs hbase hline) fun g H Q h => by
    obtain ⟨T, r, S, rs, sim, h⟩ := h
    refine ⟨T, r, S, rs, sim, Out.bind h fun d S1 T1 H1 v st sim1 rel h1 => ?_⟩
    split at h1
    · rename_i x
      cases rel
      refine ⟨⟨x, rfl⟩, T1, r, S1, rs.step st, sim1, Out.bind h1 fun y S2 T2 H2 w st2 sim2 rel2 h2 => ?_⟩
      refine Out.use h2 fun d' e k => ?_
      have go : ∀ {ds : List D} {p : Addr} {vs : List V}, RepL X.K T2 H2 vs ds → (SqL X.K H2 p vs ∨ SqT X.K H2 p vs) → (match strsOf ds with
          | some ys => if (ys.map (·.length)).sum + ys.length * x.length ≤ 100000 then some (D.str (Txt.join x ys)) else none
          | none => none) = some d' → ∃ a p', ∃ ys : List Str, V.str x = .str a ∧ [V.ref p] = [.ref p'] ∧ (SqL X.K H2 p' (ys.map V.str) ∨ SqT X.K H2 p' (ys.map V.str)) ∧ (ys.map (·.length)).sum + ys.length * a.length ≤ 16777216 ∧ Q (.str (Txt.join a ys)) H2 := fun {ds p vs} rl sq e => by
        cases hy : strsOf ds with
        | none => rw [hy] at e; cases e
        | some ys =>
          rw [hy] at e
          have e : (if (ys.map (·.length)).sum + ys.length * x.length ≤ 100000 then some (D.str (Txt.join x ys)) else none) = some d' := e
          split at e
          · rename_i c
            cases e
            have hv := strsOf_rep rl hy
            subst hv
            exact ⟨x, p, ys, rfl, rfl, sq, Nat.le_trans c (by omega), k T2 H2 _ (Step.refl T2 H2) sim2 (.str _)⟩
          · cases e
      cases y with
      | lst ds =>
        cases rel2 with
        | @lst p vs _ hH n rl => exact go rl (.inl (SqL.of hH)) e
      | tup ds =>
        cases rel2 with
        | @tup p vs _ hH n rl => exact go rl (.inr (SqT.of hH)) e
      | loc n =>
        have e : (match S2[n]? with
          | some (.lst ds) => match strsOf ds with
            | some ys => if (ys.map (·.length)).sum + ys.length * x.length ≤ 100000 then some (D.str (Txt.join x ys)) else none
            | none => none
          | _ => none) = some d' := e
        cases hS : S2[n]? with
        | none => rw [hS] at e; cases e
        | some ob =>
          rw [hS] at e
          cases ob with
          | lst ds =>
            obtain ⟨p, rfl, hn, vs, q1, q2⟩ := loc_of sim2 rel2 hS
            exact go q2 (.inl (SqL.of q1)) e
          | _ => cases e
      | _ => cases e
    · exact h1.elim
end
def slWD (d : D) (lo hi : Option Int) (S : Store) : Option D := match d with
  | .str x => if x.length ≤ 100000 then some (.str (cutS x lo hi)) else none
  | d => slD d lo hi S
def mSlW (m : EM) (ml mh : OM) : EM := fun r S => (m r S).bind fun d S1 => (ml r S1).bind fun lo S2 => (mh r S2).bind fun hi S3 => ofO (slWD d lo hi S3) S3
section
variable {X : Cx} {K : PySem.W.Frag} {mg : Str → Option Value} {Wx : WX} {e : Expr} {m : EM} {ml mh : OM} {pos p2 : Pos} {lo hi : Option Expr}
def rSlZ (K : PySem.W.Frag) : V → Option Int → Option Int → Hp → VK → Prop := fun x lo hi H Q => rSlB K x lo hi H Q ∨ rSlS x lo hi H Q
theorem sl_Z : SlR X (rSlZ X.K) := sl_B.or sl_str
theorem slZ_ok {T : Tb} {S : Store} {H : Hp} {v : V} {d d' : D} {lo hi : Option Int} {Q : VK} (sim : Sim K mg T S H) (h : Rep K T H v d) (e : slWD d lo hi S = some d') (k : ∀ H' v, Step T H T H' → Sim K mg T S H' → Rep K T H' v d' → Q v H') : rSlZ K v lo hi H Q := by
  unfold slWD at e
  split at e
  · rename_i x
    split at e
    · rename_i c
      cases e
      cases h
      exact .inr ⟨x, rfl, by rw [sizeLine_eq]; omega, k H _ (Step.refl T H) sim (.str _)⟩
    · cases e
  · exact .inl (sl_ok sim h e k)
theorem j_sliceW (he : PE X e (tD X.K X.mg Wx m)) (hl : PO X lo (tDO X.K X.mg Wx ml)) (hu : PO X hi (tDO X.K X.mg Wx mh)) : PE X (.Subscript e (.Slice lo hi none p2) pos) (tD X.K X.mg Wx (mSlW m ml mh)) :=
  pe_imp (pe_slice sl_Z he hl hu) fun g H Q h => by
    obtain ⟨T, r, S, rs, sim, h⟩ := h
    refine ⟨T, r, S, rs, sim, Out.bind h fun d S1 T1 H1 v st sim1 rel h1 => ?_⟩
    refine ⟨T1, r, S1, rs.step st, sim1, Out.bind h1 fun l S2 T2 H2 lv st2 sim2 rel2 h2 => ?_⟩
    subst rel2
    refine ⟨T2, r, S2, (rs.step st).step st2, sim2, Out.bind h2 fun u S3 T3 H3 uv st3 sim3 rel3 h3 => ?_⟩
    subst rel3
    exact Out.use h3 fun d' e k => slZ_ok sim3 (rel.step (st2.trans st3)) e fun H' v' s' => k T3 H' v' s'
end
def intSD (ds : List D) (S : Store) : Option D := match ds with
  | [.str x] => match PySem.intText? x with
    | some n => if x.length ≤ 640 then some (.int n) else none
    | none => none
  | ds => intD ds S
def strSD (ds : List D) (S : Store) : Option D := match ds with
  | [.str x] => some (.str x)
  | ds => strD ds S
section
variable {K : PySem.W.Frag} {mg : Str → Option Value}
def rIntS : List V → Hp → VK → Prop := fun xs H Q => ((∃ i, xs = [.int i] ∧ Q (.int i) H) ∨ ∃ k, xs = [.bl k] ∧ Q (.int (if k then 1 else 0)) H) ∨ ∃ a n, xs = [.str a] ∧ PySem.intText? a = some n ∧ a.length ≤ 640 ∧ Q (.int n) H
theorem pok_intS : POk K mg rIntS intSD := fun T S H vs ds d Q sim rep e k => by
  unfold intSD at e
  split at e
  · rename_i x
    split at e
    · rename_i n hn
      split at e
      · rename_i c
        cases e
        obtain ⟨v, rfl, r⟩ := rep.one
        cases r
        exact .inr ⟨x, n, rfl, hn, c, k H _ (Step.refl T H) sim (.int _)⟩
      · cases e
    · cases e
  · exact .inl (pok_int T S H vs _ d Q sim rep e k)
theorem call_intS {X : Cx} : CallR X (.type "int") rIntS := CallR.or call_int1 call_int_str
def rStrS : List V → Hp → VK → Prop := fun xs H Q => (∃ i : Int, xs = [.int i] ∧ i.natAbs.log2 < 1920 ∧ Q (.str (toString i : String)) H) ∨ ∃ a, xs = [.str a] ∧ Q (.str a) H
theorem pok_strS : POk K mg rStrS strSD := fun T S H vs ds d Q sim rep e k => by
  unfold strSD at e
  split at e
  · rename_i x
    cases e
    obtain ⟨v, rfl, r⟩ := rep.one
    cases r
    exact .inr ⟨x, rfl, k H _ (Step.refl T H) sim (.str _)⟩
  · exact .inl (pok_str T S H vs _ d Q sim rep e k)
theorem call_strS {X : Cx} : CallR X (.type "str") rStrS := CallR.or call_str_int SkE.call_str_str
end
def inSD (a b : D) (S : Store) : Option D := match a, b with
  | .str x, .str z => match x.cps.toList with
    | [c] => some (.bl (decide (c ∈ z.cps.toList)))
    | _ => none
  | a, b => inTD a b S
section
variable {X : Cx} {K : PySem.W.Frag} {mg : Str → Option Value}
end
end Dv
namespace Dv
open PySem PySem.Spec PyProof.Rows L2
def gSlc (to : TE) (tl th : TO) : TG := fun v g H Q => to g H fun x H1 => tl g H1 fun l H2 => th g H2 fun u H3 => ∃ (p b : Addr) (xs ys : List V) (a c : Int), x = .ref p ∧ v = .ref b ∧ H3 p = some (.lst xs) ∧ H3 b = some (.lst ys) ∧ p ≠ b ∧ l = some a ∧ u = some c ∧ 0 ≤ a ∧ a ≤ c ∧ c ≤ xs.length ∧ xs.length + ys.length ≤ sizeLine ∧ Q g (upd H3 p (.lst (xs.take a.toNat ++ ys ++ xs.drop c.toNat)))
section
variable {X : Cx} {o : Expr} {lo hi : Option Expr} {p2 pos : Pos}
theorem pg_slc {to : TE} {tl th : TO} (ho : PE X o to) (hl : PO X lo tl) (hu : PO X hi th)
    (ha : ∀ v, assign (.Subscript o (.Slice lo hi none p2) pos) X.env v = (do
      let ov ← holding [v] (eval o X.env)
      let iv ← holding [v, ov] (eval (.Slice lo hi none p2) X.env)
      standAt pos
      holding [v, ov, iv] (setItem ov iv v)
      release [iv, v, ov] []) := by intro _; rfl) : PG X (.Subscript o (.Slice lo hi none p2) pos) (gSlc to tl th) := by
  refine ⟨fun pins s g H v u Q I r h => ?_⟩
  rw [ha]
  refine wpAny_bind (wpAny_holding (thn (ho.run pins s g H _ I h) fun ov s1 ⟨x, H1, I1, r1, q1⟩ => ?_))
  refine wpAny_bind (wpAny_holding (wpAny_Slice (thn (hl.run pins s1 g H1 _ I1 q1) fun vl s2 ⟨l, H2, I2, pl, q2⟩ => thn (hu.run pins s2 g H2 _ I2 q2) fun vu s3 ⟨u', H3, I3, pu, q3⟩ => ?_)))
  rw [evalPart_none]
  refine wpAny_pure ?_
  have I4 : Inv X pins g H3 { s3 with heap := s3.heap.push { cls := .type "slice", data := .fields #[vl, vu, .none] } } := I3.kept (t' := s3.toks) fun b ob q => Heap.get?_push_of_some _ q
  obtain ⟨p, b, xs, ys, a, c, rfl, rfl, hp, hb, hne, rfl, rfl, h0, hac, hc, hz, q⟩ := q3
  cases r1
  cases r
  cases pl with
  | int _ ta =>
    cases pu with
    | int _ tc =>
      refine wpAny_bind (wpAny_standAt (wpAny_bind (wpAny_holding ?_)))
      refine thn (Q := fun _ s' => ∃ H', Inv X pins g H' s' ∧ Q g H') (set_slice (pins := pins) (σ := g) I4 hp hb hne (Heap.IsSliceOf.new ..) ⟨ta, rfl⟩ ⟨tc, rfl⟩ h0 hac hc hz fun s' I' => ⟨_, I', q⟩) fun _ s4 ⟨H4, I5, q4⟩ => ?_
      exact wpAny_release ⟨g, H4, I5, q4⟩
end
def sSetSl (mo : EM) (ml mh : OM) (m : EM) : SM := fun r S => bindS (m r S) r fun d S1 => bindS (mo r S1) r fun o S2 => bindS (ml r S2) r fun lo S3 => bindS (mh r S3) r fun hi S4 => match o, lo, hi, d with
  | .loc n, some a, some c, .lst ys => match S4[n]? with
    | some (.lst xs) => if 0 ≤ a ∧ a ≤ c ∧ c ≤ xs.length ∧ xs.length + ys.length ≤ 100000 then .ok .next r (S4.set n (.lst (xs.take a.toNat ++ ys ++ xs.drop c.toNat))) else .bad
    | _ => .bad
  | _, _, _, _ => .bad
section
variable {X : Cx} {Wx : WX} {o hv : Expr} {lo hi : Option Expr} {p2 tpos pos : Pos} {mo mv : EM} {ml mh : OM}
theorem RepL.app3 {K : PySem.W.Frag} {T : Tb} {H : Hp} : ∀ {vs ws : List V} {ds es : List D}, RepL K T H vs ds → RepL K T H ws es → RepL K T H (vs ++ ws) (ds ++ es)
  | _, _, _, _, .nil, h => h
  | _, _, _, _, .cons h t, h2 => .cons h (RepL.app3 t h2)
theorem js_setSl (he : PE X hv (tD X.K X.mg Wx mv)) (ho : PE X o (tD X.K X.mg Wx mo)) (hl : PO X lo (tDO X.K X.mg Wx ml)) (hu : PO X hi (tDO X.K X.mg Wx mh))
    (ha : ∀ v, assign (.Subscript o (.Slice lo hi none p2) tpos) X.env v = (do
      let ov ← holding [v] (eval o X.env)
      let iv ← holding [v, ov] (eval (.Slice lo hi none p2) X.env)
      standAt tpos
      holding [v, ov, iv] (setItem ov iv v)
      release [iv, v, ov] []) := by intro _; rfl)
    (hs : swapsWithSole [.Subscript o (.Slice lo hi none p2) tpos] hv pos.line X.env = pure false := by rfl) (hw : swappedStores [.Subscript o (.Slice lo hi none p2) tpos] hv X.env = pure none := by rfl)
    (h1 : (assignEach [.Subscript o (.Slice lo hi none p2) tpos] X.env).map (·.2) = [assign (.Subscript o (.Slice lo hi none p2) tpos) X.env] := by rfl) : PS X (.Assign [.Subscript o (.Slice lo hi none p2) tpos] hv pos) (tDS X.K X.mg Wx (sSetSl mo ml mh mv)) :=
  ps_imp (ps_asg he (pg_slc ho hl hu ha) hs hw h1) fun E g H h => by
    obtain ⟨T, r, S, rs, sim, h⟩ := h
    refine ⟨T, r, S, rs, sim, ZOut.bind h rs fun d S1 T1 H1 v st sim1 rel rs1 h1 => ?_⟩
    refine ⟨T1, r, S1, rs1, sim1, ZOut.bind h1 rs1 fun ov S2 T2 H2 x st2 sim2 rel2 rs2 h2 => ?_⟩
    refine ⟨T2, r, S2, rs2, sim2, ZOut.bind h2 rs2 fun l S3 T3 H3 lv st3 sim3 rel3 rs3 h3 => ?_⟩
    subst rel3
    refine ⟨T3, r, S3, rs3, sim3, ZOut.bind h3 rs3 fun u S4 T4 H4 uv st4 sim4 rel4 rs4 h4 => ?_⟩
    subst rel4
    have relo := rel2.step (st3.trans st4)
    have relv := rel.step (st2.trans (st3.trans st4))
    split at h4
    · rename_i n a c ys
      split at h4
      · rename_i xs q
        split at h4
        · rename_i cc
          obtain ⟨p, rfl, hn, vs, q1, q2⟩ := loc_of sim4 relo q
          cases relv with
          | @lst b ws _ hH off rl =>
            have hz := sizeLine_eq
            have l1 := q2.length
            have l2 := rl.length
            have hlen : (vs.take a.toNat ++ ws ++ vs.drop c.toNat).length ≤ sizeLine := by
              simp only [List.length_append, List.length_take, List.length_drop]
              omega
            obtain ⟨st5, sim5⟩ := lst_set sim4 hn hlen (((q2.take a.toNat).app3 rl).app3 (q2.drop c.toNat))
            refine ⟨p, b, vs, ws, a, c, rfl, rfl, q1, hH, ?_, rfl, rfl, cc.1, cc.2.1, by rw [l1]; exact cc.2.2.1, by rw [l1, l2]; omega, h4 T4 _ g st5 sim5 (rs4.step st5)⟩
            intro e
            subst e
            exact off.1 (List.mem_of_getElem? hn)
        · exact h4.elim
      · exact h4.elim
    · exact h4.elim
end
end Dv
namespace Dv
open PySem PySem.Spec PyProof.Rows L2
section
variable {X : Cx} {pins : List (Addr × Obj)} {σ : L2.St} {H : Hp} {s : Shared} {d : Addr} {o : Obj} {kvs : List (Key × V)}
end
abbrev Kt := List (Str × Str)
def getM (t : Kt) (d : D) (_ : Store) : Option D := match d with
  | .str x => ((t.find? fun p => decide (p.1 = x)).map (·.2)).map D.str
  | _ => none
section
variable {X : Cx} {Wx : WX} {d : Addr} {ob : Obj} {t : Kt}
end
end Dv
namespace Dv
open PySem PySem.Spec PyProof.Rows L2
section
variable {P : Program} {w : World} {A : Around} {Ex : Value → Shared → Prop} {s : Shared}
end
end Dv
namespace Dv
open PySem PySem.Spec PyProof.Rows L2
abbrev MEnt := Nat × Addr × List Key
section
variable {P : Program} {w : World} {A : Around} {Ex : Value → Shared → Prop} {s : Shared} {a : Addr} {E : List MEnt} {es : Array (Int × Value)} {ep : Nat} {t : SetTable} {h : Heap}
end
end Dv
namespace Dv
open PySem PySem.Spec PyProof.Rows L2
section
variable {P : Program} {w : World} {A : Around} {Ex : Value → Shared → Prop} {s : Shared} {a : Addr} {E : List MEnt} {es : Array (Int × Value)} {ep : Nat} {t : SetTable}
end
end Dv
namespace Dv
open PySem PySem.Spec PyProof.Rows L2
section
variable {P : Program} {w : World} {A : Around} {s : Shared}
end
end Dv
namespace Dv
open PySem PySem.Spec PyProof.Rows L2
section
variable {X : Cx} {Wx : WX} {e e2 : Expr} {ms : AM} {pos p tpos : Pos} {elts : List Expr} {kk : Nat}
end
end Dv
namespace Dv
open PySem PySem.Spec PyProof.Rows L2
section
variable {K : PySem.W.Frag} {T : Tb} {H : Hp}
end
section
variable {X : Cx}
end
end Dv
namespace Dv
open PySem PySem.Spec PyProof.Rows L2
section
variable {P : Program} {w : World} {A : Around} {Ex : Value → Shared → Prop} {s : Shared} {a : Addr} {D : Froz.SD} {l : List Str}
end
end Dv
set_option maxHeartbeats 4000000
namespace Dv
open PySem PySem.Spec PyProof.Rows L2
section
variable {P : Program} {w : World} {A : Around} {E : Value → Shared → Prop} {s : Shared}
end
section
variable {P : Program} {w : World} {A : Around} {s : Shared}
end
end Dv
namespace Dv
open PySem L2
def ltKey : Key → Key → Bool
  | .inl a, .inl b => decide (a < b)
  | .inl _, .inr _ => true
  | .inr _, .inl _ => false
  | .inr x, .inr y => decide (x.cps.toList < y.cps.toList)
end Dv
namespace Dv
open PySem PySem.Spec PyProof.Rows L2
section
variable {prog : Program} {w : World} {A : Around} {s : Shared} {Q : Bool → Shared → Prop}
end
end Dv
namespace Dv
open PySem PySem.Spec PyProof.Rows L2
section
variable {X : Cx}
end
end Dv
namespace Dv
open PySem PySem.Spec PyProof.Rows L2
section
variable {K : PySem.W.Frag} {mg : Str → Option Value} {T : Tb} {S : Store} {H : Hp}
end
section
variable {X : Cx} {Wx : WX}
end
end Dv
namespace Dv
open PySem PySem.Spec PyProof.Rows L2
section
variable {X : Cx}
end
end Dv
namespace Dv
open PySem PySem.Spec PyProof.Rows L2
def ltS (x y : Str) : Bool := ltKey (.inr x) (.inr y)
section
variable {prog : Program} {w : World} {A : Around} {s : Shared}
end
section
variable {X : Cx}
end
section
variable {X : Cx} {Wx : WX}
end
end Dv
namespace Dv
open PySem PySem.Spec PyProof.Rows L2
def ltTD (a b : D) (S : Store) : Option D := match a, b with
  | .tup xs, .tup ys => match intsOf xs, intsOf ys with
    | some ns, some ms => some (.bl (ltR ns ms))
    | _, _ => none
  | a, b => ltD a b S
theorem ltTD_row (ns ms : List Int) (S : Store) : ltTD (rowD ns) (rowD ms) S = some (.bl (ltR ns ms)) := by
  show (match intsOf (ns.map D.int), intsOf (ms.map D.int) with
    | some ns, some ms => some (D.bl (ltR ns ms))
    | _, _ => none) = _
  rw [intsOf_map, intsOf_map]
section
end
section
variable {X : Cx} {K : PySem.W.Frag} {mg : Str → Option Value}
def rLtU (K : PySem.W.Frag) : R2 := fun x y H Q => rLtA K x y H Q ∨ rLtT K x y H Q
theorem op_ltU (hu : X.A.units + 65 < cLine) : OpR X (compareOp .Lt) (rLtU X.K) := op_ltA.or (op_ltT (by omega))
theorem pok_ltU : POk2 K mg (rLtU K) ltTD := fun T S H x y a b d Q sim rx ry e k => by
  unfold ltTD at e
  split at e
  · rename_i xs ys
    split at e
    · rename_i ns ms h1 h2
      cases e
      have e1 := intsOf_some h1
      have e2 := intsOf_some h2
      subst e1 e2
      cases rx with
      | tup p1 _ q1 =>
        cases ry with
        | tup p2 _ q2 =>
          rw [q1.of_ints] at p1
          rw [q2.of_ints] at p2
          exact .inr ⟨_, _, ns, ms, rfl, rfl, SqT.of p1, SqT.of p2, k H _ (Step.refl T H) sim (.bl _)⟩
    · cases e
  · exact .inl (pok_lt T S H x y a b d Q sim rx ry e k)
end
end Dv
namespace Dv
open PySem L2
section
variable {X : Cx} {Wx : WX} {st1 st2 : Stmt} {rest : List Stmt} {sa sb sc : SM}
end
end Dv
namespace Dv
open PySem PySem.Spec PyProof.Rows L2
open L2 (St)
section
variable {X : Cx} {Wx : WX} {c f x : Str} {C : Addr} {es : List Expr} {gz : List D → SM} {i : Nat} {pos npos apos : Pos} {e : Expr} {m : EM}
end
end Dv
namespace Dv
open PySem PySem.Spec PyProof.Rows L2
open L2 (St)
section
variable {K : PySem.W.Frag} {mg : Str → Option Value} {T : Tb} {H : Hp} {S : Store}
end
section
variable {X : Cx} {Wx : WX} {e kx vx tg : Expr} {ifs : List Expr} {scope : Scope} {own : List (Str × Nat)} {pos apos cpos tpos : Pos} {elts : List Expr} {kk : Nat} {sl : List Nat} {gm : D → Env → Option Env} {tt : BM} {tk tv m : EM} {nw : Bool}
end
end Dv
set_option maxHeartbeats 1000000
namespace Dv
open PySem PySem.Spec PyProof.Rows L2
section
variable {K : PySem.W.Frag} {mg : Str → Option Value} {T T' : Tb} {H H' : Hp} {S : Store}
end
section
variable {X : Cx} {Wx : WX} {sl : List Nat} {gm : D → Env → Option Env} {tt : BM} {tk tv m : EM} {own : List (Str × Nat)}
end
section
variable {X : Cx} {Wx : WX} {e kx vx tg : Expr} {ifs : List Expr} {scope : Scope} {own : List (Str × Nat)} {pos apos cpos tpos : Pos} {elts : List Expr} {kk : Nat} {sl : List Nat} {gm : D → Env → Option Env} {tt : BM} {tk tv m : EM}
end
end Dv
namespace Dv
open PySem PySem.Spec PyProof.Rows L2
section
variable {X : Cx} {o e : Expr} {apos cpos : Pos} {td ty : TE}
end
section
variable {X : Cx} {Wx : WX} {o e : Expr} {apos cpos : Pos} {mo me : EM}
end
end Dv
set_option maxHeartbeats 1000000
namespace Dv
open PySem PySem.Spec PyProof.Rows L2
section
variable {K : PySem.W.Frag} {mg : Str → Option Value} {T : Tb} {H : Hp}
end
section
variable {X : Cx} {Wx : WX} {o e : Expr} {apos cpos : Pos} {mo me : EM}
end
def mFmt (m : EM) : EM := fun r S => (m r S).bind fun d S1 => match d with
  | .str y => if y.length ≤ 100000 then .ok (.str y) S1 else .bad
  | .int i => if i.natAbs.log2 < 1920 then .ok (.str (toString i)) S1 else .bad
  | _ => .bad
@[simp] theorem mFmt_ap (m : EM) (r : Env) (S : Store) : mFmt m r S = (m r S).bind fun d S1 => match d with
  | .str y => if y.length ≤ 100000 then .ok (.str y) S1 else .bad
  | .int i => if i.natAbs.log2 < 1920 then .ok (.str (toString i)) S1 else .bad
  | _ => .bad := rfl
def jsL (r : Env) : List EM → Str → Store → R D
  | [], acc, S => .ok (.str acc) S
  | m :: ms, acc, S => (m r S).bind fun d S1 => match d with
    | .str y => if (acc ++ y).length ≤ 100000 then jsL r ms (acc ++ y) S1 else .bad
    | _ => .bad
@[simp] theorem jsL_nil (r : Env) (acc : Str) (S : Store) : jsL r [] acc S = .ok (.str acc) S := rfl
@[simp] theorem jsL_cons (r : Env) (m : EM) (ms : List EM) (acc : Str) (S : Store) : jsL r (m :: ms) acc S = (m r S).bind fun d S1 => match d with
    | .str y => if (acc ++ y).length ≤ 100000 then jsL r ms (acc ++ y) S1 else .bad
    | _ => .bad := rfl
def mJs (ms : List EM) : EM := fun r S => jsL r ms Str.empty S
@[simp] theorem mJs_ap (ms : List EM) (r : Env) (S : Store) : mJs ms r S = jsL r ms Str.empty S := rfl
section
variable {X : Cx} {Wx : WX} {e v1 v2 : Expr} {es rest : List Expr} {pos : Pos} {m : EM} {ms : List EM}
theorem j_fmt (he : PE X e (tD X.K X.mg Wx m)) : PE X (.FormattedValue e (-1) none pos) (tD X.K X.mg Wx (mFmt m)) := pe_imp (pe_fmt he) fun g H Q h => by
  obtain ⟨T, r, S, rs, sim, h⟩ := h
  rw [mFmt_ap] at h
  refine ⟨T, r, S, rs, sim, Out.bind h fun d S1 T1 H1 v st sim1 rel h1 => ?_⟩
  split at h1
  · rename_i y
    split at h1
    · rename_i hz
      rw [rel.str_of]
      exact .inl ⟨y, rfl, sz5 hz, h1 T1 H1 _ (Step.refl T1 H1) sim1 (.str _)⟩
    · exact h1.elim
  · rename_i i
    split at h1
    · rename_i hz
      rw [rel.int_of]
      exact .inr ⟨i, rfl, hz, h1 T1 H1 _ (Step.refl T1 H1) sim1 (.str _)⟩
    · exact h1.elim
  · exact h1.elim
theorem jj_nil : PJ X [] (([] : List EM).map fun m => tD X.K X.mg Wx m) := .nil
theorem jj_cons (he : PE X e (tD X.K X.mg Wx m)) (hr : PJ X es (ms.map fun m => tD X.K X.mg Wx m)) : PJ X (e :: es) ((m :: ms).map fun m => tD X.K X.mg Wx m) := .cons he hr
theorem tJs_of {K : PySem.W.Frag} {mg : Str → Option Value} {r : Env} {g : L2.St} {Q : VK} : ∀ (ms : List EM) (acc : Str) {T : Tb} {H : Hp} {S : Store}, RepSt K T H r g → Sim K mg T S H → Out K mg Wx (Rep K) T g H (jsL r ms acc S) Q →
    tJs (ms.map fun m => tD K mg Wx m) acc g H fun out H1 => Q (.str out) H1
  | [], acc, T, H, S, rs, sim, h => h T H _ (Step.refl T H) sim (.str _)
  | m :: ms, acc, T, H, S, rs, sim, h => by
    rw [jsL_cons] at h
    show tD K mg Wx m g H _
    refine ⟨T, r, S, rs, sim, Out.bind h fun d S1 T1 H1 v st sim1 rel h1 => ?_⟩
    split at h1
    · rename_i y
      split at h1
      · rename_i hz
        rw [rel.str_of]
        exact ⟨y, rfl, sz5 hz, tJs_of ms (acc ++ y) (rs.step st) sim1 h1⟩
      · exact h1.elim
    · exact h1.elim
theorem j_js {k : Nat} (h : PJ X (v1 :: v2 :: rest) (ms.map fun m => tD X.K X.mg Wx m)) : PE X (.JoinedStr (v1 :: v2 :: rest) pos) (tD X.K X.mg Wx (mJs ms)) := pe_imp (pe_joined h) fun g H Q h => by
  obtain ⟨T, r, S, rs, sim, h⟩ := h
  exact tJs_of ms Str.empty rs sim h
end
section
variable {X : Cx} {Wx : WX} {k n : Nat} {f C : Addr} {fd : FuncData} {ps : List Str} {Fn : List D → Store → R D} {c : Str} {a e : Expr} {m : EM} {p pos : Pos}
end
end Dv
namespace Dv
open PySem PySem.W PySem.Spec PyProof.Rows L2
section
variable {prog : Program} {w : World} {A : Around} {E : Value → Shared → Prop} {s : Shared}
end
section
variable {X : Cx} {pos py p2 : Pos} {t0 : Expr} {g0 : TG} {i k : Nat} {y : Str}
end
section
variable {X : Cx} {Wx : WX} {pos py p2 tp : Pos} {t0 e : Expr} {m : EM} {sl : List Nat} {gm : D → Env → Option Env} {i k : Nat} {y : Str}
end
end Dv
namespace Dv
open PySem L2
def revLD (d : D) (_ : Store) : Option D := match d with
  | .lst xs => some (.lst xs.reverse)
  | _ => none
section
variable {X : Cx} {Wx : WX} {m : EM}
theorem j_revL {e : Expr} {k : Nat} {q1 q2 q3 q4 : Pos} (he : PE X e (tD X.K X.mg Wx m)) : PE X (.Subscript e (.Slice none none (some (.UnaryOp .USub (.Constant (.int 1) k q1) q2)) q3) q4) (tD X.K X.mg Wx (mUn revLD m)) := pe_imp (pe_revL he) fun g H Q h => by
  obtain ⟨T, r, S, rs, sim, h⟩ := h
  refine ⟨T, r, S, rs, sim, Out.bind h fun d S1 T1 H1 v st sim1 rel h1 => ?_⟩
  refine Out.use h1 fun d' e k => ?_
  unfold revLD at e
  split at e
  · cases e
    cases rel with
    | @lst a vs _ hH n rl =>
      refine ⟨a, vs, rfl, SqL.of hH, fun p hp => ?_⟩
      have hl : vs.reverse.length ≤ sizeLine := by
        rw [List.length_reverse]
        exact sim1.hl _ _ (.inl (.inl hH))
      exact k _ _ (.ref p) (sim1.stepNew hp) (sim1.new hp (hlen_lst sim1.hl hl)) (.lst upd_same (sim1.off hp) (RepL.rev (rl.step (sim1.stepNew hp))))
  · cases e
end
end Dv
namespace Dv
open PySem L2
theorem loop_step {gm : D → Env → Option Env} {b : SM} {t : D} {ts : List D} {r r1 r2 : Env} {S S2 : Store} (e1 : gm t r = some r1) (e2 : b r1 S = .ok .next r2 S2) : sLoop gm b (t :: ts) r S = sLoop gm b ts r2 S2 := by
  rw [sLoop_cons, e1]
  simp only [e2]
theorem loop_out {gm : D → Env → Option Env} {b : SM} {t x : D} {ts : List D} {r r1 r2 : Env} {S S2 : Store} (e1 : gm t r = some r1) (e2 : b r1 S = .ok (.ret x) r2 S2) : sLoop gm b (t :: ts) r S = .ok (.ret x) r2 S2 := by
  rw [sLoop_cons, e1]
  simp only [e2]
theorem seq_ok {S S1 : Store} {a b : SM} {r r1 : Env} (h : a r S = .ok .next r1 S1) : sSeq a b r S = b r1 S1 := by
  rw [sSeq_ap, h]
theorem fn_ret {S : Store} {sz : Nat} {m : SM} {ds : List D} {b : D} (hb : clo S.length b = true) (h : ∃ rho, m (frame sz ds) S = .ok (.ret b) rho S) : runT sz m ds S = .ok b S := by
  obtain ⟨rho, h⟩ := h
  show finT S (m (frame sz ds) S) = _
  rw [h]
  exact fin_ret0 hb
theorem cut_drop {α : Type} (xs : List α) (j : Nat) (h : j ≤ xs.length) : cutL xs (some (j : Int)) none = xs.drop j := by
  unfold cutL
  rw [HT.sIx_none, HT.sIx_nat, Nat.min_eq_left h]
  exact List.take_of_length_le (by simp)
theorem cut_take {α : Type} (xs : List α) (j : Nat) : cutL xs none (some (j : Int)) = xs.take j := by
  unfold cutL
  rw [HT.sIx_none, HT.sIx_nat, List.drop_zero, Nat.sub_zero]
  by_cases h : j ≤ xs.length
  · rw [Nat.min_eq_left h]
  · rw [Nat.min_eq_right (by omega), List.take_of_length_le (Nat.le_refl _), List.take_of_length_le (by omega)]
theorem fin_dif {S S1 : Store} {t n : Nat} {rho : Env} {d : D} (ht : t < S.length) (hl : S.length ≤ S1.length) (tw : Twn t n S1) (keep : ∀ i, i < S.length → i ≠ t → S1[i]? = S[i]?) (hd : clo S.length d = true) : ∃ S', finT S (.ok (.ret d) rho S1) = .ok d S' ∧ Twn t n S' ∧ Dif t S S' := by
  obtain ⟨ts, t1, t2⟩ := tw
  have tk : S1.take S.length = List.set S t (.lst (ts.map D.int)) := by
    refine List.ext_getElem? fun i => ?_
    rw [List.getElem?_take]
    by_cases hi : i < S.length
    · rw [if_pos hi]
      by_cases q : i = t
      · subst q
        rw [t2, List.getElem?_set_self hi]
      · rw [keep i hi q, List.getElem?_set_ne (fun z => q z.symm)]
    · rw [if_neg hi, List.getElem?_eq_none (by rw [List.length_set]; omega)]
  refine ⟨List.set S t (.lst (ts.map D.int)), ?_, ⟨ts, t1, List.getElem?_set_self ht⟩, ⟨ts, rfl⟩⟩
  rw [← tk]
  refine finT_ret ⟨hl, fun i o hi ho => ?_⟩ (fz_clo hd)
  by_cases q : i = t
  · subst q
    rw [t2] at ho
    cases ho
    exact .inr (cloL_ints _ _)
  · rw [keep i hi q] at ho
    exact .inl ho
theorem twn_lt {S : Store} {t n : Nat} (tw : Twn t n S) : t < S.length := by
  obtain ⟨ts, a, b⟩ := tw
  exact (List.getElem?_eq_some_iff.mp b).1
theorem twn_app {S E : Store} {t n : Nat} (tw : Twn t n S) : Twn t n (S ++ E) := by
  obtain ⟨ts, a, b⟩ := tw
  exact ⟨ts, a, by rw [List.getElem?_append_left (List.getElem?_eq_some_iff.mp b).1]; exact b⟩
theorem twn_set {S : Store} {t n L : Nat} {o : O} (h : L ≠ t) (tw : Twn t n S) : Twn t n (List.set S L o) := by
  obtain ⟨ts, a, b⟩ := tw
  exact ⟨ts, a, by rw [List.getElem?_set_ne h]; exact b⟩
structure Bt where
  w : Str
  n : Nat
  rows : List (List Int)
def tabD (x : Bt) : D := .tup [.str x.w, .int x.n, .tup (x.rows.map rowD)]
abbrev pqrs : List Str := ["p", "q", "r", "s"]
structure Bt.Ok (most : Nat) (far : Int) (x : Bt) : Prop where
  w : x.w ∈ pqrs
  lo : 1 ≤ x.n
  hi : x.n ≤ 3
  len : x.rows.length ≤ most
  row : ∀ r ∈ x.rows, Row x.n far r
  up : x.rows.Pairwise fun a b => ltR a b = true
theorem clo_tab (m : Nat) (x : Bt) : clo m (tabD x) = true := by
  show cloL m [.str x.w, .int x.n, .tup (x.rows.map rowD)] = true
  refine (cloL_iff m _).mpr fun d hd => ?_
  simp at hd
  rcases hd with rfl | rfl | rfl
  · rfl
  · rfl
  · exact cloL_rows _ _
theorem cloL_tabs (m : Nat) (tb : List Bt) : cloL m (tb.map tabD) = true := (cloL_iff m _).mpr fun d hd => by
  obtain ⟨x, _, rfl⟩ := List.mem_map.mp hd
  exact clo_tab m x
def mBookB : SM := (sSeq (sSet 6 (mApp 3 FPick (mCons (mVar 0) (mCons (mVar 1) (mCons (mLst (mCons (mC (.int 1)) (mCons (mC (.int 2)) (mCons (mC (.int 2)) (mCons (mC (.int 2)) (mCons (mC (.int 3)) mNil)))))) mNil)))))
    (sDrop (mAppend (mVar 4) (mTup (mCons (mVar 5) (mCons (mVar 6) (mCons (mApp 5 FRows (mCons (mVar 0) (mCons (mVar 1) (mCons (mVar 6) (mCons (mVar 2) (mCons (mVar 3) mNil)))))) mNil)))))))
def mBook : SM := (sSeq (sSet 4 (mNewL mNil)) (sSeq (sFor (mIter (mTup (mCons (mC (.str "p")) (mCons (mC (.str "q")) (mCons (mC (.str "r")) (mCons (mC (.str "s")) mNil)))))) (tgN 5) mBookB)
    (sRet (mCall tupD (mCons (mSl (mVar 4) (mP (mApp 3 FDraw (mCons (mVar 0) (mCons (mVar 1) (mCons (mC (.int 2)) mNil))))) mNoP) mNil)))))
def FBook : List D → Store → R D := runT 7 mBook
section
variable {S : Store} {ns : List Int} {n t most far : Nat}
theorem bookB_ok (h63 : ns.length ≤ 63) (hf : 0 < far) (hm : most ≤ 20) {w : Str} {L : Nat} {tb : List Bt} {y6 : Option D} (hw : w ∈ pqrs) (hL : L ≠ t) (tw : Twn t n S) (hn : n ≤ 20000) (hS : S[L]? = some (.lst (tb.map tabD))) (htl : tb.length ≤ 10) :
    ∃ S' y6' x, mBookB [some (.scr ns), some (.loc t), some (.int most), some (.int far), some (.loc L), some (.str w), y6] S = .ok .next [some (.scr ns), some (.loc t), some (.int most), some (.int far), some (.loc L), some (.str w), y6'] S' ∧ Bt.Ok most far x ∧ x.w = w ∧ Twn t (n + 124) S' ∧ S'[L]? = some (.lst ((tb ++ [x]).map tabD)) ∧ S'.length = S.length ∧ ∀ i, i ≠ t → i ≠ L → S'[i]? = S[i]? := by
  obtain ⟨i, d, S1, hd, tw1, d1, e1⟩ := pick_tw (seq := .lst [.int 1, .int 2, .int 2, .int 2, .int 3]) h63 tw (by omega) (.inl rfl) (by simp) (fun m => rfl)
  obtain ⟨wd, hk0, hk, rfl⟩ : ∃ k : Nat, 1 ≤ k ∧ k ≤ 3 ∧ d = .int k := by
    match i, hd with
    | 0, hd => cases hd; exact ⟨1, by omega, by omega, rfl⟩
    | 1, hd => cases hd; exact ⟨2, by omega, by omega, rfl⟩
    | 2, hd => cases hd; exact ⟨2, by omega, by omega, rfl⟩
    | 3, hd => cases hd; exact ⟨2, by omega, by omega, rfl⟩
    | 4, hd => cases hd; exact ⟨3, by omega, by omega, rfl⟩
    | i + 5, hd => cases hd
  have hle : 2 * wd * most ≤ 120 := by
    have : 2 * wd * most ≤ 6 * 20 := Nat.mul_le_mul (by omega) hm
    omega
  obtain ⟨rows, S2, hl, hr, hup, tw2, d2, e2⟩ := rows_ok (width := wd) (most := most) (far := far) h63 (by omega) (by omega) (by omega) tw1 (by omega) (by omega)
  have d12 := d1.trans d2
  have hS1 : S1[L]? = some (.lst (tb.map tabD)) := by rw [d1.other hL]; exact hS
  have hS2 : S2[L]? = some (.lst (tb.map tabD)) := by rw [d12.other hL]; exact hS
  have htl2 : tb.length < 100000 := by omega
  refine ⟨List.set S2 L (.lst ((tb ++ [(⟨w, wd, rows⟩ : Bt)]).map tabD)), some (.int wd), (⟨w, wd, rows⟩ : Bt), ?_, ⟨hw, hk0, hk, hl, hr, hup⟩, rfl, twn_set hL (tw2.mono (by omega)), gs hS2 _, by rw [List.length_set, d12.len], fun i h1 h2 => ?_⟩
  · unfold mBookB
    simp [e1, e2, hS1, hS2, htl2, tabD]
  · rw [List.getElem?_set_ne (fun q => h2 q.symm), d12.other h1]
theorem book_loop (h63 : ns.length ≤ 63) (hf : 0 < far) (hm : most ≤ 20) {L : Nat} (hL : L ≠ t) : ∀ (ws : List Str) {n : Nat} {S : Store} (tb : List Bt) (y5 y6 : Option D), (∀ w ∈ ws, w ∈ pqrs) → Twn t n S → n + 124 * ws.length ≤ 20000 → S[L]? = some (.lst (tb.map tabD)) → (∀ x ∈ tb, Bt.Ok most far x) → tb.length + ws.length ≤ 10 →
    ∃ (S' : Store) (y5' y6' : Option D) (tb' : List Bt), sLoop (tgN 5) mBookB (ws.map D.str) [some (.scr ns), some (.loc t), some (.int most), some (.int far), some (.loc L), y5, y6] S = .ok .next [some (.scr ns), some (.loc t), some (.int most), some (.int far), some (.loc L), y5', y6'] S' ∧ (∀ x ∈ tb', Bt.Ok most far x) ∧ tb'.map (·.w) = tb.map (·.w) ++ ws ∧ Twn t (n + 124 * ws.length) S' ∧ S'[L]? = some (.lst (tb'.map tabD)) ∧ S'.length = S.length ∧ ∀ i, i ≠ t → i ≠ L → S'[i]? = S[i]?
  | [], n, S, tb, y5, y6, _, tw, _, hS, ht, _ => ⟨S, y5, y6, tb, rfl, ht, by simp, tw.mono (by omega), hS, rfl, fun _ _ _ => rfl⟩
  | w :: ws, n, S, tb, y5, y6, hw, tw, hn, hS, ht, hl => by
    rw [List.length_cons] at hn hl
    obtain ⟨S1, y6', x, e1, hx, hxw, tw1, hS1, sl, ot⟩ := bookB_ok h63 hf hm (y6 := y6) (hw w List.mem_cons_self) hL tw (by omega) hS (by omega)
    obtain ⟨S2, y5'', y6'', tb', e2, ht', hl', tw2, hS2, sl2, ot2⟩ := book_loop h63 hf hm hL ws (tb ++ [x]) (some (.str w)) y6' (fun v hv => hw v (List.mem_cons_of_mem _ hv)) tw1 (by omega) hS1 (fun z hz => by
      rcases List.mem_append.mp hz with q | q
      · exact ht z q
      · rw [List.mem_singleton.mp q]; exact hx) (by simp; omega)
    refine ⟨S2, y5'', y6'', tb', ?_, ht', by rw [hl', List.map_append, List.append_assoc, List.map_cons, hxw]; rfl, tw2.mono (by rw [List.length_cons]; omega), hS2, by rw [sl2, sl], fun i h1 h2 => by rw [ot2 i h1 h2, ot i h1 h2]⟩
    rw [List.map_cons, loop_step (r := [some (.scr ns), some (.loc t), some (.int most), some (.int far), some (.loc L), y5, y6]) rfl e1]
    exact e2
structure BookOk (most : Nat) (far : Int) (tb : List Bt) : Prop where
  tab : ∀ x ∈ tb, Bt.Ok most far x
  ne : tb ≠ []
  len : tb.length ≤ 4
  nd : (tb.map (·.w)).Nodup
end
end Dv
namespace Dv
open PySem L2
inductive Tm where
  | nm (x : Str)
  | vl (i : Int)
abbrev abcd : List Str := ["a", "b", "c", "d"]
structure At where
  w : Str
  ts : List Tm
structure Ck where
  s : Str
  x : Str
  z : Tm
theorem cloL_strs (m : Nat) (xs : List Str) : cloL m (xs.map D.str) = true := (cloL_iff m _).mpr fun d hd => by
  obtain ⟨x, _, rfl⟩ := List.mem_map.mp hd
  rfl
section
variable {S : Store} {ns : List Int} {n t : Nat}
end
end Dv
namespace Dv
open PySem L2
section
variable {S : Store} {ns : List Int} {n t : Nat}
end
end Dv
set_option maxHeartbeats 1000000
namespace Dv
open PySem PySem.Spec PyProof.Rows L2
open L2 (St)
section
variable {K : PySem.W.Frag} {mg : Str → Option Value}
end
end Dv
set_option maxHeartbeats 1000000
namespace Dv
open PySem PySem.Spec PyProof.Rows L2
open L2 (St)
section
variable {K : PySem.W.Frag} {mg : Str → Option Value}
end
section
variable {X : Cx} {Wx : WX}
end
end Dv
namespace Dv
open PySem L2
def insD (o i d : D) (S : Store) : R D := match o, i with
  | .loc n, .int k => match S[n]? with
    | some (.lst xs) => if 0 ≤ k ∧ k ≤ 100000 ∧ xs.length < 100000 then .ok .non (S.set n (.lst (xs.take k.toNat ++ [d] ++ xs.drop k.toNat))) else .bad
    | _ => .bad
  | _, _ => .bad
def mInsert (mo mi m : EM) : EM := fun r S => (mo r S).bind fun o S1 => if isLoc o S1 = true then (mi r S1).bind fun i S2 => (m r S2).bind fun d S3 => insD o i d S3 else .bad
@[simp] theorem mInsert_ap {mo mi m : EM} {r : Env} {S : Store} : mInsert mo mi m r S = (mo r S).bind fun o S1 => if isLoc o S1 = true then (mi r S1).bind fun i S2 => (m r S2).bind fun d S3 => insD o i d S3 else .bad := rfl
section
variable {X : Cx} {K : PySem.W.Frag} {mg : Str → Option Value} {Wx : WX} {o i e : Expr} {apos pos : Pos} {mo mi m : EM}
theorem j_insert (ho : PE X o (tD X.K X.mg Wx mo)) (hi : PE X i (tD X.K X.mg Wx mi)) (ha : PE X e (tD X.K X.mg Wx m)) (hbase : attributeBase o "insert" X.env (eval o X.env) = eval o X.env := by rfl)
    (hfew : ((backTo pos (starEach [i, e] X.env)).all (fun x => !x.1) && (backToKw pos (keywordEach [] X.env)).all (fun x => x.1.isSome) && decide (([i, e] : List Expr).length + ([] : List Keyword).length + (if ([] : List Keyword).isEmpty then 0 else 1) < 30)) = true := by rfl)
    (hline : (apos.endLine == pos.line) = true := by rfl) (hs : starEach [i, e] X.env = (false, eval i X.env) :: starEach [e] X.env := by rfl) (hs2 : starEach [e] X.env = (false, eval e X.env) :: starEach [] X.env := by rfl) (hplain : (backTo pos (starEach [e] X.env)).any (·.1) = false := by rfl) :
    PE X (.Call (.Attribute o "insert" apos) [i, e] [] pos) (tD X.K X.mg Wx (mInsert mo mi m)) :=
  pe_imp (pe_bm PySem.F.plainAttrs_list PySem.F.slot_list_insert PySem.F.type_list_insert mt_insert ho (pa_cons hi (pa_cons ha pa_nil hs2) hs) hbase hfew hline hs hplain) fun g H Q h => by
    obtain ⟨T, r, S, rs, sim, h⟩ := h
    refine ⟨T, r, S, rs, sim, Out.bind h fun d S1 T1 H1 v st sim1 rel h1 => ?_⟩
    split at h1
    · rename_i hl
      refine ⟨isLoc_ty sim1 rel hl, T1, r, S1, rs.step st, sim1, Out.bind h1 fun y S2 T2 H2 w st2 sim2 rel2 h2 => ?_⟩
      refine ⟨T2, r, S2, (rs.step st).step st2, sim2, Out.bind h2 fun z S3 T3 H3 u st3 sim3 rel3 h3 => ?_⟩
      unfold insD at h3
      split at h3
      · rename_i n k
        split at h3
        · rename_i xs q
          split at h3
          · rename_i hz
            obtain ⟨a, rfl, hn, ys, q1, q2⟩ := loc_of sim3 ((rel.step st2).step st3) q
            have rel2' := rel2.step st3
            cases rel2
            have l1 := q2.length
            have hz2 := sizeLine_eq
            have hlen : (ys.take k.toNat ++ [u] ++ ys.drop k.toNat).length ≤ sizeLine := by
              simp only [List.length_append, List.length_take, List.length_drop, List.length_singleton]
              omega
            obtain ⟨st4, sim4⟩ := lst_set sim3 hn hlen (((q2.take k.toNat).app3 (.cons rel3 .nil)).app3 (q2.drop k.toNat))
            exact ⟨a, ys, k, u, rfl, rfl, q1, by omega, hz.1, by omega, h3 T3 _ _ st4 sim4 .non⟩
          · exact h3.elim
        · exact h3.elim
      · exact h3.elim
    · exact h1.elim
end
end Dv
namespace Dv
open PySem PySem.W PySem.Spec PyProof.Rows L2
section
variable {prog : Program} {w : World} {A : Around} {E : Value → Shared → Prop} {s : Shared}
theorem starF_list {p : Addr} {u1 : Value} {us : List Value} {Q : List Value → Shared → Prop} (il : s.heap.IsList p (us ++ [u1]).toArray) (hd : A.handled = none) (few : us.length + 1 ≤ sizeLine)
    (k : ∀ (h2 : Heap) (tk : Nat), (∀ b o, s.heap.get? b = some o → h2.get? b = some o) → Q [.ref h2.objs.size, u1] { s with heap := h2.push { cls := .type "list", data := .seq us.toArray }, toks := tk }) :
    wpAny (model prog w) A (unpackItems (.ref p) 2 (some 0)) Q E s := by
  have pn : p ≠ s.heap.objs.size := by obtain ⟨o, e, _⟩ := il; exact Nat.ne_of_lt (Heap.lt_size e)
  have pl : p < s.heap.objs.size := by obtain ⟨o, e, _⟩ := il; exact Heap.lt_size e
  have ln : (us ++ [u1]).toArray.size = us.length + 1 := by rw [List.size_toArray, List.length_append]; rfl
  unfold unpackItems notIterableAtAll
  refine wpAny_bind (wpAny_bind (wpAny_specialOf il.typeIs slot_list_iter.lookup (wpAny_pure ?_)))
  simp only [Bool.false_eq_true, if_false]
  refine wpAny_bind (wpAny_holding (wpAny_pyIter_list il ?_))
  refine wpAny_bind (wpAny_holding (kun_draw pn 0 0 _ _ ⟨_, Heap.get?_push_size _ rfl, rfl, rfl⟩ (il.push _) (by omega) fun h1 it1 sb1 => ?_))
  have il1 : h1.IsList p (us ++ [u1]).toArray := (il.push _).extBut sb1.extBut pn
  have it1' : h1.IsListIter s.heap.objs.size p 0 := it1
  have itl : s.heap.objs.size < h1.objs.size := by obtain ⟨o, e, _⟩ := id it1'; exact Heap.lt_size e
  have pl1 : p < h1.objs.size := by obtain ⟨o, e, _⟩ := id il1; exact Heap.lt_size e
  have e1 : ((us ++ [u1]).toArray.toList.drop 0).take 0 = [] := rfl
  rw [e1]
  refine wp_if_neg (by simp) ?_
  try refine wpAny_bind (wpAny_pure ?_)
  refine wpAny_bind (wpAny_holding (kun_collect (s := { s with heap := h1 }) (T := "list_iterator") (.inr (.inr (.inl rfl))) (Walks.list (A := A.in1) hd s.heap.objs.size p pn (us ++ [u1]).toArray) (fun j v st => st.1.typeIs) (k := 0) (by omega) ⟨it1', il1⟩ itl pl1 (fun h2 tk kp => ?_) (by omega)))
  have e2 : (us ++ [u1]).toArray.toList.drop 0 = us ++ [u1] := rfl
  rw [e2]
  refine wp_if_neg (by simp) ?_
  try refine wpAny_bind (wpAny_pure ?_)
  have old : ∀ b o, s.heap.get? b = some o → h2.get? b = some o := fun b o e => kp b o (Nat.ne_of_lt (Heap.lt_size e)) (sb1.extBut b o (Nat.ne_of_lt (Heap.lt_size e)) (Heap.get?_push_of_some _ e))
  have e3 : (us ++ [u1]).length - (2 - 1 - 0) = us.length := by rw [List.length_append, List.length_singleton]; omega
  show wpAny _ _ (newList ((us ++ [u1]).take ((us ++ [u1]).length - (2 - 1 - 0))) >>= fun d => pure ([] ++ [d] ++ (us ++ [u1]).drop ((us ++ [u1]).length - (2 - 1 - 0)))) _ _ _
  rw [e3, List.take_left, List.drop_left]
  refine wpAny_bind (wpAny_newList (wpAny_pure ?_) (by omega))
  exact k _ _ old
end
def gStarF (K : PySem.W.Frag) (i : Nat) (t1 : TG) : TG := fun v g H Q => ∃ a x xs, v = .ref a ∧ SqL K H a (xs ++ [x]) ∧ (xs ++ [x]).length ≤ sizeLine ∧ ∀ D, H D = none → t1 x (g.set i (some (.ref D))) (upd H D (.lst xs)) Q
section
variable {X : Cx} {pos py p2 : Pos} {t1 : Expr} {g1 : TG} {i k : Nat} {y : Str}
theorem vals_snoc : ∀ {xs : List V} {x : V} {us : List Value}, Vals (xs ++ [x]) us → ∃ vs v, us = vs ++ [v] ∧ Vals xs vs ∧ RelV x v
  | [], x, _, .cons r .nil => ⟨[], _, rfl, .nil, r⟩
  | z :: xs, x, _, .cons r h => by
    obtain ⟨vs, v, rfl, a, b⟩ := vals_snoc h
    exact ⟨_ :: vs, v, rfl, .cons r a, b⟩
theorem pg_starF (hc : X.calm = true) (h1 : PG X t1 g1) (hN : X.N.Nodup) (hi : X.N[i]? = some y) (hx : Loc X.env.scope y) (hf : X.fn y = true ∨ X.env.scope.names.lookup y = some .local := by first | exact .inl rfl | exact .inr rfl | assumption)
    (hn : (assignEach [.Starred (.Name y py) p2, t1] X.env).length = 2 := by rfl) (hst : (assignEach [.Starred (.Name y py) p2, t1] X.env).findIdx? (·.1) = some 0 := by rfl)
    (hm : (assignEach [.Starred (.Name y py) p2, t1] X.env).map (·.2) = [assign (.Name y py) X.env, assign t1 X.env] := by rfl) : PG X (.Tuple [.Starred (.Name y py) p2, t1] k pos) (gStarF X.K i g1) := by
  refine ⟨fun pins s g H v u Q I r h => ?_⟩
  obtain ⟨a, x, xs, rfl, hq, few, q⟩ := h
  cases r
  obtain ⟨its, rv, il, hz⟩ := I.list hq
  obtain ⟨us, u1, rfl, rv, r1⟩ := vals_snoc rv
  rw [assign_Tuple]
  refine wpAny_bind (wpAny_standAt ?_)
  unfold unpack
  rw [hn, hst, hm]
  have lv : us.length = xs.length := rv.length.symm
  rw [List.length_append, List.length_singleton] at few
  refine wpAny_bind (wpAny_holding (starF_list il.isList (I.ok.hd hc) (by omega) fun h2 tk old => ?_))
  have I1 : Inv X pins g H { s with heap := h2, toks := tk } := I.kept (t' := tk) old
  have fr : H h2.objs.size = none := I1.hok.fresh (Nat.le_refl _)
  have I2 : Inv X pins g (upd H h2.objs.size (.lst xs)) { s with heap := h2.push { cls := .type "list", data := .seq us.toArray }, toks := tk } :=
    I1.laid (t' := tk) (o := .lst xs) (fun b o e => Heap.get?_push_of_some _ e) (Nat.le_refl _) ⟨by omega, us, 0, rv, Heap.get?_push_size _ rfl⟩
  refine assignInOrder_cons (thn ((pg_name (pos := py) hN hi hx hf).run pins _ g _ (.ref h2.objs.size) (.ref h2.objs.size) (fun g' H' => g1 x g' H' Q) I2 rfl (q _ fr)) fun _ s3 ⟨g3, H3, I3, q3⟩ => ?_)
  refine assignInOrder_cons (thn (h1.run pins s3 g3 H3 x u1 Q I3 r1 q3) fun _ s4 h4 => ?_)
  exact assignInOrder_nil h4
end
def sStarF (m : EM) (i : Nat) (gm : D → Env → Option Env) : SM := fun r S => bindS (m r S) r fun d S1 => match d with
  | .lst xs => match xs[xs.length - 1]? with
    | some x => match gm x (r.set i (some (.lst xs.dropLast))) with
      | some r1 => .ok .next r1 S1
      | none => .bad
    | none => .bad
  | _ => .bad
section
variable {X : Cx} {Wx : WX} {pos py p2 tp : Pos} {t1 e : Expr} {m : EM} {sl : List Nat} {gm : D → Env → Option Env} {i k : Nat} {y : Str}
theorem repL_snoc {K : PySem.W.Frag} {T : Tb} {H : Hp} : ∀ {ds : List D} {d : D} {vs : List V}, RepL K T H vs (ds ++ [d]) → ∃ us u, vs = us ++ [u] ∧ RepL K T H us ds ∧ Rep K T H u d
  | [], d, _, .cons a .nil => ⟨[], _, rfl, .nil, a⟩
  | e :: ds, d, _, .cons a h => by
    obtain ⟨us, u, rfl, b, c⟩ := repL_snoc h
    exact ⟨_ :: us, u, rfl, .cons a b, c⟩
theorem js_starF (he : PE X e (tD X.K X.mg Wx m)) (hc : X.calm = true) (hg : PG X t1 (gD X.K X.mg sl gm)) (hN : X.N.Nodup) (hi : X.N[i]? = some y) (hx : Loc X.env.scope y) (hf : X.fn y = true ∨ X.env.scope.names.lookup y = some .local := by first | exact .inl rfl | exact .inr rfl | assumption)
    (hn : (assignEach [.Starred (.Name y py) p2, t1] X.env).length = 2 := by rfl) (hst : (assignEach [.Starred (.Name y py) p2, t1] X.env).findIdx? (·.1) = some 0 := by rfl)
    (hm : (assignEach [.Starred (.Name y py) p2, t1] X.env).map (·.2) = [assign (.Name y py) X.env, assign t1 X.env] := by rfl)
    (hs : swapsWithSole [.Tuple [.Starred (.Name y py) p2, t1] k tp] e pos.line X.env = pure false := by rfl) (hw : swappedStores [.Tuple [.Starred (.Name y py) p2, t1] k tp] e X.env = pure none := by rfl)
    (h1 : (assignEach [.Tuple [.Starred (.Name y py) p2, t1] k tp] X.env).map (·.2) = [assign (.Tuple [.Starred (.Name y py) p2, t1] k tp) X.env] := by rfl) : PS X (.Assign [.Tuple [.Starred (.Name y py) p2, t1] k tp] e pos) (tDS X.K X.mg Wx (sStarF m i gm)) :=
  ps_imp (ps_asg he (pg_starF hc hg hN hi hx hf hn hst hm) hs hw h1) fun E g H h => by
    obtain ⟨T, r, S, rs, sim, h⟩ := h
    refine ⟨T, r, S, rs, sim, ZOut.bind h rs fun d S1 T1 H1 v st sim1 rel rs1 h1 => ?_⟩
    split at h1
    · rename_i xs
      split at h1
      · rename_i x ex
        split at h1
        · rename_i r1 eg
          cases rel with
          | @lst a vs _ hH n rl =>
            have exs : xs = xs.dropLast ++ [x] := by
              have hne : xs ≠ [] := fun z => by rw [z] at ex; cases ex
              have e1 := List.dropLast_concat_getLast hne
              have e2 : xs.getLast hne = x := by
                rw [List.getLast_eq_getElem]
                exact Option.some.inj ((List.getElem?_eq_getElem _).symm.trans ex)
              rw [e2] at e1
              exact e1.symm
            rw [exs] at rl
            obtain ⟨vr, v0, rfl, rr, rx⟩ := repL_snoc rl
            have lz := sim1.hl _ _ (.inl (.inl hH))
            refine ⟨a, v0, vr, rfl, SqL.of hH, lz, fun D hD => ?_⟩
            have st2 := sim1.stepNew (o := .lst vr) hD
            rw [List.length_append, List.length_singleton] at lz
            have sim2 := sim1.new (o := .lst vr) hD (hlen_lst sim1.hl (by omega))
            exact ⟨T1, r.set i (some (.lst xs.dropLast)), S1, x, r1, (rs1.step st2).set (.lst upd_same (sim1.off hD) (rr.step st2)), sim2, rx.step st2, eg, fun g' rs' _ _ => h1 T1 _ _ st2 sim2 rs'⟩
        · exact h1.elim
      · exact h1.elim
    · exact h1.elim
end
end Dv
namespace Dv
open PySem PySem.Spec PyProof.Rows L2
section
variable {prog : Program} {w : World} {A : Around} {E : Value → Shared → Prop} {s : Shared}
theorem bounds_z {a c n : Nat} (ha : a ≤ n) (hac : a ≤ c) : sliceBounds (some (a : Int)) (some (c : Int)) none n = ((a : Int), ((min c n : Nat) : Int), 1) := by
  have na : ¬ ((a : Int) < 0) := by omega
  have nc : ¬ ((c : Int) < 0) := by omega
  have one : (1 : Int) > 0 := by decide
  unfold sliceBounds
  simp only [Option.getD_none, na, nc, one, if_false, if_true]
  refine Prod.ext ?_ (Prod.ext ?_ rfl)
  · show max 0 (min (a : Int) (n : Int)) = a
    omega
  · show max 0 (min (c : Int) (n : Int)) = ((min c n : Nat) : Int)
    omega
theorem splice_z (us ws : List Value) (a c : Nat) : us.toArray.extract 0 a ++ ws.toArray ++ us.toArray.extract (min c us.length) us.toArray.size = (us.take a ++ ws ++ us.drop c).toArray := by
  have e : us.drop (min c us.length) = us.drop c := by
    by_cases h : c ≤ us.length
    · rw [Nat.min_eq_left h]
    · rw [Nat.min_eq_right (by omega), List.drop_of_length_le (Nat.le_refl _), List.drop_of_length_le (by omega)]
  rw [← e]
  exact splice_eq us ws a (min c us.length)
theorem setItem_z {l b d : Addr} {us ws : List Value} {n n2 : Nat} {vl vu : Value} {a c : Nat} {Q : Unit → Shared → Prop}
    (hl : s.heap.get? l = some { cls := .type "list", data := .seq us.toArray n }) (hb : s.heap.get? b = some { cls := .type "list", data := .seq ws.toArray n2 }) (ne : l ≠ b)
    (hd : s.heap.IsSliceOf d vl vu .none) (p1 : IsPart vl (some (a : Int))) (p2 : IsPart vu (some (c : Int))) (ha : a ≤ us.length) (hac : a ≤ c)
    (hz : us.length + ws.length ≤ sizeLine) (k : Q () { s with heap := s.heap.update l (Obj.mapSeq fun xs => xs.extract 0 a ++ ws.toArray ++ xs.extract (min c us.length) xs.size) }) :
    wpAny (model prog w) A (setItem (.ref l) (.ref d) (.ref b)) Q E s := by
  have il : s.heap.IsList l us.toArray := PySem.IsL.isList hl
  have ib : s.heap.IsList b ws.toArray := PySem.IsL.isList hb
  obtain ⟨od, h1, h2, h3⟩ := id hd
  have td : s.TypeIs (.ref d) "slice" := ⟨od, h1, h2⟩
  have tl := il.typeIs
  have tb := ib.typeIs
  have nstep : ¬ ((rawPart none == rawInt 0) = true) := Bool.false_ne_true
  have nref : Builtin.List.listSameRef (.ref l) (.ref b) = false := beq_eq_false_iff_ne.mpr ne
  have mx : (max (a : Int) ((min c us.length : Nat) : Int)).toNat = min c us.length := by omega
  have sz : us.toArray.size + ws.toArray.size ≤ sizeLine := by rw [List.size_toArray, List.size_toArray]; exact hz
  have sz2 : ((fun xs : Array Value => xs.extract 0 a ++ ws.toArray ++ xs.extract (min c us.length) xs.size) us.toArray).size ≤ sizeLine + 1 := by
    rw [Array.size_append, Array.size_append, Array.size_extract, Array.size_extract]
    omega
  have bd := bounds_z (n := us.toArray.size) (by rw [List.size_toArray]; exact ha) hac
  unfold setItem
  try with_reducible refine wpAny_holding ?_
  try refine wpAny_bind (wpAny_pure ?_)
  refine wpAny_bind (wpAny_sequenceKey tl (by decide) ?_)
  refine wpAny_bind (wpAny_callSpecial?_slot (name := Str.ofString "__setitem__") tl slot_list_setitem (wpAny_call_entry slot_list_setitem tl entry_list_setitem ?_ (args_list_setitem _ _ _)))
  show wpAny _ _ (Builtin.List.listSubscript? (.ref d) >>= _) _ _ s
  refine wpAny_bind ?_
  unfold Builtin.List.listSubscript?
  refine wpAny_bind (wpAny_specialOf td slice_no_index ?_)
  simp only [Option.isNone_none, if_true]
  refine wpAny_pure ?_
  show wpAny _ _ (typeOf (.ref d) >>= _) _ _ s
  refine wpAny_bind (wpAny_typeOf td ?_)
  first
    | rw [if_neg (show ¬ _ by decide)]
    | refine PySem.W.KFB.if_not (show _ by decide) ?_
  rw [listSliceParts_eq]
  refine wpAny_bind (wpAny_bind (wpAny_field h1 h3 (x := .none) rfl (wpAny_bind (wpAny_listPart .none ?_))))
  rw [if_neg nstep]
  refine wpAny_bind (wpAny_field h1 h3 (x := vl) rfl (wpAny_bind (wpAny_listPart p1 ?_)))
  refine wpAny_bind (wpAny_field h1 h3 (x := vu) rfl (wpAny_bind (wpAny_listPart p2 (wpAny_pure ?_))))
  first
    | simp only [nref, Bool.false_eq_true, if_false]
    | refine PySem.W.KFB.if_not nref ?_
  refine wpAny_bind (m := Builtin.List.listAllItems (.ref b) "must assign iterable to extended slice") ?_
  unfold Builtin.List.listAllItems
  refine wpAny_bind (wpAny_typeOf tb ?_)
  first
    | refine PySem.W.KFB.if_so (show _ by decide) ?_
    | rw [if_pos (show _ by decide)]
    | simp only [beq_self_eq_true, Bool.true_or, if_true]
  unfold Builtin.List.listItems
  refine wpAny_bind (wpAny_seqItems hb rfl (wpAny_pure ?_))
  refine wpAny_bind (wpAny_bind (wpAny_seqItems hl rfl (wpAny_pure ?_)))
  refine wpAny_bind (wpAny_of_eq ((sliceIndices_raw (some (a : Int)) (some (c : Int)) none us.toArray.size (by simp)).trans (congrArg (pure : Int × Int × Int → Sem (Int × Int × Int)) bd)) ?_)
  show wpAny _ _ (if ((1 : Int) == 1) = true then _ else _) _ _ s
  rw [if_pos (show ((1 : Int) == 1) = true by decide)]
  refine wpAny_bind (wpAny_rule ?_)
  first
    | simp only [notLongL sz, Bool.false_eq_true, if_false]
    | refine PySem.W.KFB.if_not (notLongL sz) ?_
  try refine wpAny_bind (wpAny_pure ?_)
  show wpAny _ _ (updateSeq l (fun xs => xs.extract 0 ((a : Int)).toNat ++ ws.toArray ++ xs.extract (max (a : Int) ((min c us.length : Nat) : Int)).toNat xs.size) >>= _) _ _ s
  rw [mx, Int.toNat_natCast]
  refine wpAny_bind (wpAny_updateSeq (hz := Nat.le_trans (Nat.le_add_right _ _) sz) (_hz' := sz2) hl rfl ?_)
  refine wpAny_bind (wpAny_letGo ?_)
  first
    | exact wpAny_bind (wpAny_pure (wpAny_pure ⟨.none, rfl, wpAny_pure k⟩))
    | exact wpAny_pure ⟨.none, rfl, wpAny_pure k⟩
end
def gSlz (to : TE) (tl th : TO) : TG := fun v g H Q => to g H fun x H1 => tl g H1 fun l H2 => th g H2 fun u H3 => ∃ (p b : Addr) (xs ys : List V) (a c : Nat), x = .ref p ∧ v = .ref b ∧ H3 p = some (.lst xs) ∧ H3 b = some (.lst ys) ∧ p ≠ b ∧ l = some (a : Int) ∧ u = some (c : Int) ∧ a ≤ xs.length ∧ a ≤ c ∧ xs.length + ys.length ≤ sizeLine ∧ Q g (upd H3 p (.lst (xs.take a ++ ys ++ xs.drop c)))
section
variable {X : Cx} {o : Expr} {lo hi : Option Expr} {p2 pos : Pos}
theorem pg_slz {to : TE} {tl th : TO} (ho : PE X o to) (hl : PO X lo tl) (hu : PO X hi th)
    (ha : ∀ v, assign (.Subscript o (.Slice lo hi none p2) pos) X.env v = (do
      let ov ← holding [v] (eval o X.env)
      let iv ← holding [v, ov] (eval (.Slice lo hi none p2) X.env)
      standAt pos
      holding [v, ov, iv] (setItem ov iv v)
      release [iv, v, ov] []) := by intro _; rfl) : PG X (.Subscript o (.Slice lo hi none p2) pos) (gSlz to tl th) := by
  refine ⟨fun pins s g H v u Q I r h => ?_⟩
  rw [ha]
  refine wpAny_bind (wpAny_holding (thn (ho.run pins s g H _ I h) fun ov s1 ⟨x, H1, I1, r1, q1⟩ => ?_))
  refine wpAny_bind (wpAny_holding (wpAny_Slice (thn (hl.run pins s1 g H1 _ I1 q1) fun vl s2 ⟨l, H2, I2, pl, q2⟩ => thn (hu.run pins s2 g H2 _ I2 q2) fun vu s3 ⟨u', H3, I3, pu, q3⟩ => ?_)))
  rw [evalPart_none]
  refine wpAny_pure ?_
  have I4 : Inv X pins g H3 { s3 with heap := s3.heap.push { cls := .type "slice", data := .fields #[vl, vu, .none] } } := I3.kept (t' := s3.toks) fun b ob q => Heap.get?_push_of_some _ q
  obtain ⟨p, b, xs, ys, a, c, rfl, rfl, hp, hb, hne, rfl, rfl, h0, hac, hz, q⟩ := q3
  cases r1
  cases r
  obtain ⟨z, us, n, rx, lx, ex⟩ := I4.lstM hp
  obtain ⟨z2, ws, n2, ry, ly, ey⟩ := I4.lstM hb
  refine wpAny_bind (wpAny_standAt (wpAny_bind (wpAny_holding ?_)))
  refine setItem_z ex ey hne (Heap.IsSliceOf.new ..) pl pu (by omega) hac (by omega) ?_
  have I5 := I4.lset (its' := us.take a ++ ws ++ us.drop c) (t' := s3.toks) (ys := xs.take a ++ ys ++ xs.drop c) (f := fun zs => zs.extract 0 a ++ ws.toArray ++ zs.extract (min c us.length) zs.size) hp ex (splice_z us ws a c) (Vals.append (Vals.append (rx.take _) ry) (rx.drop _)) (by
    rw [List.length_append, List.length_append, List.length_take, List.length_drop]
    omega)
  exact wpAny_release ⟨g, _, I5, q⟩
end
def sSetSlz (mo : EM) (ml mh : OM) (m : EM) : SM := fun r S => bindS (m r S) r fun d S1 => bindS (mo r S1) r fun o S2 => bindS (ml r S2) r fun lo S3 => bindS (mh r S3) r fun hi S4 => match o, lo, hi, d with
  | .loc n, some a, some c, .lst ys => match S4[n]? with
    | some (.lst xs) => if 0 ≤ a ∧ a ≤ c ∧ a ≤ xs.length ∧ xs.length + ys.length ≤ 100000 then .ok .next r (S4.set n (.lst (xs.take a.toNat ++ ys ++ xs.drop c.toNat))) else .bad
    | _ => .bad
  | _, _, _, _ => .bad
section
variable {X : Cx} {Wx : WX} {o hv : Expr} {lo hi : Option Expr} {p2 tpos pos : Pos} {mo mv : EM} {ml mh : OM}
theorem js_setSlz (he : PE X hv (tD X.K X.mg Wx mv)) (ho : PE X o (tD X.K X.mg Wx mo)) (hl : PO X lo (tDO X.K X.mg Wx ml)) (hu : PO X hi (tDO X.K X.mg Wx mh))
    (ha : ∀ v, assign (.Subscript o (.Slice lo hi none p2) tpos) X.env v = (do
      let ov ← holding [v] (eval o X.env)
      let iv ← holding [v, ov] (eval (.Slice lo hi none p2) X.env)
      standAt tpos
      holding [v, ov, iv] (setItem ov iv v)
      release [iv, v, ov] []) := by intro _; rfl)
    (hs : swapsWithSole [.Subscript o (.Slice lo hi none p2) tpos] hv pos.line X.env = pure false := by rfl) (hw : swappedStores [.Subscript o (.Slice lo hi none p2) tpos] hv X.env = pure none := by rfl)
    (h1 : (assignEach [.Subscript o (.Slice lo hi none p2) tpos] X.env).map (·.2) = [assign (.Subscript o (.Slice lo hi none p2) tpos) X.env] := by rfl) : PS X (.Assign [.Subscript o (.Slice lo hi none p2) tpos] hv pos) (tDS X.K X.mg Wx (sSetSlz mo ml mh mv)) :=
  ps_imp (ps_asg he (pg_slz ho hl hu ha) hs hw h1) fun E g H h => by
    obtain ⟨T, r, S, rs, sim, h⟩ := h
    refine ⟨T, r, S, rs, sim, ZOut.bind h rs fun d S1 T1 H1 v st sim1 rel rs1 h1 => ?_⟩
    refine ⟨T1, r, S1, rs1, sim1, ZOut.bind h1 rs1 fun ov S2 T2 H2 x st2 sim2 rel2 rs2 h2 => ?_⟩
    refine ⟨T2, r, S2, rs2, sim2, ZOut.bind h2 rs2 fun l S3 T3 H3 lv st3 sim3 rel3 rs3 h3 => ?_⟩
    subst rel3
    refine ⟨T3, r, S3, rs3, sim3, ZOut.bind h3 rs3 fun u S4 T4 H4 uv st4 sim4 rel4 rs4 h4 => ?_⟩
    subst rel4
    have relo := rel2.step (st3.trans st4)
    have relv := rel.step (st2.trans (st3.trans st4))
    split at h4
    · rename_i n a c ys
      split at h4
      · rename_i xs q
        split at h4
        · rename_i cc
          obtain ⟨p, rfl, hn, vs, q1, q2⟩ := loc_of sim4 relo q
          cases relv with
          | @lst b ws _ hH off rl =>
            have hz := sizeLine_eq
            have l1 := q2.length
            have l2 := rl.length
            have hlen : (vs.take a.toNat ++ ws ++ vs.drop c.toNat).length ≤ sizeLine := by
              simp only [List.length_append, List.length_take, List.length_drop]
              omega
            obtain ⟨st5, sim5⟩ := lst_set sim4 hn hlen (((q2.take a.toNat).app3 rl).app3 (q2.drop c.toNat))
            refine ⟨p, b, vs, ws, a.toNat, c.toNat, rfl, rfl, q1, hH, ?_, by rw [Int.toNat_of_nonneg cc.1], by rw [Int.toNat_of_nonneg (by omega)], by omega, by omega, by rw [l1, l2]; omega, h4 T4 _ g st5 sim5 (rs4.step st5)⟩
            intro e
            subst e
            exact off.1 (List.mem_of_getElem? hn)
        · exact h4.elim
      · exact h4.elim
    · exact h4.elim
end
end Dv
namespace Law
open PySem L2 Dv
def top (i : Nat) : Stmt := PySem.Challenge.pw_meetloft_k24_texts_of_books.main.body.getD i (.Pass ⟨0, 0, 0, 0⟩)
abbrev s__law_draw : Stmt := top 23
abbrev N__law_draw : List Str := ["script", "town", "many", "k", "cell", "digits", "number", "more"]
abbrev P__law_draw : List Str := ["script", "town", "many"]
theorem sc__law_draw : FnScope N__law_draw P__law_draw (defScope s__law_draw) := ⟨rfl, rfl, rfl, by decide +kernel, rfl, by decide +kernel, by decide +kernel⟩
abbrev s__law_pick : Stmt := top 24
abbrev N__law_pick : List Str := ["script", "town", "some"]
abbrev P__law_pick : List Str := ["script", "town", "some"]
theorem sc__law_pick : FnScope N__law_pick P__law_pick (defScope s__law_pick) := ⟨rfl, rfl, rfl, by decide +kernel, rfl, by decide +kernel, by decide +kernel⟩
abbrev s__law_drawn_rows : Stmt := top 25
abbrev N__law_drawn_rows : List Str := ["script", "town", "width", "most", "far", "found", "k", "row", "j"]
abbrev P__law_drawn_rows : List Str := ["script", "town", "width", "most", "far"]
theorem sc__law_drawn_rows : FnScope N__law_drawn_rows P__law_drawn_rows (defScope s__law_drawn_rows) := ⟨rfl, rfl, rfl, by decide +kernel, rfl, by decide +kernel, by decide +kernel⟩
abbrev s__law_drawn_book : Stmt := top 26
abbrev N__law_drawn_book : List Str := ["script", "town", "most", "far", "found", "word", "width"]
abbrev P__law_drawn_book : List Str := ["script", "town", "most", "far"]
theorem sc__law_drawn_book : FnScope N__law_drawn_book P__law_drawn_book (defScope s__law_drawn_book) := ⟨rfl, rfl, rfl, by decide +kernel, rfl, by decide +kernel, by decide +kernel⟩
abbrev s__law_same : Stmt := top 22
abbrev N__law_same : List Str := ["got", "due", "one", "other"]
abbrev P__law_same : List Str := ["got", "due"]
theorem sc__law_same : FnScope N__law_same P__law_same (defScope s__law_same) := ⟨rfl, rfl, rfl, by decide +kernel, rfl, by decide +kernel, by decide +kernel⟩
abbrev s__law_spoilt : Stmt := top 27
abbrev N__law_spoilt : List Str := ["script", "town", "text", "signs", "sign", "at", "turn", "words", "spot"]
abbrev P__law_spoilt : List Str := ["script", "town", "text", "signs"]
theorem sc__law_spoilt : FnScope N__law_spoilt P__law_spoilt (defScope s__law_spoilt) := ⟨rfl, rfl, rfl, by decide +kernel, rfl, by decide +kernel, by decide +kernel⟩
abbrev s__law_row_spoilt : Stmt := top 28
abbrev N__law_row_spoilt : List Str := ["script", "town", "text", "signs", "rows", "at", "turn"]
abbrev P__law_row_spoilt : List Str := ["script", "town", "text", "signs"]
theorem sc__law_row_spoilt : FnScope N__law_row_spoilt P__law_row_spoilt (defScope s__law_row_spoilt) := ⟨rfl, rfl, rfl, by decide +kernel, rfl, by decide +kernel, by decide +kernel⟩
abbrev s_joined : Stmt := top 13
abbrev N_joined : List Str := ["lines", "line"]
abbrev P_joined : List Str := ["lines"]
theorem sc_joined : FnScope N_joined P_joined (defScope s_joined) := ⟨rfl, rfl, rfl, by decide +kernel, rfl, by decide +kernel, by decide +kernel⟩
abbrev s_row_text : Stmt := top 15
abbrev N_row_text : List Str := ["row", "value"]
abbrev P_row_text : List Str := ["row"]
theorem sc_row_text : FnScope N_row_text P_row_text (defScope s_row_text) := ⟨rfl, rfl, rfl, by decide +kernel, rfl, by decide +kernel, by decide +kernel⟩
abbrev s_book_lines : Stmt := top 16
abbrev N_book_lines : List Str := ["book", "found", "word", "width", "rows", "row"]
abbrev P_book_lines : List Str := ["book"]
theorem sc_book_lines : FnScope N_book_lines P_book_lines (defScope s_book_lines) := ⟨rfl, rfl, rfl, by decide +kernel, rfl, by decide +kernel, by decide +kernel⟩
abbrev s_book_text : Stmt := top 17
abbrev N_book_text : List Str := ["book"]
abbrev P_book_text : List Str := ["book"]
theorem sc_book_text : FnScope N_book_text P_book_text (defScope s_book_text) := ⟨rfl, rfl, rfl, by decide +kernel, rfl, by decide +kernel, by decide +kernel⟩
abbrev s_is_name : Stmt := top 3
abbrev N_is_name : List Str := ["thing", "sign"]
abbrev P_is_name : List Str := ["thing"]
theorem sc_is_name : FnScope N_is_name P_is_name (defScope s_is_name) := ⟨rfl, rfl, rfl, by decide +kernel, rfl, by decide +kernel, by decide +kernel⟩
abbrev s_are_rising : Stmt := top 6
abbrev N_are_rising : List Str := ["row", "one", "other"]
abbrev P_are_rising : List Str := ["row"]
theorem sc_are_rising : FnScope N_are_rising P_are_rising (defScope s_are_rising) := ⟨rfl, rfl, rfl, by decide +kernel, rfl, by decide +kernel, by decide +kernel⟩
abbrev s_is_whole : Stmt := top 2
abbrev N_is_whole : List Str := ["thing"]
abbrev P_is_whole : List Str := ["thing"]
theorem sc_is_whole : FnScope N_is_whole P_is_whole (defScope s_is_whole) := ⟨rfl, rfl, rfl, by decide +kernel, rfl, by decide +kernel, by decide +kernel⟩
abbrev s_is_value : Stmt := top 4
abbrev N_is_value : List Str := ["thing"]
abbrev P_is_value : List Str := ["thing"]
theorem sc_is_value : FnScope N_is_value P_is_value (defScope s_is_value) := ⟨rfl, rfl, rfl, by decide +kernel, rfl, by decide +kernel, by decide +kernel⟩
abbrev s_is_row : Stmt := top 5
abbrev N_is_row : List Str := ["thing", "width", "one"]
abbrev P_is_row : List Str := ["thing", "width"]
theorem sc_is_row : FnScope N_is_row P_is_row (defScope s_is_row) := ⟨rfl, rfl, rfl, by decide +kernel, rfl, by decide +kernel, by decide +kernel⟩
abbrev s_is_book : Stmt := top 7
abbrev N_is_book : List Str := ["thing", "word", "width", "rows", "one", "row"]
abbrev P_is_book : List Str := ["thing"]
theorem sc_is_book : FnScope N_is_book P_is_book (defScope s_is_book) := ⟨rfl, rfl, rfl, by decide +kernel, rfl, by decide +kernel, by decide +kernel⟩
abbrev s_value_in : Stmt := top 12
abbrev N_value_in : List Str := ["word", "figures", "sign"]
abbrev P_value_in : List Str := ["word"]
theorem sc_value_in : FnScope N_value_in P_value_in (defScope s_value_in) := ⟨rfl, rfl, rfl, by decide +kernel, rfl, by decide +kernel, by decide +kernel⟩
abbrev s_row_in : Stmt := top 18
abbrev N_row_in : List Str := ["words", "word"]
abbrev P_row_in : List Str := ["words"]
theorem sc_row_in : FnScope N_row_in P_row_in (defScope s_row_in) := ⟨rfl, rfl, rfl, by decide +kernel, rfl, by decide +kernel, by decide +kernel⟩
abbrev s_book_in : Stmt := top 19
abbrev N_book_in : List Str := ["lines", "found", "line", "words", "word", "width", "rows"]
abbrev P_book_in : List Str := ["lines"]
theorem sc_book_in : FnScope N_book_in P_book_in (defScope s_book_in) := ⟨rfl, rfl, rfl, by decide +kernel, rfl, by decide +kernel, by decide +kernel⟩
abbrev s_lines_of : Stmt := top 14
abbrev N_lines_of : List Str := ["text", "last", "lines"]
abbrev P_lines_of : List Str := ["text"]
theorem sc_lines_of : FnScope N_lines_of P_lines_of (defScope s_lines_of) := ⟨rfl, rfl, rfl, by decide +kernel, rfl, by decide +kernel, by decide +kernel⟩
abbrev s_read_book : Stmt := top 20
abbrev N_read_book : List Str := ["text"]
abbrev P_read_book : List Str := ["text"]
theorem sc_read_book : FnScope N_read_book P_read_book (defScope s_read_book) := ⟨rfl, rfl, rfl, by decide +kernel, rfl, by decide +kernel, by decide +kernel⟩
abbrev s__law_told : Stmt := top 32
abbrev N__law_told : List Str := ["text", "got"]
abbrev P__law_told : List Str := ["text"]
theorem sc__law_told : FnScope N__law_told P__law_told (defScope s__law_told) := ⟨rfl, rfl, rfl, by decide +kernel, rfl, by decide +kernel, by decide +kernel⟩
abbrev s__law_or_refused : Stmt := top 30
abbrev N__law_or_refused : List Str := ["found"]
abbrev P__law_or_refused : List Str := ["found"]
theorem sc__law_or_refused : FnScope N__law_or_refused P__law_or_refused (defScope s__law_or_refused) := ⟨rfl, rfl, rfl, by decide +kernel, rfl, by decide +kernel, by decide +kernel⟩
abbrev s__law_number : Stmt := top 29
abbrev N__law_number : List Str := ["word", "figures", "sign"]
abbrev P__law_number : List Str := ["word"]
theorem sc__law_number : FnScope N__law_number P__law_number (defScope s__law_number) := ⟨rfl, rfl, rfl, by decide +kernel, rfl, by decide +kernel, by decide +kernel⟩
abbrev s__law_read : Stmt := top 31
abbrev N__law_read : List Str := ["text", "line", "lines", "found", "words", "row", "sign", "word"]
abbrev P__law_read : List Str := ["text"]
theorem sc__law_read : FnScope N__law_read P__law_read (defScope s__law_read) := ⟨rfl, rfl, rfl, by decide +kernel, rfl, by decide +kernel, by decide +kernel⟩
abbrev s_law : Stmt := top 33
abbrev N_law : List Str := ["script", "town", "signs", "k", "book", "text", "others", "other", "word", "width", "rows", "row", "j", "value"]
abbrev P_law : List Str := ["script"]
theorem sc_law : FnScope N_law P_law (defScope s_law) := ⟨rfl, rfl, rfl, by decide +kernel, rfl, by decide +kernel, by decide +kernel⟩
def m__law_draw (fu : Nat) : SM :=
    (sSeq (sIf (mNotT (mTru (mVar 1))) (sDrop (mAppend (mVar 1) (mCall maxD (mCons (mBin addD (mLc (mIter (mVar 0)) [4] (tgN 4) mYes (mCall absD (mCons (mVar 4) mNil))) (mLst (mCons (mC (.int 0)) mNil))) mNil)))) sNil)
    (sSeq (sDrop (mAppend (mVar 1) (mC (.int 0))))
    (sSeq (sSet 3 (mCall lenD (mCons (mVar 1) mNil)))
    (sSeq (sSet 4 (mIf (mTru (mVar 0)) (mBin ixD (mVar 0) (mBin modD (mVar 3) (mCall lenD (mCons (mVar 0) mNil)))) (mC (.int 0))))
    (sSeq (sSet 5 (mBin modD (mBin ixD (mVar 1) (mC (.int 0))) (mC (.int 65536))))
    (sSeq (sSetIx (mVar 1) (mC (.int 0)) (mBin fdivD (mBin ixD (mVar 1) (mC (.int 0))) (mC (.int 65536))))
    (sSeq (sSet 6 (mBin modD (mBin addD (mBin addD (mVar 4) (mBin mulD (mC (.int 40503)) (mVar 5))) (mBin mulD (mC (.int 104729)) (mVar 3))) (mC (.int 4294967291))))
    (sSeq (sSet 6 (mBin modD (mBin mulD (mBin modD (mBin mulD (mVar 6) (mVar 6)) (mC (.int 4294967279))) (mC (.int 48271))) (mC (.int 4294967291))))
    (sSeq (sSet 7 (mBin modD (mBin mulD (mBin modD (mBin mulD (mVar 6) (mVar 6)) (mC (.int 4294967279))) (mC (.int 69621))) (mC (.int 4294967291))))
    (sRet (mBin modD (mBin addD (mBin mulD (mBin fdivD (mVar 6) (mC (.int 64))) (mC (.int 67108864))) (mBin fdivD (mVar 7) (mC (.int 64)))) (mVar 2))))))))))))
def F__law_draw (fu : Nat) : List D → Store → R D := runT 8 (m__law_draw fu)
def m__law_pick (fu : Nat) : SM :=
    (sRet (mBin ixD (mVar 2) (mApp 3 (F__law_draw fu) (mCons (mVar 0) (mCons (mVar 1) (mCons (mCall lenD (mCons (mVar 2) mNil)) mNil))))))
def F__law_pick (fu : Nat) : List D → Store → R D := runT 3 (m__law_pick fu)
def m__law_drawn_rows (fu : Nat) : SM :=
    (sSeq (sSet 5 (mLst mNil))
    (sSeq (sFor (mRng1 (mCons (mApp 3 (F__law_draw fu) (mCons (mVar 0) (mCons (mVar 1) (mCons (mBin addD (mVar 3) (mC (.int 1))) mNil)))) mNil)) (tgN 6) (sSeq (sSet 7 (mCall tupD (mCons (mLc (mRng1 (mCons (mVar 2) mNil)) [8] (tgN 8) mYes (mApp 3 (F__law_draw fu) (mCons (mVar 0) (mCons (mVar 1) (mCons (mVar 4) mNil))))) mNil)))
    (sSet 5 (mBin addD (mVar 5) (mBin mulD (mLst (mCons (mVar 7) mNil)) (mCall intD (mCons (mBin ninD (mVar 7) (mVar 5)) mNil)))))))
    (sRet (mCall tupD (mCons (mCall sortD (mCons (mVar 5) mNil)) mNil)))))
def F__law_drawn_rows (fu : Nat) : List D → Store → R D := runT 9 (m__law_drawn_rows fu)
def m__law_drawn_book (fu : Nat) : SM :=
    (sSeq (sSet 4 (mNewL mNil))
    (sSeq (sFor (mIter (mTup (mCons (mC (.str "p")) (mCons (mC (.str "q")) (mCons (mC (.str "r")) (mCons (mC (.str "s")) mNil)))))) (tgN 5) (sSeq (sSet 6 (mApp 3 (F__law_pick fu) (mCons (mVar 0) (mCons (mVar 1) (mCons (mLst (mCons (mC (.int 1)) (mCons (mC (.int 2)) (mCons (mC (.int 2)) (mCons (mC (.int 2)) (mCons (mC (.int 3)) mNil)))))) mNil)))))
    (sDrop (mAppend (mVar 4) (mTup (mCons (mVar 5) (mCons (mVar 6) (mCons (mApp 5 (F__law_drawn_rows fu) (mCons (mVar 0) (mCons (mVar 1) (mCons (mVar 6) (mCons (mVar 2) (mCons (mVar 3) mNil)))))) mNil))))))))
    (sRet (mCall tupD (mCons (mSl (mVar 4) (mP (mApp 3 (F__law_draw fu) (mCons (mVar 0) (mCons (mVar 1) (mCons (mC (.int 2)) mNil))))) mNoP) mNil)))))
def F__law_drawn_book (fu : Nat) : List D → Store → R D := runT 7 (m__law_drawn_book fu)
def m__law_same (fu : Nat) (self : List D → Store → R D) : SM :=
    (sSeq (sIf (mT (mBin isND (mVar 1) (mC .non))) (sRet (mBin isND (mVar 0) (mC .non))) sNil)
    (sSeq (sIf (mTru (mCall isiD (mCons (mVar 1) (mCons (mC (.ty "bool")) mNil)))) (sRet (mAnd (mCall isiD (mCons (mVar 0) (mCons (mC (.ty "bool")) mNil))) (mBin eqD (mVar 0) (mVar 1)))) sNil)
    (sSeq (sIf (mTru (mCall isiD (mCons (mVar 1) (mCons (mC (.ty "tuple")) mNil)))) (sSeq (sIf (mOrT (mNotT (mTru (mCall isiD (mCons (mVar 0) (mCons (mC (.ty "tuple")) mNil))))) (mT (mBin neD (mCall lenD (mCons (mVar 0) mNil)) (mCall lenD (mCons (mVar 1) mNil))))) (sRet (mC (.bl false))) sNil)
    (sRet (mCall allD (mCons (mLc (mZip (mCons (mVar 0) (mCons (mVar 1) mNil))) [2, 3] (tgT 2 (tgsCons (tgN 2) (tgsCons (tgN 3) tgsNil))) mYes (mApp 2 self (mCons (mVar 2) (mCons (mVar 3) mNil)))) mNil)))) sNil)
    (sSeq (sIf (mTru (mCall isiD (mCons (mVar 1) (mCons (mC (.ty "str")) mNil)))) (sRet (mAnd (mCall isiD (mCons (mVar 0) (mCons (mC (.ty "str")) mNil))) (mBin eqD (mVar 0) (mVar 1)))) sNil)
    (sRet (mAnd (mCall isiD (mCons (mVar 0) (mCons (mC (.ty "int")) mNil))) (mAnd (mNot (mCall isiD (mCons (mVar 0) (mCons (mC (.ty "bool")) mNil)))) (mBin eqD (mVar 0) (mVar 1)))))))))
def F__law_same (fu : Nat) : Nat → List D → Store → R D
  | 0 => fun _ _ => .bad
  | n + 1 => runT 4 (m__law_same fu (F__law_same fu n))
def m__law_spoilt (fu : Nat) : SM :=
    (sSeq (sPar 5 6 (mCons (mApp 3 (F__law_draw fu) (mCons (mVar 0) (mCons (mVar 1) (mCons (mBin addD (mCall lenD (mCons (mVar 2) mNil)) (mC (.int 1))) mNil)))) (mCons (mApp 3 (F__law_draw fu) (mCons (mVar 0) (mCons (mVar 1) (mCons (mC (.int 6)) mNil)))) mNil)))
    (sSeq (sSet 4 (mApp 3 (F__law_pick fu) (mCons (mVar 0) (mCons (mVar 1) (mCons (mVar 3) mNil)))))
    (sSeq (sIf (mT (mBin eqD (mVar 6) (mC (.int 0)))) (sRet (mBin addD (mSlW (mVar 2) mNoP (mP (mVar 5))) (mSlW (mVar 2) (mP (mBin addD (mVar 5) (mC (.int 1)))) mNoP))) sNil)
    (sSeq (sIf (mT (mBin eqD (mVar 6) (mC (.int 1)))) (sRet (mBin addD (mBin addD (mSlW (mVar 2) mNoP (mP (mVar 5))) (mVar 4)) (mSlW (mVar 2) (mP (mVar 5)) mNoP))) sNil)
    (sSeq (sIf (mT (mBin eqD (mVar 6) (mC (.int 2)))) (sSeq (sSet 7 (mTmN splN (mVar 2) (mC (.str " "))))
    (sSeq (sSet 8 (mApp 3 (F__law_draw fu) (mCons (mVar 0) (mCons (mVar 1) (mCons (mCall lenD (mCons (mVar 7) mNil)) mNil)))))
    (sSeq (sSetSl (mVar 7) (mP (mVar 8)) (mP (mBin addD (mVar 8) (mC (.int 1)))) (mApp 3 (F__law_pick fu) (mCons (mVar 0) (mCons (mVar 1) (mCons (mLst (mCons (mLst mNil) (mCons (mBin mulD (mSlW (mVar 7) (mP (mVar 8)) (mP (mBin addD (mVar 8) (mC (.int 1))))) (mC (.int 2))) (mCons (mLst (mCons (mVar 4) mNil)) (mCons (mLst (mCons (mVar 4) (mCons (mBin ixD (mVar 7) (mVar 8)) mNil))) mNil))))) mNil)))))
    (sRet (mTm joiD (mC (.str " ")) (mVar 7)))))) sNil)
    (sSeq (sIf (mT (mBin eqD (mVar 6) (mC (.int 3)))) (sSeq (sSet 7 (mTmN splN (mVar 2) (mC (.str " "))))
    (sSeq (sSet 8 (mApp 3 (F__law_draw fu) (mCons (mVar 0) (mCons (mVar 1) (mCons (mCall lenD (mCons (mVar 7) mNil)) mNil)))))
    (sRet (mTm joiD (mC (.str " ")) (mBin addD (mSlW (mVar 7) mNoP (mP (mVar 8))) (mUn revLD (mSlW (mVar 7) (mP (mVar 8)) mNoP))))))) sNil)
    (sRet (mBin addD (mBin addD (mSlW (mVar 2) mNoP (mP (mVar 5))) (mVar 4)) (mSlW (mVar 2) (mP (mBin addD (mVar 5) (mC (.int 1)))) mNoP)))))))))
def F__law_spoilt (fu : Nat) : List D → Store → R D := runT 9 (m__law_spoilt fu)
def m__law_row_spoilt (fu : Nat) : SM :=
    (sSeq (sSet 4 (mTmN splN (mVar 2) (mC (.str "\n"))))
    (sSeq (sPar 5 6 (mCons (mApp 3 (F__law_draw fu) (mCons (mVar 0) (mCons (mVar 1) (mCons (mCall lenD (mCons (mVar 4) mNil)) mNil)))) (mCons (mApp 3 (F__law_draw fu) (mCons (mVar 0) (mCons (mVar 1) (mCons (mC (.int 6)) mNil)))) mNil)))
    (sSeq (sIf (mT (mBin eqD (mVar 6) (mC (.int 0)))) (sSetSlz (mVar 4) (mP (mVar 5)) (mP (mBin addD (mVar 5) (mC (.int 1)))) (mLst mNil)) (sIf (mT (mBin eqD (mVar 6) (mC (.int 1)))) (sDrop (mInsert (mVar 4) (mVar 5) (mBin ixD (mVar 4) (mVar 5)))) (sIf (mT (mBin eqD (mVar 6) (mC (.int 2)))) (sSetSlz (mVar 4) (mP (mVar 5)) (mP (mBin addD (mVar 5) (mC (.int 2)))) (mUn revLD (mSlW (mVar 4) (mP (mVar 5)) (mP (mBin addD (mVar 5) (mC (.int 2))))))) (sSetIx (mVar 4) (mVar 5) (mApp 4 (F__law_spoilt fu) (mCons (mVar 0) (mCons (mVar 1) (mCons (mBin ixD (mVar 4) (mVar 5)) (mCons (mVar 3) mNil)))))))))
    (sRet (mTm joiD (mC (.str "\n")) (mVar 4))))))
def F__law_row_spoilt (fu : Nat) : List D → Store → R D := runT 7 (m__law_row_spoilt fu)
def m_joined (fu : Nat) : SM :=
    (sRet (mTm joiD (mC (.str "")) (mLc (mIter (mVar 0)) [1] (tgN 1) mYes (mBin addD (mVar 1) (mC (.str "\n"))))))
def F_joined (fu : Nat) : List D → Store → R D := runT 2 (m_joined fu)
def m_row_text (fu : Nat) : SM :=
    (sRet (mTm joiD (mC (.str " ")) (mLc (mIter (mVar 0)) [1] (tgN 1) mYes (mCall strSD (mCons (mVar 1) mNil)))))
def F_row_text (fu : Nat) : List D → Store → R D := runT 2 (m_row_text fu)
def m_book_lines (fu : Nat) : SM :=
    (sSeq (sSet 1 (mLst mNil))
    (sSeq (sFor (mIter (mVar 0)) (tgT 3 (tgsCons (tgN 2) (tgsCons (tgN 3) (tgsCons (tgN 4) tgsNil)))) (sSet 1 (mBin addD (mBin addD (mVar 1) (mLst (mCons (mJs [(mFmt (mVar 2)), (mC (.str " ")), (mFmt (mVar 3))]) mNil))) (mLc (mIter (mVar 4)) [5] (tgN 5) mYes (mApp 1 (F_row_text fu) (mCons (mVar 5) mNil))))))
    (sRet (mVar 1))))
def F_book_lines (fu : Nat) : List D → Store → R D := runT 6 (m_book_lines fu)
def m_book_text (fu : Nat) : SM :=
    (sRet (mApp 1 (F_joined fu) (mCons (mApp 1 (F_book_lines fu) (mCons (mVar 0) mNil)) mNil)))
def F_book_text (fu : Nat) : List D → Store → R D := runT 1 (m_book_text fu)
def m_is_name (fu : Nat) : SM :=
    (sRet (mAnd (mCall isiD (mCons (mVar 0) (mCons (mC (.ty "str")) mNil))) (mAnd (mChain leD leD (mC (.int 1)) (mCall lenD (mCons (mVar 0) mNil)) (mC (.int 6))) (mCall allD (mCons (mLc (mIter (mVar 0)) [1] (tgN 1) mYes (mChain leD leD (mC (.str "a")) (mVar 1) (mC (.str "z")))) mNil)))))
def F_is_name (fu : Nat) : List D → Store → R D := runT 2 (m_is_name fu)
def m_are_rising (fu : Nat) : SM :=
    (sRet (mCall allD (mCons (mLc (mZip (mCons (mVar 0) (mCons (mSl (mVar 0) (mP (mC (.int 1))) mNoP) mNil))) [1, 2] (tgT 2 (tgsCons (tgN 1) (tgsCons (tgN 2) tgsNil))) mYes (mBin ltTD (mVar 1) (mVar 2))) mNil)))
def F_are_rising (fu : Nat) : List D → Store → R D := runT 3 (m_are_rising fu)
def m_is_whole (fu : Nat) : SM :=
    (sRet (mAnd (mCall isiD (mCons (mVar 0) (mCons (mC (.ty "int")) mNil))) (mNot (mCall isiD (mCons (mVar 0) (mCons (mC (.ty "bool")) mNil))))))
def F_is_whole (fu : Nat) : List D → Store → R D := runT 1 (m_is_whole fu)
def m_is_value (fu : Nat) : SM :=
    (sRet (mAnd (mApp 1 (F_is_whole fu) (mCons (mVar 0) mNil)) (mChain leD leD (mUn negD (mC (.int 9999))) (mVar 0) (mC (.int 9999)))))
def F_is_value (fu : Nat) : List D → Store → R D := runT 1 (m_is_value fu)
def m_is_row (fu : Nat) : SM :=
    (sRet (mAnd (mCall isiD (mCons (mVar 0) (mCons (mC (.ty "tuple")) mNil))) (mAnd (mBin eqD (mCall lenD (mCons (mVar 0) mNil)) (mVar 1)) (mCall allD (mCons (mLc (mIter (mVar 0)) [2] (tgN 2) mYes (mApp 1 (F_is_value fu) (mCons (mVar 2) mNil))) mNil)))))
def F_is_row (fu : Nat) : List D → Store → R D := runT 3 (m_is_row fu)
def m_is_book (fu : Nat) : SM :=
    (sSeq (sIf (mOrT (mNotT (mTru (mCall isiD (mCons (mVar 0) (mCons (mC (.ty "tuple")) mNil))))) (mNotT (mTru (mCall allD (mCons (mLc (mIter (mVar 0)) [4] (tgN 4) mYes (mAnd (mCall isiD (mCons (mVar 4) (mCons (mC (.ty "tuple")) mNil))) (mBin eqD (mCall lenD (mCons (mVar 4) mNil)) (mC (.int 3))))) mNil))))) (sRet (mC (.bl false))) sNil)
    (sSeq (sFor (mIter (mVar 0)) (tgT 3 (tgsCons (tgN 1) (tgsCons (tgN 2) (tgsCons (tgN 3) tgsNil)))) (sSeq (sIf (mOrT (mNotT (mTru (mApp 1 (F_is_name fu) (mCons (mVar 1) mNil)))) (mOrT (mNotT (mTru (mApp 1 (F_is_whole fu) (mCons (mVar 2) mNil)))) (mOrT (mNotT (mT (mChain leD leD (mC (.int 1)) (mVar 2) (mC (.int 5))))) (mNotT (mTru (mCall isiD (mCons (mVar 3) (mCons (mC (.ty "tuple")) mNil)))))))) (sRet (mC (.bl false))) sNil)
    (sIf (mOrT (mNotT (mTru (mCall allD (mCons (mLc (mIter (mVar 3)) [5] (tgN 5) mYes (mApp 2 (F_is_row fu) (mCons (mVar 5) (mCons (mVar 2) mNil)))) mNil)))) (mNotT (mTru (mApp 1 (F_are_rising fu) (mCons (mVar 3) mNil))))) (sRet (mC (.bl false))) sNil)))
    (sRet (mApp 1 (F_are_rising fu) (mCons (mLc (mIter (mVar 0)) [4] (tgN 4) mYes (mBin ixD (mVar 4) (mC (.int 0)))) mNil)))))
def F_is_book (fu : Nat) : List D → Store → R D := runT 6 (m_is_book fu)
def m_value_in (fu : Nat) : SM :=
    (sSeq (sSet 1 (mIf (mT (mBin eqD (mSlW (mVar 0) mNoP (mP (mC (.int 1)))) (mC (.str "-")))) (mSlW (mVar 0) (mP (mC (.int 1))) mNoP) (mVar 0)))
    (sSeq (sIf (mOrT (mNotT (mT (mChain leD leD (mC (.int 1)) (mCall lenD (mCons (mVar 1) mNil)) (mC (.int 4))))) (mOrT (mNotT (mTru (mCall allD (mCons (mLc (mIter (mVar 1)) [2] (tgN 2) mYes (mChain leD leD (mC (.str "0")) (mVar 2) (mC (.str "9")))) mNil)))) (mT (mBin neD (mCall strSD (mCons (mCall intSD (mCons (mVar 0) mNil)) mNil)) (mVar 0))))) (sRaise "NoText") sNil)
    (sRet (mCall intSD (mCons (mVar 0) mNil)))))
def F_value_in (fu : Nat) : List D → Store → R D := runT 3 (m_value_in fu)
def m_row_in (fu : Nat) : SM :=
    (sRet (mCall tupD (mCons (mLcE (mIter (mVar 0)) [1] (tgN 1) mYes (mApp 1 (F_value_in fu) (mCons (mVar 1) mNil))) mNil)))
def F_row_in (fu : Nat) : List D → Store → R D := runT 2 (m_row_in fu)
def m_book_in (fu : Nat) : SM :=
    (sSeq (sSet 1 (mNewL mNil))
    (sSeq (sFor (mIter (mVar 0)) (tgN 2) (sSeq (sSet 3 (mTm splD (mVar 2) (mC (.str " "))))
    (sIf (mTru (mApp 1 (F_is_name fu) (mCons (mBin ixD (mVar 3) (mC (.int 0))) mNil))) (sSeq (sIf (mT (mBin neD (mCall lenD (mCons (mVar 3) mNil)) (mC (.int 2)))) (sRaise "NoText") sNil)
    (sDrop (mAppend (mVar 1) (mTup (mCons (mBin ixD (mVar 3) (mC (.int 0))) (mCons (mApp 1 (F_value_in fu) (mCons (mBin ixD (mVar 3) (mC (.int 1))) mNil)) (mCons (mTup mNil) mNil))))))) (sIf (mNotT (mTru (mVar 1))) (sRaise "NoText") (sSeq (sAsg (mBin ixD (mVar 1) (mUn negD (mC (.int 1)))) (tgT 3 (tgsCons (tgN 4) (tgsCons (tgN 5) (tgsCons (tgN 6) tgsNil)))))
    (sSetIx (mVar 1) (mUn negD (mC (.int 1))) (mTup (mCons (mVar 4) (mCons (mVar 5) (mCons (mBin addD (mVar 6) (mTup (mCons (mApp 1 (F_row_in fu) (mCons (mVar 3) mNil)) mNil))) mNil))))))))))
    (sSeq (sIf (mNotT (mTru (mApp 1 (F_is_book fu) (mCons (mCall tupD (mCons (mVar 1) mNil)) mNil)))) (sRaise "NoText") sNil)
    (sRet (mCall tupD (mCons (mVar 1) mNil))))))
def F_book_in (fu : Nat) : List D → Store → R D := runT 7 (m_book_in fu)
def m_lines_of (fu : Nat) : SM :=
    (sSeq (sStarF (mTm splD (mVar 0) (mC (.str "\n"))) 2 (tgN 1))
    (sSeq (sIf (mT (mBin neD (mVar 1) (mC (.str "")))) (sRaise "NoText") sNil)
    (sRet (mVar 2))))
def F_lines_of (fu : Nat) : List D → Store → R D := runT 3 (m_lines_of fu)
def m_read_book (fu : Nat) : SM :=
    (sRet (mApp 1 (F_book_in fu) (mCons (mApp 1 (F_lines_of fu) (mCons (mVar 0) mNil)) mNil)))
def F_read_book (fu : Nat) : List D → Store → R D := runT 1 (m_read_book fu)
def m__law_told (fu : Nat) : SM :=
    (sSeq (sSet 1 (mC .non))
    (sSeq (sTry "NoText" (sSet 1 (mApp 1 (F_read_book fu) (mCons (mVar 0) mNil))) (sSet 1 (mC (.str "NoText"))))
    (sRet (mVar 1))))
def F__law_told (fu : Nat) : List D → Store → R D := runT 2 (m__law_told fu)
def m__law_or_refused (fu : Nat) : SM :=
    (sRet (mIf (mT (mBin isND (mVar 0) (mC .non))) (mC (.str "NoText")) (mVar 0)))
def F__law_or_refused (fu : Nat) : List D → Store → R D := runT 1 (m__law_or_refused fu)
def m__law_number (fu : Nat) : SM :=
    (sSeq (sSet 1 (mIf (mT (mBin eqD (mSlW (mVar 0) mNoP (mP (mC (.int 1)))) (mC (.str "-")))) (mSlW (mVar 0) (mP (mC (.int 1))) mNoP) (mVar 0)))
    (sSeq (sIf (mOrT (mNotT (mT (mChain ltD ltD (mC (.int 0)) (mCall lenD (mCons (mVar 1) mNil)) (mC (.int 5))))) (mTru (mLc (mIter (mVar 1)) [2] (tgN 2) (mNotT (mT (mChain leD leD (mC (.str "0")) (mVar 2) (mC (.str "9"))))) (mVar 2)))) (sRet (mC .non)) sNil)
    (sRet (mIf (mT (mBin eqD (mCall strSD (mCons (mCall intSD (mCons (mVar 0) mNil)) mNil)) (mVar 0))) (mCall intSD (mCons (mVar 0) mNil)) (mC .non)))))
def F__law_number (fu : Nat) : List D → Store → R D := runT 3 (m__law_number fu)
def m__law_read (fu : Nat) : SM :=
    (sSeq (sPar 2 3 (mCons (mTm splD (mVar 0) (mC (.str "\n"))) (mCons (mNewL mNil) mNil)))
    (sSeq (sFor (mIter (mSlW (mVar 2) mNoP (mP (mUn negD (mC (.int 1)))))) (tgN 1) (sSeq (sSet 4 (mTm splD (mVar 1) (mC (.str " "))))
    (sIf (mAndT (mT (mBin eqD (mLc (mIter (mBin ixD (mVar 4) (mC (.int 0)))) [6] (tgN 6) (mNotT (mT (mChain leD leD (mC (.str "a")) (mVar 6) (mC (.str "z"))))) (mVar 6)) (mLst mNil))) (mT (mBin neD (mBin ixD (mVar 4) (mC (.int 0))) (mC (.str ""))))) (sSeq (sIf (mOrT (mT (mBin neD (mCall lenD (mCons (mVar 4) mNil)) (mC (.int 2)))) (mT (mBin isND (mApp 1 (F__law_number fu) (mCons (mBin ixD (mVar 4) (mC (.int 1))) mNil)) (mC .non)))) (sRet (mC .non)) sNil)
    (sDrop (mAppend (mVar 3) (mTup (mCons (mBin ixD (mVar 4) (mC (.int 0))) (mCons (mApp 1 (F__law_number fu) (mCons (mBin ixD (mVar 4) (mC (.int 1))) mNil)) (mCons (mTup mNil) mNil))))))) (sSeq (sSet 5 (mCall tupD (mCons (mLc (mIter (mVar 4)) [7] (tgN 7) mYes (mApp 1 (F__law_number fu) (mCons (mVar 7) mNil))) mNil)))
    (sSeq (sIf (mOrT (mNotT (mTru (mVar 3))) (mT (mBin inTD (mC .non) (mVar 5)))) (sRet (mC .non)) sNil)
    (sSetIx (mVar 3) (mUn negD (mC (.int 1))) (mBin addD (mSlW (mBin ixD (mVar 3) (mUn negD (mC (.int 1)))) mNoP (mP (mC (.int 2)))) (mTup (mCons (mBin addD (mBin ixD (mBin ixD (mVar 3) (mUn negD (mC (.int 1)))) (mC (.int 2))) (mTup (mCons (mVar 5) mNil))) mNil)))))))))
    (sRet (mIf (mAndT (mT (mBin eqD (mBin ixD (mVar 2) (mUn negD (mC (.int 1)))) (mC (.str "")))) (mTru (mApp 1 (F_is_book fu) (mCons (mCall tupD (mCons (mVar 3) mNil)) mNil)))) (mCall tupD (mCons (mVar 3) mNil)) (mC .non)))))
def F__law_read (fu : Nat) : List D → Store → R D := runT 8 (m__law_read fu)
def m_law (fu : Nat) : SM :=
    (sSeq (sSet 1 (mNewL mNil))
    (sSeq (sSet 2 (mLst (mCons (mC (.str "p")) (mCons (mC (.str "q")) (mCons (mC (.str "0")) (mCons (mC (.str "1")) (mCons (mC (.str "2")) (mCons (mC (.str "-1")) (mCons (mC (.str "01")) (mCons (mC (.str "9999")) (mCons (mC (.str "10000")) (mCons (mC (.str "")) (mCons (mC (.str " ")) (mCons (mC (.str "\n")) (mCons (mC (.str "A")) (mCons (mC (.str "pp")) (mCons (mC (.str "5")) (mCons (mC (.str "6")) (mCons (mC (.str "-0")) mNil)))))))))))))))))))
    (sSeq (sFor (mRng1 (mCons (mC (.int 6)) mNil)) (tgN 3) (sSeq (sSet 4 (mApp 4 (F__law_drawn_book fu) (mCons (mVar 0) (mCons (mVar 1) (mCons (mC (.int 4)) (mCons (mC (.int 3)) mNil))))))
    (sSeq (sSet 5 (mC (.str "")))
    (sSeq (sFor (mIter (mVar 4)) (tgT 3 (tgsCons (tgN 8) (tgsCons (tgN 9) (tgsCons (tgN 10) tgsNil)))) (sSeq (sSet 5 (mBin addD (mBin addD (mBin addD (mBin addD (mVar 5) (mVar 8)) (mC (.str " "))) (mCall strSD (mCons (mVar 9) mNil))) (mC (.str "\n"))))
    (sFor (mIter (mVar 10)) (tgN 11) (sSet 5 (mBin addD (mBin addD (mVar 5) (mTm joiD (mC (.str " ")) (mLc (mIter (mVar 11)) [13] (tgN 13) mYes (mCall strSD (mCons (mVar 13) mNil))))) (mC (.str "\n")))))))
    (sSeq (sIf (mOrT (mNotT (mTru (mApp 2 (F__law_same fu 5) (mCons (mApp 1 (F_book_text fu) (mCons (mVar 4) mNil)) (mCons (mVar 5) mNil))))) (mNotT (mTru (mApp 2 (F__law_same fu 5) (mCons (mApp 1 (F__law_told fu) (mCons (mVar 5) mNil)) (mCons (mVar 4) mNil)))))) (sRet (mC (.bl false))) sNil)
    (sSeq (sSet 6 (mBinN catN (mLc (mRng1 (mCons (mC (.int 14)) mNil)) [12] (tgN 12) mYes (mApp 4 (F__law_row_spoilt fu) (mCons (mVar 0) (mCons (mVar 1) (mCons (mVar 5) (mCons (mVar 2) mNil)))))) (mLst (mCons (mC (.str "")) (mCons (mC (.str "\n")) (mCons (mSlW (mVar 5) mNoP (mP (mUn negD (mC (.int 1))))) (mCons (mBin addD (mVar 5) (mC (.str "\n"))) mNil)))))))
    (sSeq (sSet 6 (mBinN catN (mVar 6) (mLst (mCons (mC (.str "a 1\n")) (mCons (mC (.str "a 6\n")) (mCons (mC (.str "a 5\n")) (mCons (mC (.str "a 1\n1 2\n")) (mCons (mC (.str "a\n")) (mCons (mC (.str "1\na 1\n")) (mCons (mC (.str "a 1\nb 1\n")) mNil))))))))))
    (sSeq (sSet 6 (mBinN catN (mVar 6) (mLst (mCons (mC (.str "b 1\na 1\n")) (mCons (mC (.str "a 1 \n")) mNil)))))
    (sFor (mIter (mBin addL (mVar 6) (mLst (mCons (mC (.str "abcdefg 1\n")) (mCons (mC (.str "a 1\n-9999\n9999\n")) (mCons (mC (.str "a 1\n1\n1\n")) (mCons (mBin addD (mVar 5) (mVar 5)) mNil))))))) (tgN 7) (sIf (mNotT (mTru (mApp 2 (F__law_same fu 5) (mCons (mApp 1 (F__law_told fu) (mCons (mVar 7) mNil)) (mCons (mApp 1 (F__law_or_refused fu) (mCons (mApp 1 (F__law_read fu) (mCons (mVar 7) mNil)) mNil)) mNil))))) (sRet (mC (.bl false))) sNil))))))))))
    (sRet (mC (.bl true))))))
def F_law (fu : Nat) : List D → Store → R D := runT 14 (m_law fu)
end Law
namespace Law
open PySem L2 Dv
structure Tx (K : PySem.W.Frag) (mg : Str → Option Value) (a__law_draw a__law_pick a__law_drawn_rows a__law_drawn_book a__law_same a__law_spoilt a__law_row_spoilt a_joined a_row_text a_book_lines a_book_text a_is_name a_are_rising a_is_whole a_is_value a_is_row a_is_book a_value_in a_row_in a_book_in a_lines_of a_read_book a__law_told a__law_or_refused a__law_number a__law_read a_law C_NoText C_RowError : Addr) (d__law_draw d__law_pick d__law_drawn_rows d__law_drawn_book d__law_same d__law_spoilt d__law_row_spoilt d_joined d_row_text d_book_lines d_book_text d_is_name d_are_rising d_is_whole d_is_value d_is_row d_is_book d_value_in d_row_in d_book_in d_lines_of d_read_book d__law_told d__law_or_refused d__law_number d__law_read d_law : FuncData) (kt_MOST : Tok) : Prop where
  z_abs : mg "abs" = none
  z_all : mg "all" = none
  z_bool : mg "bool" = none
  z_int : mg "int" = none
  z_isinstance : mg "isinstance" = none
  z_len : mg "len" = none
  z_max : mg "max" = none
  z_range : mg "range" = none
  z_sorted : mg "sorted" = none
  z_str : mg "str" = none
  z_tuple : mg "tuple" = none
  z_zip : mg "zip" = none
  k_MOST : mg "MOST" = some (.int 9999 kt_MOST)
  x_NoText : ExcOk K mg "NoText" C_NoText
  x_RowError : ExcOk K mg "RowError" C_RowError
  F__law_draw : Fun K "_law_draw" "_law_draw" s__law_draw a__law_draw d__law_draw
  b__law_draw : Binds K d__law_draw P__law_draw []
  g__law_draw : mg "_law_draw" = some (.ref a__law_draw)
  F__law_pick : Fun K "_law_pick" "_law_pick" s__law_pick a__law_pick d__law_pick
  b__law_pick : Binds K d__law_pick P__law_pick []
  g__law_pick : mg "_law_pick" = some (.ref a__law_pick)
  F__law_drawn_rows : Fun K "_law_drawn_rows" "_law_drawn_rows" s__law_drawn_rows a__law_drawn_rows d__law_drawn_rows
  b__law_drawn_rows : Binds K d__law_drawn_rows P__law_drawn_rows []
  g__law_drawn_rows : mg "_law_drawn_rows" = some (.ref a__law_drawn_rows)
  F__law_drawn_book : Fun K "_law_drawn_book" "_law_drawn_book" s__law_drawn_book a__law_drawn_book d__law_drawn_book
  b__law_drawn_book : Binds K d__law_drawn_book P__law_drawn_book []
  g__law_drawn_book : mg "_law_drawn_book" = some (.ref a__law_drawn_book)
  F__law_same : Fun K "_law_same" "_law_same" s__law_same a__law_same d__law_same
  b__law_same : Binds K d__law_same P__law_same []
  g__law_same : mg "_law_same" = some (.ref a__law_same)
  F__law_spoilt : Fun K "_law_spoilt" "_law_spoilt" s__law_spoilt a__law_spoilt d__law_spoilt
  b__law_spoilt : Binds K d__law_spoilt P__law_spoilt []
  g__law_spoilt : mg "_law_spoilt" = some (.ref a__law_spoilt)
  F__law_row_spoilt : Fun K "_law_row_spoilt" "_law_row_spoilt" s__law_row_spoilt a__law_row_spoilt d__law_row_spoilt
  b__law_row_spoilt : Binds K d__law_row_spoilt P__law_row_spoilt []
  g__law_row_spoilt : mg "_law_row_spoilt" = some (.ref a__law_row_spoilt)
  F_joined : Fun K "joined" "joined" s_joined a_joined d_joined
  b_joined : Binds K d_joined P_joined []
  g_joined : mg "joined" = some (.ref a_joined)
  F_row_text : Fun K "row_text" "row_text" s_row_text a_row_text d_row_text
  b_row_text : Binds K d_row_text P_row_text []
  g_row_text : mg "row_text" = some (.ref a_row_text)
  F_book_lines : Fun K "book_lines" "book_lines" s_book_lines a_book_lines d_book_lines
  b_book_lines : Binds K d_book_lines P_book_lines []
  g_book_lines : mg "book_lines" = some (.ref a_book_lines)
  F_book_text : Fun K "book_text" "book_text" s_book_text a_book_text d_book_text
  b_book_text : Binds K d_book_text P_book_text []
  g_book_text : mg "book_text" = some (.ref a_book_text)
  F_is_name : Fun K "is_name" "is_name" s_is_name a_is_name d_is_name
  b_is_name : Binds K d_is_name P_is_name []
  g_is_name : mg "is_name" = some (.ref a_is_name)
  F_are_rising : Fun K "are_rising" "are_rising" s_are_rising a_are_rising d_are_rising
  b_are_rising : Binds K d_are_rising P_are_rising []
  g_are_rising : mg "are_rising" = some (.ref a_are_rising)
  F_is_whole : Fun K "is_whole" "is_whole" s_is_whole a_is_whole d_is_whole
  b_is_whole : Binds K d_is_whole P_is_whole []
  g_is_whole : mg "is_whole" = some (.ref a_is_whole)
  F_is_value : Fun K "is_value" "is_value" s_is_value a_is_value d_is_value
  b_is_value : Binds K d_is_value P_is_value []
  g_is_value : mg "is_value" = some (.ref a_is_value)
  F_is_row : Fun K "is_row" "is_row" s_is_row a_is_row d_is_row
  b_is_row : Binds K d_is_row P_is_row []
  g_is_row : mg "is_row" = some (.ref a_is_row)
  F_is_book : Fun K "is_book" "is_book" s_is_book a_is_book d_is_book
  b_is_book : Binds K d_is_book P_is_book []
  g_is_book : mg "is_book" = some (.ref a_is_book)
  F_value_in : Fun K "value_in" "value_in" s_value_in a_value_in d_value_in
  b_value_in : Binds K d_value_in P_value_in []
  g_value_in : mg "value_in" = some (.ref a_value_in)
  F_row_in : Fun K "row_in" "row_in" s_row_in a_row_in d_row_in
  b_row_in : Binds K d_row_in P_row_in []
  g_row_in : mg "row_in" = some (.ref a_row_in)
  F_book_in : Fun K "book_in" "book_in" s_book_in a_book_in d_book_in
  b_book_in : Binds K d_book_in P_book_in []
  g_book_in : mg "book_in" = some (.ref a_book_in)
  F_lines_of : Fun K "lines_of" "lines_of" s_lines_of a_lines_of d_lines_of
  b_lines_of : Binds K d_lines_of P_lines_of []
  g_lines_of : mg "lines_of" = some (.ref a_lines_of)
  F_read_book : Fun K "read_book" "read_book" s_read_book a_read_book d_read_book
  b_read_book : Binds K d_read_book P_read_book []
  g_read_book : mg "read_book" = some (.ref a_read_book)
  F__law_told : Fun K "_law_told" "_law_told" s__law_told a__law_told d__law_told
  b__law_told : Binds K d__law_told P__law_told []
  g__law_told : mg "_law_told" = some (.ref a__law_told)
  F__law_or_refused : Fun K "_law_or_refused" "_law_or_refused" s__law_or_refused a__law_or_refused d__law_or_refused
  b__law_or_refused : Binds K d__law_or_refused P__law_or_refused []
  g__law_or_refused : mg "_law_or_refused" = some (.ref a__law_or_refused)
  F__law_number : Fun K "_law_number" "_law_number" s__law_number a__law_number d__law_number
  b__law_number : Binds K d__law_number P__law_number []
  g__law_number : mg "_law_number" = some (.ref a__law_number)
  F__law_read : Fun K "_law_read" "_law_read" s__law_read a__law_read d__law_read
  b__law_read : Binds K d__law_read P__law_read []
  g__law_read : mg "_law_read" = some (.ref a__law_read)
  F_law : Fun K "law" "law" s_law a_law d_law
  b_law : Binds K d_law P_law []
  g_law : mg "law" = some (.ref a_law)
section
variable {P : Program} {w : World} {K : PySem.W.Frag} {mg : Str → Option Value} {base : Heap} {a__law_draw a__law_pick a__law_drawn_rows a__law_drawn_book a__law_same a__law_spoilt a__law_row_spoilt a_joined a_row_text a_book_lines a_book_text a_is_name a_are_rising a_is_whole a_is_value a_is_row a_is_book a_value_in a_row_in a_book_in a_lines_of a_read_book a__law_told a__law_or_refused a__law_number a__law_read a_law C_NoText C_RowError : Addr} {d__law_draw d__law_pick d__law_drawn_rows d__law_drawn_book d__law_same d__law_spoilt d__law_row_spoilt d_joined d_row_text d_book_lines d_book_text d_is_name d_are_rising d_is_whole d_is_value d_is_row d_is_book d_value_in d_row_in d_book_in d_lines_of d_read_book d__law_told d__law_or_refused d__law_number d__law_read d_law : FuncData} {kt_MOST : Tok}
variable (T : Tx K mg a__law_draw a__law_pick a__law_drawn_rows a__law_drawn_book a__law_same a__law_spoilt a__law_row_spoilt a_joined a_row_text a_book_lines a_book_text a_is_name a_are_rising a_is_whole a_is_value a_is_row a_is_book a_value_in a_row_in a_book_in a_lines_of a_read_book a__law_told a__law_or_refused a__law_number a__law_read a_law C_NoText C_RowError d__law_draw d__law_pick d__law_drawn_rows d__law_drawn_book d__law_same d__law_spoilt d__law_row_spoilt d_joined d_row_text d_book_lines d_book_text d_is_name d_are_rising d_is_whole d_is_value d_is_row d_is_book d_value_in d_row_in d_book_in d_lines_of d_read_book d__law_told d__law_or_refused d__law_number d__law_read d_law kt_MOST)
include T
theorem ok__law_draw (fu : Nat) : FnOk P w K mg base (L2.CX P w) 1 a__law_draw d__law_draw P__law_draw (spD K mg 3 (F__law_draw fu)) := by
  refine fnT (N := N__law_draw) (b := m__law_draw fu) T.F__law_draw sc__law_draw fun cdv A outer s H E hr => ?_
  have tk : Takes (cxOf (L2.CX P w) P w K mg base N__law_draw "_law_draw" (defScope s__law_draw) a__law_draw cdv A outer s H E) (fun c d _ H => E c d H) := takes_of rfl rfl rfl rfl
  exact (js_cons (js_if (jt_not (jt_tru (jv 1))) (js_one (js_drop (j_append (jv 1) (j_callB (cr_max rfl) pok_max (by rfl) T.z_max (by decide +kernel) (ja_cons (j_bin op_addA pok_add (j_lc (own := [("cell", 4)]) (sl := [4]) (by decide) rfl sc__law_draw.nd (ji_seq (jv 0)) (blkOk_by (own := [("cell", 4)]) (N := N__law_draw) (sc := defScope s__law_draw) (by decide +kernel)) (fun _ _ _ _ _ => (jgn 4 sc__law_draw.nd)) (fun _ _ _ _ _ => jts_nil) (fun _ _ _ _ _ => (j_callB call_abs pok_abs (by rfl) T.z_abs (by decide +kernel) (ja_cons (jv 4) ja_nil)))) (j_lst (ja_cons j_int ja_nil))) ja_nil))))) js_nil)
    (js_cons (js_drop (j_append (jv 1) j_int))
    (js_cons (js_set (i := 3) sc__law_draw.nd rfl (by first | exact Or.inl rfl | exact Or.inr rfl) (j_callB call_len pok_len (by rfl) T.z_len (by decide +kernel) (ja_cons (jv 1) ja_nil)))
    (js_cons (js_set (i := 4) sc__law_draw.nd rfl (by first | exact Or.inl rfl | exact Or.inr rfl) (j_if (jt_tru (jv 0)) (j_ix ix_seq pok_ix (fun _ _ => rfl) (jv 0) (j_bin op_mod pok_mod (jv 3) (j_callB call_len pok_len (by rfl) T.z_len (by decide +kernel) (ja_cons (jv 0) ja_nil)))) j_int))
    (js_cons (js_set (i := 5) sc__law_draw.nd rfl (by first | exact Or.inl rfl | exact Or.inr rfl) (j_bin op_mod pok_mod (j_ix ix_seq pok_ix (fun _ _ => rfl) (jv 1) j_int) j_int))
    (js_cons (js_setIx (j_bin op_fdiv pok_fdiv (j_ix ix_seq pok_ix (fun _ _ => rfl) (jv 1) j_int) j_int) (jv 1) j_int)
    (js_cons (js_set (i := 6) sc__law_draw.nd rfl (by first | exact Or.inl rfl | exact Or.inr rfl) (j_bin op_mod pok_mod (j_bin op_addA pok_add (j_bin op_addA pok_add (jv 4) (j_bin op_mulA pok_mul j_int (jv 5))) (j_bin op_mulA pok_mul j_int (jv 3))) j_int))
    (js_cons (js_set (i := 6) sc__law_draw.nd rfl (by first | exact Or.inl rfl | exact Or.inr rfl) (j_bin op_mod pok_mod (j_bin op_mulA pok_mul (j_bin op_mod pok_mod (j_bin op_mulA pok_mul (jv 6) (jv 6)) j_int) j_int) j_int))
    (js_cons (js_set (i := 7) sc__law_draw.nd rfl (by first | exact Or.inl rfl | exact Or.inr rfl) (j_bin op_mod pok_mod (j_bin op_mulA pok_mul (j_bin op_mod pok_mod (j_bin op_mulA pok_mul (jv 6) (jv 6)) j_int) j_int) j_int))
    (js_one (js_ret (j_bin op_mod pok_mod (j_bin op_addA pok_add (j_bin op_mulA pok_mul (j_bin op_fdiv pok_fdiv (jv 6) j_int) j_int) (j_bin op_fdiv pok_fdiv (jv 7) j_int)) (jv 2)))))))))))))
theorem ok__law_pick (fu : Nat) : FnOk P w K mg base (L2.CX P w) 2 a__law_pick d__law_pick P__law_pick (spD K mg 3 (F__law_pick fu)) := by
  refine fnT (N := N__law_pick) (b := m__law_pick fu) T.F__law_pick sc__law_pick fun cdv A outer s H E hr => ?_
  have tk : Takes (cxOf (L2.CX P w) P w K mg base N__law_pick "_law_pick" (defScope s__law_pick) a__law_pick cdv A outer s H E) (fun c d _ H => E c d H) := takes_of rfl rfl rfl rfl
  exact (js_one (js_ret (j_ix ix_seq pok_ix (fun _ _ => rfl) (jv 2) (j_call (ok__law_draw T fu) (hr.mono (by decide)) (by rfl) T.g__law_draw T.F__law_draw.kp T.b__law_draw tk (ja_cons (jv 0) (ja_cons (jv 1) (ja_cons (j_callB call_len pok_len (by rfl) T.z_len (by decide +kernel) (ja_cons (jv 2) ja_nil)) ja_nil)))))))
theorem ok__law_drawn_rows (fu : Nat) : FnOk P w K mg base (L2.CX P w) 2 a__law_drawn_rows d__law_drawn_rows P__law_drawn_rows (spD K mg 5 (F__law_drawn_rows fu)) := by
  refine fnT (N := N__law_drawn_rows) (b := m__law_drawn_rows fu) T.F__law_drawn_rows sc__law_drawn_rows fun cdv A outer s H E hr => ?_
  have tk : Takes (cxOf (L2.CX P w) P w K mg base N__law_drawn_rows "_law_drawn_rows" (defScope s__law_drawn_rows) a__law_drawn_rows cdv A outer s H E) (fun c d _ H => E c d H) := takes_of rfl rfl rfl rfl
  exact (js_cons (js_set (i := 5) sc__law_drawn_rows.nd rfl (by first | exact Or.inl rfl | exact Or.inr rfl) (j_lst ja_nil))
    (js_cons (js_for (passes_of rfl) rfl (ji_rng1 (by rfl) T.z_range (ja_cons (j_call (ok__law_draw T fu) (hr.mono (by decide)) (by rfl) T.g__law_draw T.F__law_draw.kp T.b__law_draw tk (ja_cons (jv 0) (ja_cons (jv 1) (ja_cons (j_bin op_addA pok_add (jv 3) j_int) ja_nil)))) ja_nil)) (jgn 6 sc__law_drawn_rows.nd) (js_cons (js_set (i := 7) sc__law_drawn_rows.nd rfl (by first | exact Or.inl rfl | exact Or.inr rfl) (j_callT call_tuple_of pok_tup (by rfl) T.z_tuple (by decide +kernel) (ja_cons (j_lc (own := [("j", 8)]) (sl := [8]) (by decide) rfl sc__law_drawn_rows.nd (ji_rng1 (by rfl) T.z_range (ja_cons (jv 2) ja_nil)) (blkOk_by (own := [("j", 8)]) (N := N__law_drawn_rows) (sc := defScope s__law_drawn_rows) (by decide +kernel)) (fun _ _ _ _ _ => (jgn 8 sc__law_drawn_rows.nd)) (fun _ _ _ _ _ => jts_nil) (fun _ _ _ _ _ => (j_call (ok__law_draw T fu) (hr.mono (by decide)) (by rfl) T.g__law_draw T.F__law_draw.kp T.b__law_draw takes0 (ja_cons (jv 0) (ja_cons (jv 1) (ja_cons (jv 4) ja_nil)))))) ja_nil)))
    (js_one (js_set (i := 5) sc__law_drawn_rows.nd rfl (by first | exact Or.inl rfl | exact Or.inr rfl) (j_bin op_addA pok_add (jv 5) (j_bin op_mulA pok_mul (j_lst (ja_cons (jv 7) ja_nil)) (j_callT call_int1 pok_int (by rfl) T.z_int (by decide +kernel) (ja_cons (j_cmp (op_notInD (room65 hr)) pok_nin (by rfl) (jv 7) (jv 5)) ja_nil))))))))
    (js_one (js_ret (j_callT call_tuple_of pok_tup (by rfl) T.z_tuple (by decide +kernel) (ja_cons (j_callB cr_sortA pok_sort (by rfl) T.z_sorted (by decide +kernel) (ja_cons (jv 5) ja_nil)) ja_nil))))))
theorem ok__law_drawn_book (fu : Nat) : FnOk P w K mg base (L2.CX P w) 3 a__law_drawn_book d__law_drawn_book P__law_drawn_book (spD K mg 4 (F__law_drawn_book fu)) := by
  refine fnT (N := N__law_drawn_book) (b := m__law_drawn_book fu) T.F__law_drawn_book sc__law_drawn_book fun cdv A outer s H E hr => ?_
  have tk : Takes (cxOf (L2.CX P w) P w K mg base N__law_drawn_book "_law_drawn_book" (defScope s__law_drawn_book) a__law_drawn_book cdv A outer s H E) (fun c d _ H => E c d H) := takes_of rfl rfl rfl rfl
  exact (js_cons (js_set (i := 4) sc__law_drawn_book.nd rfl (by first | exact Or.inl rfl | exact Or.inr rfl) (j_newL ja_nil))
    (js_cons (js_for (passes_of rfl) rfl (ji_seq (j_tup (ja_cons j_str (ja_cons j_str (ja_cons j_str (ja_cons j_str ja_nil)))))) (jgn 5 sc__law_drawn_book.nd) (js_cons (js_set (i := 6) sc__law_drawn_book.nd rfl (by first | exact Or.inl rfl | exact Or.inr rfl) (j_call (ok__law_pick T fu) (hr.mono (by decide)) (by rfl) T.g__law_pick T.F__law_pick.kp T.b__law_pick tk (ja_cons (jv 0) (ja_cons (jv 1) (ja_cons (j_lst (ja_cons j_int (ja_cons j_int (ja_cons j_int (ja_cons j_int (ja_cons j_int ja_nil)))))) ja_nil)))))
    (js_one (js_drop (j_append (jv 4) (j_tup (ja_cons (jv 5) (ja_cons (jv 6) (ja_cons (j_call (ok__law_drawn_rows T fu) (hr.mono (by decide)) (by rfl) T.g__law_drawn_rows T.F__law_drawn_rows.kp T.b__law_drawn_rows tk (ja_cons (jv 0) (ja_cons (jv 1) (ja_cons (jv 6) (ja_cons (jv 2) (ja_cons (jv 3) ja_nil)))))) ja_nil)))))))))
    (js_one (js_ret (j_callT call_tuple_of pok_tup (by rfl) T.z_tuple (by decide +kernel) (ja_cons (j_slice (jv 4) (jo_some (j_call (ok__law_draw T fu) (hr.mono (by decide)) (by rfl) T.g__law_draw T.F__law_draw.kp T.b__law_draw tk (ja_cons (jv 0) (ja_cons (jv 1) (ja_cons j_int ja_nil))))) jo_none) ja_nil))))))
theorem ok__law_same (fu : Nat) : ∀ n : Nat, FnOk P w K mg base (L2.CX P w) (1 + n) a__law_same d__law_same P__law_same (spD K mg 2 (F__law_same fu n))
  | 0 => fn_bad
  | n + 1 => by
    have ih := ok__law_same fu n
    refine fnT (k := 1 + n) (N := N__law_same) (b := m__law_same fu (F__law_same fu n)) T.F__law_same sc__law_same fun cdv A outer s H E hr => ?_
    have tk : Takes (cxOf (L2.CX P w) P w K mg base N__law_same "_law_same" (defScope s__law_same) a__law_same cdv A outer s H E) (fun c d _ H => E c d H) := takes_of rfl rfl rfl rfl
    exact (js_cons (js_if (jt_cmp op_isN pok_isN (nomark _) (jv 1) j_non) (js_one (js_ret (j_cmp op_isN pok_isN (nomark _) (jv 0) j_non))) js_nil)
    (js_cons (js_if (jt_tru (j_callB call_isi pok_isi (by rfl) T.z_isinstance (by decide +kernel) (ja_cons (jv 1) (ja_cons (j_ty (by rfl) T.z_bool (by decide +kernel)) ja_nil)))) (js_one (js_ret (j_and (j_callB call_isi pok_isi (by rfl) T.z_isinstance (by decide +kernel) (ja_cons (jv 0) (ja_cons (j_ty (by rfl) T.z_bool (by decide +kernel)) ja_nil))) (j_one (j_cmp (op_eqA hr.units) pok_eq (nomark _) (jv 0) (jv 1)))))) js_nil)
    (js_cons (js_if (jt_tru (j_callB call_isi pok_isi (by rfl) T.z_isinstance (by decide +kernel) (ja_cons (jv 1) (ja_cons (j_ty (by rfl) T.z_tuple (by decide +kernel)) ja_nil)))) (js_cons (js_if (jw_pt (jw_or (jt_not (jt_tru (j_callB call_isi pok_isi (by rfl) T.z_isinstance (by decide +kernel) (ja_cons (jv 0) (ja_cons (j_ty (by rfl) T.z_tuple (by decide +kernel)) ja_nil))))) (jw_or1 (jt_cmp (op_neA hr.units) pok_ne (nomark _) (j_callB call_len pok_len (by rfl) T.z_len (by decide +kernel) (ja_cons (jv 0) ja_nil)) (j_callB call_len pok_len (by rfl) T.z_len (by decide +kernel) (ja_cons (jv 1) ja_nil)))))) (js_one (js_ret j_bl)) js_nil)
    (js_one (js_ret (j_callB (cr_all rfl) pok_all (by rfl) T.z_all (by decide +kernel) (ja_cons (j_lc (own := [("one", 2), ("other", 3)]) (sl := [2, 3]) (by decide) rfl sc__law_same.nd (ji_zip (by rfl) T.z_zip (ja_cons (jv 0) (ja_cons (jv 1) ja_nil))) (blkOk_by (own := [("one", 2), ("other", 3)]) (N := N__law_same) (sc := defScope s__law_same) (by decide +kernel)) (fun _ _ _ _ _ => (jg_tup rfl (jgs_cons (jgn 2 sc__law_same.nd) (jgs_cons (jgn 3 sc__law_same.nd) jgs_nil)))) (fun _ _ _ _ _ => jts_nil) (fun _ _ _ _ _ => (j_call ih (hr.mono (by omega)) (by rfl) T.g__law_same T.F__law_same.kp T.b__law_same takes0 (ja_cons (jv 2) (ja_cons (jv 3) ja_nil))))) ja_nil))))) js_nil)
    (js_cons (js_if (jt_tru (j_callB call_isi pok_isi (by rfl) T.z_isinstance (by decide +kernel) (ja_cons (jv 1) (ja_cons (j_ty (by rfl) T.z_str (by decide +kernel)) ja_nil)))) (js_one (js_ret (j_and (j_callB call_isi pok_isi (by rfl) T.z_isinstance (by decide +kernel) (ja_cons (jv 0) (ja_cons (j_ty (by rfl) T.z_str (by decide +kernel)) ja_nil))) (j_one (j_cmp (op_eqA hr.units) pok_eq (nomark _) (jv 0) (jv 1)))))) js_nil)
    (js_one (js_ret (j_and (j_callB call_isi pok_isi (by rfl) T.z_isinstance (by decide +kernel) (ja_cons (jv 0) (ja_cons (j_ty (by rfl) T.z_int (by decide +kernel)) ja_nil))) (j_and (j_not (j_callB call_isi pok_isi (by rfl) T.z_isinstance (by decide +kernel) (ja_cons (jv 0) (ja_cons (j_ty (by rfl) T.z_bool (by decide +kernel)) ja_nil)))) (j_one (j_cmp (op_eqA hr.units) pok_eq (nomark _) (jv 0) (jv 1)))))))))))
theorem ok__law_spoilt (fu : Nat) : FnOk P w K mg base (L2.CX P w) 3 a__law_spoilt d__law_spoilt P__law_spoilt (spD K mg 4 (F__law_spoilt fu)) := by
  refine fnT (N := N__law_spoilt) (b := m__law_spoilt fu) T.F__law_spoilt sc__law_spoilt fun cdv A outer s H E hr => ?_
  have tk : Takes (cxOf (L2.CX P w) P w K mg base N__law_spoilt "_law_spoilt" (defScope s__law_spoilt) a__law_spoilt cdv A outer s H E) (fun c d _ H => E c d H) := takes_of rfl rfl rfl rfl
  exact (js_cons (js_par (i := 5) (j := 6) rfl sc__law_spoilt.nd rfl rfl (by decide) rfl rfl (ja_cons (j_call (ok__law_draw T fu) (hr.mono (by decide)) (by rfl) T.g__law_draw T.F__law_draw.kp T.b__law_draw tk (ja_cons (jv 0) (ja_cons (jv 1) (ja_cons (j_bin op_addA pok_add (j_callB call_len pok_len (by rfl) T.z_len (by decide +kernel) (ja_cons (jv 2) ja_nil)) j_int) ja_nil)))) (ja_cons (j_call (ok__law_draw T fu) (hr.mono (by decide)) (by rfl) T.g__law_draw T.F__law_draw.kp T.b__law_draw tk (ja_cons (jv 0) (ja_cons (jv 1) (ja_cons j_int ja_nil)))) ja_nil)) (by rfl))
    (js_cons (js_set (i := 4) sc__law_spoilt.nd rfl (by first | exact Or.inl rfl | exact Or.inr rfl) (j_call (ok__law_pick T fu) (hr.mono (by decide)) (by rfl) T.g__law_pick T.F__law_pick.kp T.b__law_pick tk (ja_cons (jv 0) (ja_cons (jv 1) (ja_cons (jv 3) ja_nil)))))
    (js_cons (js_if (jt_cmp (op_eqA hr.units) pok_eq (nomark _) (jv 6) j_int) (js_one (js_ret (j_bin op_addA pok_add (j_sliceW (jv 2) jo_none (jo_some (jv 5))) (j_sliceW (jv 2) (jo_some (j_bin op_addA pok_add (jv 5) j_int)) jo_none)))) js_nil)
    (js_cons (js_if (jt_cmp (op_eqA hr.units) pok_eq (nomark _) (jv 6) j_int) (js_one (js_ret (j_bin op_addA pok_add (j_bin op_addA pok_add (j_sliceW (jv 2) jo_none (jo_some (jv 5))) (jv 4)) (j_sliceW (jv 2) (jo_some (jv 5)) jo_none)))) js_nil)
    (js_cons (js_if (jt_cmp (op_eqA hr.units) pok_eq (nomark _) (jv 6) j_int) (js_cons (js_set (i := 7) sc__law_spoilt.nd rfl (by first | exact Or.inl rfl | exact Or.inr rfl) (j_splitN (jv 2) j_str))
    (js_cons (js_set (i := 8) sc__law_spoilt.nd rfl (by first | exact Or.inl rfl | exact Or.inr rfl) (j_call (ok__law_draw T fu) (hr.mono (by decide)) (by rfl) T.g__law_draw T.F__law_draw.kp T.b__law_draw tk (ja_cons (jv 0) (ja_cons (jv 1) (ja_cons (j_callB call_len pok_len (by rfl) T.z_len (by decide +kernel) (ja_cons (jv 7) ja_nil)) ja_nil)))))
    (js_cons (js_setSl (j_call (ok__law_pick T fu) (hr.mono (by decide)) (by rfl) T.g__law_pick T.F__law_pick.kp T.b__law_pick tk (ja_cons (jv 0) (ja_cons (jv 1) (ja_cons (j_lst (ja_cons (j_lst ja_nil) (ja_cons (j_bin op_mulA pok_mul (j_sliceW (jv 7) (jo_some (jv 8)) (jo_some (j_bin op_addA pok_add (jv 8) j_int))) j_int) (ja_cons (j_lst (ja_cons (jv 4) ja_nil)) (ja_cons (j_lst (ja_cons (jv 4) (ja_cons (j_ix ix_seq pok_ix (fun _ _ => rfl) (jv 7) (jv 8)) ja_nil))) ja_nil))))) ja_nil)))) (jv 7) (jo_some (jv 8)) (jo_some (j_bin op_addA pok_add (jv 8) j_int)))
    (js_one (js_ret (j_join j_str (jv 7))))))) js_nil)
    (js_cons (js_if (jt_cmp (op_eqA hr.units) pok_eq (nomark _) (jv 6) j_int) (js_cons (js_set (i := 7) sc__law_spoilt.nd rfl (by first | exact Or.inl rfl | exact Or.inr rfl) (j_splitN (jv 2) j_str))
    (js_cons (js_set (i := 8) sc__law_spoilt.nd rfl (by first | exact Or.inl rfl | exact Or.inr rfl) (j_call (ok__law_draw T fu) (hr.mono (by decide)) (by rfl) T.g__law_draw T.F__law_draw.kp T.b__law_draw tk (ja_cons (jv 0) (ja_cons (jv 1) (ja_cons (j_callB call_len pok_len (by rfl) T.z_len (by decide +kernel) (ja_cons (jv 7) ja_nil)) ja_nil)))))
    (js_one (js_ret (j_join j_str (j_bin op_addA pok_add (j_sliceW (jv 7) jo_none (jo_some (jv 8))) (j_revL (j_sliceW (jv 7) (jo_some (jv 8)) jo_none)))))))) js_nil)
    (js_one (js_ret (j_bin op_addA pok_add (j_bin op_addA pok_add (j_sliceW (jv 2) jo_none (jo_some (jv 5))) (jv 4)) (j_sliceW (jv 2) (jo_some (j_bin op_addA pok_add (jv 5) j_int)) jo_none))))))))))
theorem ok__law_row_spoilt (fu : Nat) : FnOk P w K mg base (L2.CX P w) 4 a__law_row_spoilt d__law_row_spoilt P__law_row_spoilt (spD K mg 4 (F__law_row_spoilt fu)) := by
  refine fnT (N := N__law_row_spoilt) (b := m__law_row_spoilt fu) T.F__law_row_spoilt sc__law_row_spoilt fun cdv A outer s H E hr => ?_
  have tk : Takes (cxOf (L2.CX P w) P w K mg base N__law_row_spoilt "_law_row_spoilt" (defScope s__law_row_spoilt) a__law_row_spoilt cdv A outer s H E) (fun c d _ H => E c d H) := takes_of rfl rfl rfl rfl
  exact (js_cons (js_set (i := 4) sc__law_row_spoilt.nd rfl (by first | exact Or.inl rfl | exact Or.inr rfl) (j_splitN (jv 2) j_str))
    (js_cons (js_par (i := 5) (j := 6) rfl sc__law_row_spoilt.nd rfl rfl (by decide) rfl rfl (ja_cons (j_call (ok__law_draw T fu) (hr.mono (by decide)) (by rfl) T.g__law_draw T.F__law_draw.kp T.b__law_draw tk (ja_cons (jv 0) (ja_cons (jv 1) (ja_cons (j_callB call_len pok_len (by rfl) T.z_len (by decide +kernel) (ja_cons (jv 4) ja_nil)) ja_nil)))) (ja_cons (j_call (ok__law_draw T fu) (hr.mono (by decide)) (by rfl) T.g__law_draw T.F__law_draw.kp T.b__law_draw tk (ja_cons (jv 0) (ja_cons (jv 1) (ja_cons j_int ja_nil)))) ja_nil)) (by rfl))
    (js_cons (js_if (jt_cmp (op_eqA hr.units) pok_eq (nomark _) (jv 6) j_int) (js_one (js_setSlz (j_lst ja_nil) (jv 4) (jo_some (jv 5)) (jo_some (j_bin op_addA pok_add (jv 5) j_int)))) (js_one (js_if (jt_cmp (op_eqA hr.units) pok_eq (nomark _) (jv 6) j_int) (js_one (js_drop (j_insert (jv 4) (jv 5) (j_ix ix_seq pok_ix (fun _ _ => rfl) (jv 4) (jv 5))))) (js_one (js_if (jt_cmp (op_eqA hr.units) pok_eq (nomark _) (jv 6) j_int) (js_one (js_setSlz (j_revL (j_sliceW (jv 4) (jo_some (jv 5)) (jo_some (j_bin op_addA pok_add (jv 5) j_int)))) (jv 4) (jo_some (jv 5)) (jo_some (j_bin op_addA pok_add (jv 5) j_int)))) (js_one (js_setIx (j_call (ok__law_spoilt T fu) (hr.mono (by decide)) (by rfl) T.g__law_spoilt T.F__law_spoilt.kp T.b__law_spoilt tk (ja_cons (jv 0) (ja_cons (jv 1) (ja_cons (j_ix ix_seq pok_ix (fun _ _ => rfl) (jv 4) (jv 5)) (ja_cons (jv 3) ja_nil))))) (jv 4) (jv 5))))))))
    (js_one (js_ret (j_join j_str (jv 4)))))))
theorem ok_joined (fu : Nat) : FnOk P w K mg base (L2.CX P w) 1 a_joined d_joined P_joined (spD K mg 1 (F_joined fu)) := by
  refine fnT (N := N_joined) (b := m_joined fu) T.F_joined sc_joined fun cdv A outer s H E hr => ?_
  have tk : Takes (cxOf (L2.CX P w) P w K mg base N_joined "joined" (defScope s_joined) a_joined cdv A outer s H E) (fun c d _ H => E c d H) := takes_of rfl rfl rfl rfl
  exact (js_one (js_ret (j_join j_str (j_lc (own := [("line", 1)]) (sl := [1]) (by decide) rfl sc_joined.nd (ji_seq (jv 0)) (blkOk_by (own := [("line", 1)]) (N := N_joined) (sc := defScope s_joined) (by decide +kernel)) (fun _ _ _ _ _ => (jgn 1 sc_joined.nd)) (fun _ _ _ _ _ => jts_nil) (fun _ _ _ _ _ => (j_bin op_addA pok_add (jv 1) j_str))))))
theorem ok_row_text (fu : Nat) : FnOk P w K mg base (L2.CX P w) 1 a_row_text d_row_text P_row_text (spD K mg 1 (F_row_text fu)) := by
  refine fnT (N := N_row_text) (b := m_row_text fu) T.F_row_text sc_row_text fun cdv A outer s H E hr => ?_
  have tk : Takes (cxOf (L2.CX P w) P w K mg base N_row_text "row_text" (defScope s_row_text) a_row_text cdv A outer s H E) (fun c d _ H => E c d H) := takes_of rfl rfl rfl rfl
  exact (js_one (js_ret (j_join j_str (j_lc (own := [("value", 1)]) (sl := [1]) (by decide) rfl sc_row_text.nd (ji_seq (jv 0)) (blkOk_by (own := [("value", 1)]) (N := N_row_text) (sc := defScope s_row_text) (by decide +kernel)) (fun _ _ _ _ _ => (jgn 1 sc_row_text.nd)) (fun _ _ _ _ _ => jts_nil) (fun _ _ _ _ _ => (j_callT call_strS pok_strS (by rfl) T.z_str (by decide +kernel) (ja_cons (jv 1) ja_nil)))))))
theorem ok_book_lines (fu : Nat) : FnOk P w K mg base (L2.CX P w) 2 a_book_lines d_book_lines P_book_lines (spD K mg 1 (F_book_lines fu)) := by
  refine fnT (N := N_book_lines) (b := m_book_lines fu) T.F_book_lines sc_book_lines fun cdv A outer s H E hr => ?_
  have tk : Takes (cxOf (L2.CX P w) P w K mg base N_book_lines "book_lines" (defScope s_book_lines) a_book_lines cdv A outer s H E) (fun c d _ H => E c d H) := takes_of rfl rfl rfl rfl
  exact (js_cons (js_set (i := 1) sc_book_lines.nd rfl (by first | exact Or.inl rfl | exact Or.inr rfl) (j_lst ja_nil))
    (js_cons (js_for (passes_of rfl) rfl (ji_seq (jv 0)) (jg_tup rfl (jgs_cons (jgn 2 sc_book_lines.nd) (jgs_cons (jgn 3 sc_book_lines.nd) (jgs_cons (jgn 4 sc_book_lines.nd) jgs_nil)))) (js_one (js_set (i := 1) sc_book_lines.nd rfl (by first | exact Or.inl rfl | exact Or.inr rfl) (j_bin op_addA pok_add (j_bin op_addA pok_add (jv 1) (j_lst (ja_cons (j_js (k := 0) (jj_cons (j_fmt (jv 2)) (jj_cons j_str (jj_cons (j_fmt (jv 3)) jj_nil)))) ja_nil))) (j_lc (own := [("row", 5)]) (sl := [5]) (by decide) rfl sc_book_lines.nd (ji_seq (jv 4)) (blkOk_by (own := [("row", 5)]) (N := N_book_lines) (sc := defScope s_book_lines) (by decide +kernel)) (fun _ _ _ _ _ => (jgn 5 sc_book_lines.nd)) (fun _ _ _ _ _ => jts_nil) (fun _ _ _ _ _ => (j_call (ok_row_text T fu) (hr.mono (by decide)) (by rfl) T.g_row_text T.F_row_text.kp T.b_row_text takes0 (ja_cons (jv 5) ja_nil))))))))
    (js_one (js_ret (jv 1)))))
theorem ok_book_text (fu : Nat) : FnOk P w K mg base (L2.CX P w) 3 a_book_text d_book_text P_book_text (spD K mg 1 (F_book_text fu)) := by
  refine fnT (N := N_book_text) (b := m_book_text fu) T.F_book_text sc_book_text fun cdv A outer s H E hr => ?_
  have tk : Takes (cxOf (L2.CX P w) P w K mg base N_book_text "book_text" (defScope s_book_text) a_book_text cdv A outer s H E) (fun c d _ H => E c d H) := takes_of rfl rfl rfl rfl
  exact (js_one (js_ret (j_call (ok_joined T fu) (hr.mono (by decide)) (by rfl) T.g_joined T.F_joined.kp T.b_joined tk (ja_cons (j_call (ok_book_lines T fu) (hr.mono (by decide)) (by rfl) T.g_book_lines T.F_book_lines.kp T.b_book_lines tk (ja_cons (jv 0) ja_nil)) ja_nil))))
theorem ok_is_name (fu : Nat) : FnOk P w K mg base (L2.CX P w) 1 a_is_name d_is_name P_is_name (spD K mg 1 (F_is_name fu)) := by
  refine fnT (N := N_is_name) (b := m_is_name fu) T.F_is_name sc_is_name fun cdv A outer s H E hr => ?_
  have tk : Takes (cxOf (L2.CX P w) P w K mg base N_is_name "is_name" (defScope s_is_name) a_is_name cdv A outer s H E) (fun c d _ H => E c d H) := takes_of rfl rfl rfl rfl
  exact (js_one (js_ret (j_and (j_callB call_isi pok_isi (by rfl) T.z_isinstance (by decide +kernel) (ja_cons (jv 0) (ja_cons (j_ty (by rfl) T.z_str (by decide +kernel)) ja_nil))) (j_and (j_chain op_leA pok_le op_leA pok_le j_int (j_callB call_len pok_len (by rfl) T.z_len (by decide +kernel) (ja_cons (jv 0) ja_nil)) j_int) (j_one (j_callB (cr_all rfl) pok_all (by rfl) T.z_all (by decide +kernel) (ja_cons (j_lc (own := [("sign", 1)]) (sl := [1]) (by decide) rfl sc_is_name.nd (ji_seq (jv 0)) (blkOk_by (own := [("sign", 1)]) (N := N_is_name) (sc := defScope s_is_name) (by decide +kernel)) (fun _ _ _ _ _ => (jgn 1 sc_is_name.nd)) (fun _ _ _ _ _ => jts_nil) (fun _ _ _ _ _ => (j_chain op_leA pok_le op_leA pok_le j_str (jv 1) j_str))) ja_nil)))))))
theorem ok_are_rising (fu : Nat) : FnOk P w K mg base (L2.CX P w) 1 a_are_rising d_are_rising P_are_rising (spD K mg 1 (F_are_rising fu)) := by
  refine fnT (N := N_are_rising) (b := m_are_rising fu) T.F_are_rising sc_are_rising fun cdv A outer s H E hr => ?_
  have tk : Takes (cxOf (L2.CX P w) P w K mg base N_are_rising "are_rising" (defScope s_are_rising) a_are_rising cdv A outer s H E) (fun c d _ H => E c d H) := takes_of rfl rfl rfl rfl
  exact (js_one (js_ret (j_callB (cr_all rfl) pok_all (by rfl) T.z_all (by decide +kernel) (ja_cons (j_lc (own := [("one", 1), ("other", 2)]) (sl := [1, 2]) (by decide) rfl sc_are_rising.nd (ji_zip (by rfl) T.z_zip (ja_cons (jv 0) (ja_cons (j_slice (jv 0) (jo_some j_int) jo_none) ja_nil))) (blkOk_by (own := [("one", 1), ("other", 2)]) (N := N_are_rising) (sc := defScope s_are_rising) (by decide +kernel)) (fun _ _ _ _ _ => (jg_tup rfl (jgs_cons (jgn 1 sc_are_rising.nd) (jgs_cons (jgn 2 sc_are_rising.nd) jgs_nil)))) (fun _ _ _ _ _ => jts_nil) (fun _ _ _ _ _ => (j_cmp (op_ltU (room65 hr)) pok_ltU (nomark _) (jv 1) (jv 2)))) ja_nil))))
theorem ok_is_whole (fu : Nat) : FnOk P w K mg base (L2.CX P w) 1 a_is_whole d_is_whole P_is_whole (spD K mg 1 (F_is_whole fu)) := by
  refine fnT (N := N_is_whole) (b := m_is_whole fu) T.F_is_whole sc_is_whole fun cdv A outer s H E hr => ?_
  have tk : Takes (cxOf (L2.CX P w) P w K mg base N_is_whole "is_whole" (defScope s_is_whole) a_is_whole cdv A outer s H E) (fun c d _ H => E c d H) := takes_of rfl rfl rfl rfl
  exact (js_one (js_ret (j_and (j_callB call_isi pok_isi (by rfl) T.z_isinstance (by decide +kernel) (ja_cons (jv 0) (ja_cons (j_ty (by rfl) T.z_int (by decide +kernel)) ja_nil))) (j_one (j_not (j_callB call_isi pok_isi (by rfl) T.z_isinstance (by decide +kernel) (ja_cons (jv 0) (ja_cons (j_ty (by rfl) T.z_bool (by decide +kernel)) ja_nil))))))))
theorem ok_is_value (fu : Nat) : FnOk P w K mg base (L2.CX P w) 2 a_is_value d_is_value P_is_value (spD K mg 1 (F_is_value fu)) := by
  refine fnT (N := N_is_value) (b := m_is_value fu) T.F_is_value sc_is_value fun cdv A outer s H E hr => ?_
  have tk : Takes (cxOf (L2.CX P w) P w K mg base N_is_value "is_value" (defScope s_is_value) a_is_value cdv A outer s H E) (fun c d _ H => E c d H) := takes_of rfl rfl rfl rfl
  exact (js_one (js_ret (j_and (j_call (ok_is_whole T fu) (hr.mono (by decide)) (by rfl) T.g_is_whole T.F_is_whole.kp T.b_is_whole tk (ja_cons (jv 0) ja_nil)) (j_one (j_chain op_leA pok_le op_leA pok_le (j_un un_neg pok_neg (j_globI (by rfl) T.k_MOST)) (jv 0) (j_globI (by rfl) T.k_MOST))))))
theorem ok_is_row (fu : Nat) : FnOk P w K mg base (L2.CX P w) 3 a_is_row d_is_row P_is_row (spD K mg 2 (F_is_row fu)) := by
  refine fnT (N := N_is_row) (b := m_is_row fu) T.F_is_row sc_is_row fun cdv A outer s H E hr => ?_
  have tk : Takes (cxOf (L2.CX P w) P w K mg base N_is_row "is_row" (defScope s_is_row) a_is_row cdv A outer s H E) (fun c d _ H => E c d H) := takes_of rfl rfl rfl rfl
  exact (js_one (js_ret (j_and (j_callB call_isi pok_isi (by rfl) T.z_isinstance (by decide +kernel) (ja_cons (jv 0) (ja_cons (j_ty (by rfl) T.z_tuple (by decide +kernel)) ja_nil))) (j_and (j_cmp (op_eqA hr.units) pok_eq (nomark _) (j_callB call_len pok_len (by rfl) T.z_len (by decide +kernel) (ja_cons (jv 0) ja_nil)) (jv 1)) (j_one (j_callB (cr_all rfl) pok_all (by rfl) T.z_all (by decide +kernel) (ja_cons (j_lc (own := [("one", 2)]) (sl := [2]) (by decide) rfl sc_is_row.nd (ji_seq (jv 0)) (blkOk_by (own := [("one", 2)]) (N := N_is_row) (sc := defScope s_is_row) (by decide +kernel)) (fun _ _ _ _ _ => (jgn 2 sc_is_row.nd)) (fun _ _ _ _ _ => jts_nil) (fun _ _ _ _ _ => (j_call (ok_is_value T fu) (hr.mono (by decide)) (by rfl) T.g_is_value T.F_is_value.kp T.b_is_value takes0 (ja_cons (jv 2) ja_nil)))) ja_nil)))))))
theorem ok_is_book (fu : Nat) : FnOk P w K mg base (L2.CX P w) 4 a_is_book d_is_book P_is_book (spD K mg 1 (F_is_book fu)) := by
  refine fnT (N := N_is_book) (b := m_is_book fu) T.F_is_book sc_is_book fun cdv A outer s H E hr => ?_
  have tk : Takes (cxOf (L2.CX P w) P w K mg base N_is_book "is_book" (defScope s_is_book) a_is_book cdv A outer s H E) (fun c d _ H => E c d H) := takes_of rfl rfl rfl rfl
  exact (js_cons (js_if (jw_pt (jw_or (jt_not (jt_tru (j_callB call_isi pok_isi (by rfl) T.z_isinstance (by decide +kernel) (ja_cons (jv 0) (ja_cons (j_ty (by rfl) T.z_tuple (by decide +kernel)) ja_nil))))) (jw_or1 (jt_not (jt_tru (j_callB (cr_all rfl) pok_all (by rfl) T.z_all (by decide +kernel) (ja_cons (j_lc (own := [("one", 4)]) (sl := [4]) (by decide) rfl sc_is_book.nd (ji_seq (jv 0)) (blkOk_by (own := [("one", 4)]) (N := N_is_book) (sc := defScope s_is_book) (by decide +kernel)) (fun _ _ _ _ _ => (jgn 4 sc_is_book.nd)) (fun _ _ _ _ _ => jts_nil) (fun _ _ _ _ _ => (j_and (j_callB call_isi pok_isi (by rfl) T.z_isinstance (by decide +kernel) (ja_cons (jv 4) (ja_cons (j_ty (by rfl) T.z_tuple (by decide +kernel)) ja_nil))) (j_one (j_cmp (op_eqA hr.units) pok_eq (nomark _) (j_callB call_len pok_len (by rfl) T.z_len (by decide +kernel) (ja_cons (jv 4) ja_nil)) j_int))))) ja_nil))))))) (js_one (js_ret j_bl)) js_nil)
    (js_cons (js_for (passes_of rfl) rfl (ji_seq (jv 0)) (jg_tup rfl (jgs_cons (jgn 1 sc_is_book.nd) (jgs_cons (jgn 2 sc_is_book.nd) (jgs_cons (jgn 3 sc_is_book.nd) jgs_nil)))) (js_cons (js_if (jw_pt (jw_or (jt_not (jt_tru (j_call (ok_is_name T fu) (hr.mono (by decide)) (by rfl) T.g_is_name T.F_is_name.kp T.b_is_name tk (ja_cons (jv 1) ja_nil)))) (jw_or (jt_not (jt_tru (j_call (ok_is_whole T fu) (hr.mono (by decide)) (by rfl) T.g_is_whole T.F_is_whole.kp T.b_is_whole tk (ja_cons (jv 2) ja_nil)))) (jw_or (jt_not (jt_chain op_leA pok_le op_leA pok_le j_int (jv 2) j_int)) (jw_or1 (jt_not (jt_tru (j_callB call_isi pok_isi (by rfl) T.z_isinstance (by decide +kernel) (ja_cons (jv 3) (ja_cons (j_ty (by rfl) T.z_tuple (by decide +kernel)) ja_nil)))))))))) (js_one (js_ret j_bl)) js_nil)
    (js_one (js_if (jw_pt (jw_or (jt_not (jt_tru (j_callB (cr_all rfl) pok_all (by rfl) T.z_all (by decide +kernel) (ja_cons (j_lc (own := [("row", 5)]) (sl := [5]) (by decide) rfl sc_is_book.nd (ji_seq (jv 3)) (blkOk_by (own := [("row", 5)]) (N := N_is_book) (sc := defScope s_is_book) (by decide +kernel)) (fun _ _ _ _ _ => (jgn 5 sc_is_book.nd)) (fun _ _ _ _ _ => jts_nil) (fun _ _ _ _ _ => (j_call (ok_is_row T fu) (hr.mono (by decide)) (by rfl) T.g_is_row T.F_is_row.kp T.b_is_row takes0 (ja_cons (jv 5) (ja_cons (jv 2) ja_nil))))) ja_nil)))) (jw_or1 (jt_not (jt_tru (j_call (ok_are_rising T fu) (hr.mono (by decide)) (by rfl) T.g_are_rising T.F_are_rising.kp T.b_are_rising tk (ja_cons (jv 3) ja_nil))))))) (js_one (js_ret j_bl)) js_nil))))
    (js_one (js_ret (j_call (ok_are_rising T fu) (hr.mono (by decide)) (by rfl) T.g_are_rising T.F_are_rising.kp T.b_are_rising tk (ja_cons (j_lc (own := [("one", 4)]) (sl := [4]) (by decide) rfl sc_is_book.nd (ji_seq (jv 0)) (blkOk_by (own := [("one", 4)]) (N := N_is_book) (sc := defScope s_is_book) (by decide +kernel)) (fun _ _ _ _ _ => (jgn 4 sc_is_book.nd)) (fun _ _ _ _ _ => jts_nil) (fun _ _ _ _ _ => (j_ix ix_seq pok_ix (fun _ _ => rfl) (jv 4) j_int))) ja_nil))))))
theorem ok_value_in (fu : Nat) : FnOk P w K mg base (L2.CX P w) 1 a_value_in d_value_in P_value_in (spD K mg 1 (F_value_in fu)) := by
  refine fnT (N := N_value_in) (b := m_value_in fu) T.F_value_in sc_value_in fun cdv A outer s H E hr => ?_
  have tk : Takes (cxOf (L2.CX P w) P w K mg base N_value_in "value_in" (defScope s_value_in) a_value_in cdv A outer s H E) (fun c d _ H => E c d H) := takes_of rfl rfl rfl rfl
  exact (js_cons (js_set (i := 1) sc_value_in.nd rfl (by first | exact Or.inl rfl | exact Or.inr rfl) (j_if (jt_cmp (op_eqA hr.units) pok_eq (nomark _) (j_sliceW (jv 0) jo_none (jo_some j_int)) j_str) (j_sliceW (jv 0) (jo_some j_int) jo_none) (jv 0)))
    (js_cons (js_if (jw_pt (jw_or (jt_not (jt_chain op_leA pok_le op_leA pok_le j_int (j_callB call_len pok_len (by rfl) T.z_len (by decide +kernel) (ja_cons (jv 1) ja_nil)) j_int)) (jw_or (jt_not (jt_tru (j_callB (cr_all rfl) pok_all (by rfl) T.z_all (by decide +kernel) (ja_cons (j_lc (own := [("sign", 2)]) (sl := [2]) (by decide) rfl sc_value_in.nd (ji_seq (jv 1)) (blkOk_by (own := [("sign", 2)]) (N := N_value_in) (sc := defScope s_value_in) (by decide +kernel)) (fun _ _ _ _ _ => (jgn 2 sc_value_in.nd)) (fun _ _ _ _ _ => jts_nil) (fun _ _ _ _ _ => (j_chain op_leA pok_le op_leA pok_le j_str (jv 2) j_str))) ja_nil)))) (jw_or1 (jt_cmp (op_neA hr.units) pok_ne (nomark _) (j_callT call_strS pok_strS (by rfl) T.z_str (by decide +kernel) (ja_cons (j_callT call_intS pok_intS (by rfl) T.z_int (by decide +kernel) (ja_cons (jv 0) ja_nil)) ja_nil)) (jv 0)))))) (js_one (js_raiseX T.x_NoText rfl tk (by rfl))) js_nil)
    (js_one (js_ret (j_callT call_intS pok_intS (by rfl) T.z_int (by decide +kernel) (ja_cons (jv 0) ja_nil))))))
theorem ok_row_in (fu : Nat) : FnOk P w K mg base (L2.CX P w) 2 a_row_in d_row_in P_row_in (spD K mg 1 (F_row_in fu)) := by
  refine fnT (N := N_row_in) (b := m_row_in fu) T.F_row_in sc_row_in fun cdv A outer s H E hr => ?_
  have tk : Takes (cxOf (L2.CX P w) P w K mg base N_row_in "row_in" (defScope s_row_in) a_row_in cdv A outer s H E) (fun c d _ H => E c d H) := takes_of rfl rfl rfl rfl
  exact (js_one (js_ret (j_callT call_tuple_of pok_tup (by rfl) T.z_tuple (by decide +kernel) (ja_cons (j_lcE rfl rfl tk (own := [("word", 1)]) (sl := [1]) (by decide) rfl sc_row_in.nd (ji_seq (jv 0)) (blkOk_by (own := [("word", 1)]) (N := N_row_in) (sc := defScope s_row_in) (by decide +kernel)) (fun _ _ _ _ _ _ => (jgn 1 sc_row_in.nd)) (fun _ _ _ _ _ _ _ tk => jts_nil) (fun _ _ _ _ _ _ _ tk => (j_call (ok_value_in T fu) (hr.mono (by decide)) (by rfl) T.g_value_in T.F_value_in.kp T.b_value_in tk (ja_cons (jv 1) ja_nil)))) ja_nil))))
theorem ok_book_in (fu : Nat) : FnOk P w K mg base (L2.CX P w) 5 a_book_in d_book_in P_book_in (spD K mg 1 (F_book_in fu)) := by
  refine fnT (N := N_book_in) (b := m_book_in fu) T.F_book_in sc_book_in fun cdv A outer s H E hr => ?_
  have tk : Takes (cxOf (L2.CX P w) P w K mg base N_book_in "book_in" (defScope s_book_in) a_book_in cdv A outer s H E) (fun c d _ H => E c d H) := takes_of rfl rfl rfl rfl
  exact (js_cons (js_set (i := 1) sc_book_in.nd rfl (by first | exact Or.inl rfl | exact Or.inr rfl) (j_newL ja_nil))
    (js_cons (js_for (passes_of rfl) rfl (ji_seq (jv 0)) (jgn 2 sc_book_in.nd) (js_cons (js_set (i := 3) sc_book_in.nd rfl (by first | exact Or.inl rfl | exact Or.inr rfl) (j_split (jv 2) j_str))
    (js_one (js_if (jt_tru (j_call (ok_is_name T fu) (hr.mono (by decide)) (by rfl) T.g_is_name T.F_is_name.kp T.b_is_name tk (ja_cons (j_ix ix_seq pok_ix (fun _ _ => rfl) (jv 3) j_int) ja_nil))) (js_cons (js_if (jt_cmp (op_neA hr.units) pok_ne (nomark _) (j_callB call_len pok_len (by rfl) T.z_len (by decide +kernel) (ja_cons (jv 3) ja_nil)) j_int) (js_one (js_raiseX T.x_NoText rfl tk (by rfl))) js_nil)
    (js_one (js_drop (j_append (jv 1) (j_tup (ja_cons (j_ix ix_seq pok_ix (fun _ _ => rfl) (jv 3) j_int) (ja_cons (j_call (ok_value_in T fu) (hr.mono (by decide)) (by rfl) T.g_value_in T.F_value_in.kp T.b_value_in tk (ja_cons (j_ix ix_seq pok_ix (fun _ _ => rfl) (jv 3) j_int) ja_nil)) (ja_cons (j_tup ja_nil) ja_nil)))))))) (js_one (js_if (jt_not (jt_tru (jv 1))) (js_one (js_raiseX T.x_NoText rfl tk (by rfl))) (js_cons (js_asg (j_ix ix_seq pok_ix (fun _ _ => rfl) (jv 1) (j_un un_neg pok_neg j_int)) (jg_tup rfl (jgs_cons (jgn 4 sc_book_in.nd) (jgs_cons (jgn 5 sc_book_in.nd) (jgs_cons (jgn 6 sc_book_in.nd) jgs_nil)))))
    (js_one (js_setIx (j_tup (ja_cons (jv 4) (ja_cons (jv 5) (ja_cons (j_bin op_addA pok_add (jv 6) (j_tup (ja_cons (j_call (ok_row_in T fu) (hr.mono (by decide)) (by rfl) T.g_row_in T.F_row_in.kp T.b_row_in tk (ja_cons (jv 3) ja_nil)) ja_nil))) ja_nil)))) (jv 1) (j_un un_neg pok_neg j_int))))))))))
    (js_cons (js_if (jt_not (jt_tru (j_call (ok_is_book T fu) (hr.mono (by decide)) (by rfl) T.g_is_book T.F_is_book.kp T.b_is_book tk (ja_cons (j_callT call_tuple_of pok_tup (by rfl) T.z_tuple (by decide +kernel) (ja_cons (jv 1) ja_nil)) ja_nil)))) (js_one (js_raiseX T.x_NoText rfl tk (by rfl))) js_nil)
    (js_one (js_ret (j_callT call_tuple_of pok_tup (by rfl) T.z_tuple (by decide +kernel) (ja_cons (jv 1) ja_nil)))))))
theorem ok_lines_of (fu : Nat) : FnOk P w K mg base (L2.CX P w) 1 a_lines_of d_lines_of P_lines_of (spD K mg 1 (F_lines_of fu)) := by
  refine fnT (N := N_lines_of) (b := m_lines_of fu) T.F_lines_of sc_lines_of fun cdv A outer s H E hr => ?_
  have tk : Takes (cxOf (L2.CX P w) P w K mg base N_lines_of "lines_of" (defScope s_lines_of) a_lines_of cdv A outer s H E) (fun c d _ H => E c d H) := takes_of rfl rfl rfl rfl
  exact (js_cons (js_starF (j_split (jv 0) j_str) rfl (jgn 1 sc_lines_of.nd) sc_lines_of.nd rfl (by first | exact Or.inl rfl | exact Or.inr rfl))
    (js_cons (js_if (jt_cmp (op_neA hr.units) pok_ne (nomark _) (jv 1) j_str) (js_one (js_raiseX T.x_NoText rfl tk (by rfl))) js_nil)
    (js_one (js_ret (jv 2)))))
theorem ok_read_book (fu : Nat) : FnOk P w K mg base (L2.CX P w) 6 a_read_book d_read_book P_read_book (spD K mg 1 (F_read_book fu)) := by
  refine fnT (N := N_read_book) (b := m_read_book fu) T.F_read_book sc_read_book fun cdv A outer s H E hr => ?_
  have tk : Takes (cxOf (L2.CX P w) P w K mg base N_read_book "read_book" (defScope s_read_book) a_read_book cdv A outer s H E) (fun c d _ H => E c d H) := takes_of rfl rfl rfl rfl
  exact (js_one (js_ret (j_call (ok_book_in T fu) (hr.mono (by decide)) (by rfl) T.g_book_in T.F_book_in.kp T.b_book_in tk (ja_cons (j_call (ok_lines_of T fu) (hr.mono (by decide)) (by rfl) T.g_lines_of T.F_lines_of.kp T.b_lines_of tk (ja_cons (jv 0) ja_nil)) ja_nil))))
theorem ok__law_told (fu : Nat) : FnOk P w K mg base (L2.CX P w) 7 a__law_told d__law_told P__law_told (spD K mg 1 (F__law_told fu)) := by
  refine fnT (N := N__law_told) (b := m__law_told fu) T.F__law_told sc__law_told fun cdv A outer s H E hr => ?_
  have tk : Takes (cxOf (L2.CX P w) P w K mg base N__law_told "_law_told" (defScope s__law_told) a__law_told cdv A outer s H E) (fun c d _ H => E c d H) := takes_of rfl rfl rfl rfl
  exact (js_cons (js_set (i := 1) sc__law_told.nd rfl (by first | exact Or.inl rfl | exact Or.inr rfl) j_non)
    (js_cons (js_tryX T.x_NoText rfl rfl (by rfl) tk (fun W pn xe tk => (js_one (js_set (i := 1) sc__law_told.nd rfl (by first | exact Or.inl rfl | exact Or.inr rfl) (j_call (ok_read_book T fu) (hr.mono (by decide)) (by rfl) T.g_read_book T.F_read_book.kp T.b_read_book tk (ja_cons (jv 0) ja_nil))))) (fun a pn => (js_one (js_set (i := 1) sc__law_told.nd rfl (by first | exact Or.inl rfl | exact Or.inr rfl) j_str))))
    (js_one (js_ret (jv 1)))))
theorem ok__law_or_refused (fu : Nat) : FnOk P w K mg base (L2.CX P w) 1 a__law_or_refused d__law_or_refused P__law_or_refused (spD K mg 1 (F__law_or_refused fu)) := by
  refine fnT (N := N__law_or_refused) (b := m__law_or_refused fu) T.F__law_or_refused sc__law_or_refused fun cdv A outer s H E hr => ?_
  have tk : Takes (cxOf (L2.CX P w) P w K mg base N__law_or_refused "_law_or_refused" (defScope s__law_or_refused) a__law_or_refused cdv A outer s H E) (fun c d _ H => E c d H) := takes_of rfl rfl rfl rfl
  exact (js_one (js_ret (j_if (jt_cmp op_isN pok_isN (nomark _) (jv 0) j_non) j_str (jv 0))))
theorem ok__law_number (fu : Nat) : FnOk P w K mg base (L2.CX P w) 1 a__law_number d__law_number P__law_number (spD K mg 1 (F__law_number fu)) := by
  refine fnT (N := N__law_number) (b := m__law_number fu) T.F__law_number sc__law_number fun cdv A outer s H E hr => ?_
  have tk : Takes (cxOf (L2.CX P w) P w K mg base N__law_number "_law_number" (defScope s__law_number) a__law_number cdv A outer s H E) (fun c d _ H => E c d H) := takes_of rfl rfl rfl rfl
  exact (js_cons (js_set (i := 1) sc__law_number.nd rfl (by first | exact Or.inl rfl | exact Or.inr rfl) (j_if (jt_cmp (op_eqA hr.units) pok_eq (nomark _) (j_sliceW (jv 0) jo_none (jo_some j_int)) j_str) (j_sliceW (jv 0) (jo_some j_int) jo_none) (jv 0)))
    (js_cons (js_if (jw_pt (jw_or (jt_not (jt_chain op_ltA pok_lt op_ltA pok_lt j_int (j_callB call_len pok_len (by rfl) T.z_len (by decide +kernel) (ja_cons (jv 1) ja_nil)) j_int)) (jw_or1 (jt_tru (j_lc (own := [("sign", 2)]) (sl := [2]) (by decide) rfl sc__law_number.nd (ji_seq (jv 1)) (blkOk_by (own := [("sign", 2)]) (N := N__law_number) (sc := defScope s__law_number) (by decide +kernel)) (fun _ _ _ _ _ => (jgn 2 sc__law_number.nd)) (fun _ _ _ _ _ => (jts_one (jt_not (jt_chain op_leA pok_le op_leA pok_le j_str (jv 2) j_str)))) (fun _ _ _ _ _ => (jv 2))))))) (js_one (js_ret j_non)) js_nil)
    (js_one (js_ret (j_if (jt_cmp (op_eqA hr.units) pok_eq (nomark _) (j_callT call_strS pok_strS (by rfl) T.z_str (by decide +kernel) (ja_cons (j_callT call_intS pok_intS (by rfl) T.z_int (by decide +kernel) (ja_cons (jv 0) ja_nil)) ja_nil)) (jv 0)) (j_callT call_intS pok_intS (by rfl) T.z_int (by decide +kernel) (ja_cons (jv 0) ja_nil)) j_non)))))
theorem ok__law_read (fu : Nat) : FnOk P w K mg base (L2.CX P w) 5 a__law_read d__law_read P__law_read (spD K mg 1 (F__law_read fu)) := by
  refine fnT (N := N__law_read) (b := m__law_read fu) T.F__law_read sc__law_read fun cdv A outer s H E hr => ?_
  have tk : Takes (cxOf (L2.CX P w) P w K mg base N__law_read "_law_read" (defScope s__law_read) a__law_read cdv A outer s H E) (fun c d _ H => E c d H) := takes_of rfl rfl rfl rfl
  exact (js_cons (js_par (i := 2) (j := 3) rfl sc__law_read.nd rfl rfl (by decide) rfl rfl (ja_cons (j_split (jv 0) j_str) (ja_cons (j_newL ja_nil) ja_nil)) (by rfl))
    (js_cons (js_for (passes_of rfl) rfl (ji_seq (j_sliceW (jv 2) jo_none (jo_some (j_un un_neg pok_neg j_int)))) (jgn 1 sc__law_read.nd) (js_cons (js_set (i := 4) sc__law_read.nd rfl (by first | exact Or.inl rfl | exact Or.inr rfl) (j_split (jv 1) j_str))
    (js_one (js_if (jw_pt (jw_and (jt_cmp (op_eqA hr.units) pok_eq (nomark _) (j_lc (own := [("sign", 6)]) (sl := [6]) (by decide) rfl sc__law_read.nd (ji_seq (j_ix ix_seq pok_ix (fun _ _ => rfl) (jv 4) j_int)) (blkOk_by (own := [("sign", 6)]) (N := N__law_read) (sc := defScope s__law_read) (by decide +kernel)) (fun _ _ _ _ _ => (jgn 6 sc__law_read.nd)) (fun _ _ _ _ _ => (jts_one (jt_not (jt_chain op_leA pok_le op_leA pok_le j_str (jv 6) j_str)))) (fun _ _ _ _ _ => (jv 6))) (j_lst ja_nil)) (jw_and1 (jt_cmp (op_neA hr.units) pok_ne (nomark _) (j_ix ix_seq pok_ix (fun _ _ => rfl) (jv 4) j_int) j_str)))) (js_cons (js_if (jw_pt (jw_or (jt_cmp (op_neA hr.units) pok_ne (nomark _) (j_callB call_len pok_len (by rfl) T.z_len (by decide +kernel) (ja_cons (jv 4) ja_nil)) j_int) (jw_or1 (jt_cmp op_isN pok_isN (nomark _) (j_call (ok__law_number T fu) (hr.mono (by decide)) (by rfl) T.g__law_number T.F__law_number.kp T.b__law_number tk (ja_cons (j_ix ix_seq pok_ix (fun _ _ => rfl) (jv 4) j_int) ja_nil)) j_non)))) (js_one (js_ret j_non)) js_nil)
    (js_one (js_drop (j_append (jv 3) (j_tup (ja_cons (j_ix ix_seq pok_ix (fun _ _ => rfl) (jv 4) j_int) (ja_cons (j_call (ok__law_number T fu) (hr.mono (by decide)) (by rfl) T.g__law_number T.F__law_number.kp T.b__law_number tk (ja_cons (j_ix ix_seq pok_ix (fun _ _ => rfl) (jv 4) j_int) ja_nil)) (ja_cons (j_tup ja_nil) ja_nil)))))))) (js_cons (js_set (i := 5) sc__law_read.nd rfl (by first | exact Or.inl rfl | exact Or.inr rfl) (j_callT call_tuple_of pok_tup (by rfl) T.z_tuple (by decide +kernel) (ja_cons (j_lc (own := [("word", 7)]) (sl := [7]) (by decide) rfl sc__law_read.nd (ji_seq (jv 4)) (blkOk_by (own := [("word", 7)]) (N := N__law_read) (sc := defScope s__law_read) (by decide +kernel)) (fun _ _ _ _ _ => (jgn 7 sc__law_read.nd)) (fun _ _ _ _ _ => jts_nil) (fun _ _ _ _ _ => (j_call (ok__law_number T fu) (hr.mono (by decide)) (by rfl) T.g__law_number T.F__law_number.kp T.b__law_number takes0 (ja_cons (jv 7) ja_nil)))) ja_nil)))
    (js_cons (js_if (jw_pt (jw_or (jt_not (jt_tru (jv 3))) (jw_or1 (jt_cmp (op_inT (room65 hr)) pok_inT (by rfl) j_non (jv 5))))) (js_one (js_ret j_non)) js_nil)
    (js_one (js_setIx (j_bin op_addA pok_add (j_sliceW (j_ix ix_seq pok_ix (fun _ _ => rfl) (jv 3) (j_un un_neg pok_neg j_int)) jo_none (jo_some j_int)) (j_tup (ja_cons (j_bin op_addA pok_add (j_ix ix_seq pok_ix (fun _ _ => rfl) (j_ix ix_seq pok_ix (fun _ _ => rfl) (jv 3) (j_un un_neg pok_neg j_int)) j_int) (j_tup (ja_cons (jv 5) ja_nil))) ja_nil))) (jv 3) (j_un un_neg pok_neg j_int)))))))))
    (js_one (js_ret (j_if (jw_pt (jw_and (jt_cmp (op_eqA hr.units) pok_eq (nomark _) (j_ix ix_seq pok_ix (fun _ _ => rfl) (jv 2) (j_un un_neg pok_neg j_int)) j_str) (jw_and1 (jt_tru (j_call (ok_is_book T fu) (hr.mono (by decide)) (by rfl) T.g_is_book T.F_is_book.kp T.b_is_book tk (ja_cons (j_callT call_tuple_of pok_tup (by rfl) T.z_tuple (by decide +kernel) (ja_cons (jv 3) ja_nil)) ja_nil)))))) (j_callT call_tuple_of pok_tup (by rfl) T.z_tuple (by decide +kernel) (ja_cons (jv 3) ja_nil)) j_non)))))
theorem ok_law (fu : Nat) : FnOk P w K mg base (L2.CX P w) 8 a_law d_law P_law (spD K mg 1 (F_law fu)) := by
  refine fnT (N := N_law) (b := m_law fu) T.F_law sc_law fun cdv A outer s H E hr => ?_
  have tk : Takes (cxOf (L2.CX P w) P w K mg base N_law "law" (defScope s_law) a_law cdv A outer s H E) (fun c d _ H => E c d H) := takes_of rfl rfl rfl rfl
  exact (js_cons (js_set (i := 1) sc_law.nd rfl (by first | exact Or.inl rfl | exact Or.inr rfl) (j_newL ja_nil))
    (js_cons (js_set (i := 2) sc_law.nd rfl (by first | exact Or.inl rfl | exact Or.inr rfl) (j_lst (ja_cons j_str (ja_cons j_str (ja_cons j_str (ja_cons j_str (ja_cons j_str (ja_cons j_str (ja_cons j_str (ja_cons j_str (ja_cons j_str (ja_cons j_str (ja_cons j_str (ja_cons j_str (ja_cons j_str (ja_cons j_str (ja_cons j_str (ja_cons j_str (ja_cons j_str ja_nil)))))))))))))))))))
    (js_cons (js_for (passes_of rfl) rfl (ji_rng1 (by rfl) T.z_range (ja_cons j_int ja_nil)) (jgn 3 sc_law.nd) (js_cons (js_set (i := 4) sc_law.nd rfl (by first | exact Or.inl rfl | exact Or.inr rfl) (j_call (ok__law_drawn_book T fu) (hr.mono (by decide)) (by rfl) T.g__law_drawn_book T.F__law_drawn_book.kp T.b__law_drawn_book tk (ja_cons (jv 0) (ja_cons (jv 1) (ja_cons j_int (ja_cons j_int ja_nil))))))
    (js_cons (js_set (i := 5) sc_law.nd rfl (by first | exact Or.inl rfl | exact Or.inr rfl) j_str)
    (js_cons (js_for (passes_of rfl) rfl (ji_seq (jv 4)) (jg_tup rfl (jgs_cons (jgn 8 sc_law.nd) (jgs_cons (jgn 9 sc_law.nd) (jgs_cons (jgn 10 sc_law.nd) jgs_nil)))) (js_cons (js_set (i := 5) sc_law.nd rfl (by first | exact Or.inl rfl | exact Or.inr rfl) (j_bin op_addA pok_add (j_bin op_addA pok_add (j_bin op_addA pok_add (j_bin op_addA pok_add (jv 5) (jv 8)) j_str) (j_callT call_strS pok_strS (by rfl) T.z_str (by decide +kernel) (ja_cons (jv 9) ja_nil))) j_str))
    (js_one (js_for (passes_of rfl) rfl (ji_seq (jv 10)) (jgn 11 sc_law.nd) (js_one (js_set (i := 5) sc_law.nd rfl (by first | exact Or.inl rfl | exact Or.inr rfl) (j_bin op_addA pok_add (j_bin op_addA pok_add (jv 5) (j_join j_str (j_lc (own := [("value", 13)]) (sl := [13]) (by decide) rfl sc_law.nd (ji_seq (jv 11)) (blkOk_by (own := [("value", 13)]) (N := N_law) (sc := defScope s_law) (by decide +kernel)) (fun _ _ _ _ _ => (jgn 13 sc_law.nd)) (fun _ _ _ _ _ => jts_nil) (fun _ _ _ _ _ => (j_callT call_strS pok_strS (by rfl) T.z_str (by decide +kernel) (ja_cons (jv 13) ja_nil)))))) j_str)))))))
    (js_cons (js_if (jw_pt (jw_or (jt_not (jt_tru (j_call (ok__law_same T fu 5) (hr.mono (by decide)) (by rfl) T.g__law_same T.F__law_same.kp T.b__law_same tk (ja_cons (j_call (ok_book_text T fu) (hr.mono (by decide)) (by rfl) T.g_book_text T.F_book_text.kp T.b_book_text tk (ja_cons (jv 4) ja_nil)) (ja_cons (jv 5) ja_nil))))) (jw_or1 (jt_not (jt_tru (j_call (ok__law_same T fu 5) (hr.mono (by decide)) (by rfl) T.g__law_same T.F__law_same.kp T.b__law_same tk (ja_cons (j_call (ok__law_told T fu) (hr.mono (by decide)) (by rfl) T.g__law_told T.F__law_told.kp T.b__law_told tk (ja_cons (jv 5) ja_nil)) (ja_cons (jv 4) ja_nil)))))))) (js_one (js_ret j_bl)) js_nil)
    (js_cons (js_set (i := 6) sc_law.nd rfl (by first | exact Or.inl rfl | exact Or.inr rfl) (j_binN op_addA pok_catN (j_lc (own := [("j", 12)]) (sl := [12]) (by decide) rfl sc_law.nd (ji_rng1 (by rfl) T.z_range (ja_cons j_int ja_nil)) (blkOk_by (own := [("j", 12)]) (N := N_law) (sc := defScope s_law) (by decide +kernel)) (fun _ _ _ _ _ => (jgn 12 sc_law.nd)) (fun _ _ _ _ _ => jts_nil) (fun _ _ _ _ _ => (j_call (ok__law_row_spoilt T fu) (hr.mono (by decide)) (by rfl) T.g__law_row_spoilt T.F__law_row_spoilt.kp T.b__law_row_spoilt takes0 (ja_cons (jv 0) (ja_cons (jv 1) (ja_cons (jv 5) (ja_cons (jv 2) ja_nil))))))) (j_lst (ja_cons j_str (ja_cons j_str (ja_cons (j_sliceW (jv 5) jo_none (jo_some (j_un un_neg pok_neg j_int))) (ja_cons (j_bin op_addA pok_add (jv 5) j_str) ja_nil)))))))
    (js_cons (js_set (i := 6) sc_law.nd rfl (by first | exact Or.inl rfl | exact Or.inr rfl) (j_binN op_addA pok_catN (jv 6) (j_lst (ja_cons j_str (ja_cons j_str (ja_cons j_str (ja_cons j_str (ja_cons j_str (ja_cons j_str (ja_cons j_str ja_nil))))))))))
    (js_cons (js_set (i := 6) sc_law.nd rfl (by first | exact Or.inl rfl | exact Or.inr rfl) (j_binN op_addA pok_catN (jv 6) (j_lst (ja_cons j_str (ja_cons j_str ja_nil)))))
    (js_one (js_for (passes_of rfl) rfl (ji_seq (j_bin op_addA pok_addL (jv 6) (j_lst (ja_cons j_str (ja_cons j_str (ja_cons j_str (ja_cons (j_bin op_addA pok_add (jv 5) (jv 5)) ja_nil))))))) (jgn 7 sc_law.nd) (js_one (js_if (jt_not (jt_tru (j_call (ok__law_same T fu 5) (hr.mono (by decide)) (by rfl) T.g__law_same T.F__law_same.kp T.b__law_same tk (ja_cons (j_call (ok__law_told T fu) (hr.mono (by decide)) (by rfl) T.g__law_told T.F__law_told.kp T.b__law_told tk (ja_cons (jv 7) ja_nil)) (ja_cons (j_call (ok__law_or_refused T fu) (hr.mono (by decide)) (by rfl) T.g__law_or_refused T.F__law_or_refused.kp T.b__law_or_refused tk (ja_cons (j_call (ok__law_read T fu) (hr.mono (by decide)) (by rfl) T.g__law_read T.F__law_read.kp T.b__law_read tk (ja_cons (jv 7) ja_nil)) ja_nil)) ja_nil))))) (js_one (js_ret j_bl)) js_nil))))))))))))
    (js_one (js_ret j_bl)))))
end
end Law
namespace Tq
open TL
theorem spl_ne (S : List Nat) : ∀ (k : Nat) (acc l : List Nat), spl S k acc l ≠ []
  | k, acc, [] => by rw [spl_nil]; simp
  | 0, acc, c :: r => by
    cases h : pre S (c :: r) with
    | true => rw [spl_hit h]; simp
    | false => rw [spl_miss h]; exact spl_ne S 0 _ r
  | k + 1, acc, c :: r => spl_ne S k acc r
theorem joinL_cons (S p : List Nat) {l : List (List Nat)} (h : l ≠ []) : joinL S (p :: l) = p ++ (S ++ joinL S l) := by
  cases l with
  | nil => exact absurd rfl h
  | cons q l => rfl
theorem join_spl {S : List Nat} (hS : S ≠ []) : ∀ (n : Nat) (acc l : List Nat), l.length ≤ n → joinL S (spl S 0 acc l) = acc ++ l
  | n, acc, [], _ => by rw [spl_nil, List.append_nil]; rfl
  | 0, acc, c :: r, h => by simp at h
  | n + 1, acc, c :: r, h => by
    rw [List.length_cons] at h
    cases hp : pre S (c :: r) with
    | false =>
      rw [spl_miss hp, join_spl hS n (acc ++ [c]) r (by omega), List.append_assoc]
      rfl
    | true =>
      rw [spl_hit hp, joinL_cons S acc (spl_ne S _ _ _), spl_pass, join_spl hS n [] _ (by rw [List.length_drop]; omega), List.nil_append]
      congr 1
      have ht : (c :: r).take S.length = S := by
        unfold pre at hp
        exact eq_of_beq hp
      obtain ⟨s, S', rfl⟩ : ∃ s S', S = s :: S' := by
        cases S with
        | nil => exact absurd rfl hS
        | cons s S' => exact ⟨s, S', rfl⟩
      have hd : (c :: r).drop (s :: S').length = r.drop ((s :: S').length - 1) := rfl
      have e := List.take_append_drop (s :: S').length (c :: r)
      rw [ht, hd] at e
      exact e
theorem split_tl {x y : PySem.Str} (hy : tl y ≠ []) (hk : y.cps.all (· < 256) = true) : (PySem.Txt.split x y).map tl = spl (tl y) 0 [] (tl x) := split_spl x y hy (kind_ok hk)
theorem join_split {x y : PySem.Str} (hy : tl y ≠ []) (hk : y.cps.all (· < 256) = true) : PySem.Txt.join y (PySem.Txt.split x y) = x := by
  refine ext_tl ?_
  rw [join_eq, tl_join, split_tl hy hk, join_spl hy _ [] _ (Nat.le_refl _), List.nil_append]
theorem split_ne {x y : PySem.Str} (hy : tl y ≠ []) (hk : y.cps.all (· < 256) = true) : PySem.Txt.split x y ≠ [] := fun e => by
  have := split_tl (x := x) hy hk
  rw [e] at this
  exact spl_ne _ _ _ _ this.symm
end Tq
namespace Dv
open PySem L2
end Dv
namespace Dv
open PySem L2
end Dv
namespace Dv
open PySem L2
section
variable {S : Store}
end
end Dv
namespace Dv
open PySem L2
theorem lc_src {α : Type} {gm : D → Env → Option Env} {tt : BM} {te : EM} {r0 : Env} {S : Store} (s : α → D) (p : α → Bool) (f : α → D) : ∀ xs : List α,
    (∀ x ∈ xs, ∃ r1, gm (s x) r0 = some r1 ∧ tt r1 S = .ok (p x) S ∧ (p x = true → te r1 S = .ok (f x) S)) → lcL gm tt te r0 (xs.map s) S = .ok ((xs.filter p).map f) S
  | [], _ => rfl
  | d :: ds, h => by
    obtain ⟨r1, e1, e2, e3⟩ := h d List.mem_cons_self
    have ih := lc_src s p f ds fun d h' => h d (List.mem_cons_of_mem _ h')
    rw [List.map_cons, lcL_cons, e1]
    cases q : p d with
    | false => simp [e2, q, ih]
    | true => simp [e2, q, e3 q, ih]
theorem lc_all {α : Type} {gm : D → Env → Option Env} {te : EM} {r0 : Env} {S : Store} (s : α → D) (f : α → D) (xs : List α)
    (h : ∀ x ∈ xs, ∃ r1, gm (s x) r0 = some r1 ∧ te r1 S = .ok (f x) S) : lcL gm mYes te r0 (xs.map s) S = .ok (xs.map f) S := by
  have := lc_src (gm := gm) (tt := mYes) (te := te) (r0 := r0) (S := S) s (fun _ => true) f xs fun d hd => by
    obtain ⟨r1, a, b⟩ := h d hd
    exact ⟨r1, a, rfl, fun _ => b⟩
  rw [this, List.filter_eq_self.mpr fun _ _ => rfl]
theorem eqD_strs {x y : Str} {S : Store} (hx : pl 0 (.str x) = true) (hy : pl 0 (.str y) = true) : eqD (.str x) (.str y) S = some (.bl (decide (x = y))) := by
  have h := eqD_pl (k := 0) (a := .str x) (b := .str y) (S := S) hx hy (by decide)
  rw [h]
  congr 2
  refine decide_eq_decide.mpr ?_
  show D.str x = D.str y ↔ _
  simp
section
variable {S : Store}
end
end Dv
namespace Dv
open PySem L2
section
variable {S : Store}
end
end Dv
namespace Dv
open PySem L2
section
variable {S : Store}
end
end Dv
namespace Dv
open PySem L2
section
variable {S : Store} {far : Nat}
end
end Dv
namespace Dv
open PySem L2
section
variable {S : Store}
end
end Dv
namespace Dv
open PySem L2
section
variable {S : Store}
end
end Dv
namespace Dv
open PySem L2
def pn : Nat → D → Bool
  | _, .non => true
  | _, .bl _ => true
  | _, .int _ => true
  | _, .str x => decide (x.length ≤ 100)
  | k + 1, .tup xs => decide (xs.length ≤ 1000) && xs.all (pn k)
  | k + 1, .lst xs => decide (xs.length ≤ 1000) && xs.all (pn k)
  | _, _ => false
def isT : D → Bool
  | .tup _ => true
  | _ => false
def isI : D → Bool
  | .int _ => true
  | .bl _ => true
  | _ => false
def isB : D → Bool
  | .bl _ => true
  | _ => false
def isW : D → Bool
  | .int _ => true
  | _ => false
section
variable {S : Store} {d : D} {k : Nat}
theorem isi_T (h : pn k d = true) : isiD [d, .ty "tuple"] S = some (.bl (isT d)) := by
  cases d <;> first | rfl | (cases k <;> cases h)
theorem isi_I (h : pn k d = true) : isiD [d, .ty "int"] S = some (.bl (isI d)) := by
  cases d <;> first | rfl | (cases k <;> cases h)
theorem isi_B (h : pn k d = true) : isiD [d, .ty "bool"] S = some (.bl (isB d)) := by
  cases d <;> first | rfl | (cases k <;> cases h)
theorem pn_tup {xs : List D} (h : pn k (.tup xs) = true) : ∃ j, k = j + 1 ∧ xs.length ≤ 1000 ∧ ∀ x ∈ xs, pn j x = true := by
  cases k with
  | zero => cases h
  | succ j =>
    have h : (decide (xs.length ≤ 1000) && xs.all (pn j)) = true := h
    rw [Bool.and_eq_true, decide_eq_true_eq, List.all_eq_true] at h
    exact ⟨j, rfl, h.1, h.2⟩
def mWhole : SM := (sRet (mAnd (mCall isiD (mCons (mVar 0) (mCons (mC (.ty "int")) mNil))) (mNot (mCall isiD (mCons (mVar 0) (mCons (mC (.ty "bool")) mNil))))))
def FWhole : List D → Store → R D := runT 1 mWhole
theorem whole_ok (h : pn k d = true) : FWhole [d] S = .ok (.bl (isW d)) S := by
  refine fn_ret rfl ⟨[some d], ?_⟩
  show mWhole [some d] S = _
  unfold mWhole
  have e1 := isi_I (S := S) h
  have e2 := isi_B (S := S) h
  cases d <;> simp [e1, e2, isI, isB, isW]
end
end Dv
namespace Nv
open PySem L2 Dv
def m_is_value : SM :=
    (sRet (mAnd (mApp 1 FWhole (mCons (mVar 0) mNil)) (mChain leD leD (mUn negD (mC (.int 9999))) (mVar 0) (mC (.int 9999)))))
def F_is_value : List D → Store → R D := runT 1 m_is_value
def m_is_name : SM :=
    (sRet (mAnd (mCall isiD (mCons (mVar 0) (mCons (mC (.ty "str")) mNil))) (mAnd (mChain leD leD (mC (.int 1)) (mCall lenD (mCons (mVar 0) mNil)) (mC (.int 6))) (mCall allD (mCons (mLc (mIter (mVar 0)) [1] (tgN 1) mYes (mChain leD leD (mC (.str "a")) (mVar 1) (mC (.str "z")))) mNil)))))
def F_is_name : List D → Store → R D := runT 2 m_is_name
section
variable {S : Store} {d : D} {k : Nat}
def valB : D → Bool
  | .int i => decide (-9999 ≤ i) && decide (i ≤ 9999)
  | _ => false
theorem value_ok (h : pn k d = true) : F_is_value [d] S = .ok (.bl (valB d)) S := by
  refine fn_ret rfl ⟨[some d], ?_⟩
  show m_is_value [some d] S = _
  unfold m_is_value
  have e1 := whole_ok (S := S) h
  cases d with
  | int i =>
    by_cases c : -9999 ≤ i
    · simp [e1, isW, valB, c]
    · simp [e1, isW, valB, c]
  | _ => simp [e1, isW, valB]
def chOk (c : Nat) : Bool := (!decide ([c] < [97])) && !decide ([122] < [c])
theorem chain_ok (r : Dv.Env) (c : Nat) (h : r[1]? = some (some (chD c))) : mChain leD leD (mC (.str "a")) (mVar 1) (mC (.str "z")) r S = .ok (.bl (chOk c)) S := by
  have l1 : leD (.str "a") (chD c) S = some (.bl (!decide ([c] < [97]))) := rfl
  have l2 : leD (chD c) (.str "z") S = some (.bl (!decide ([122] < [c]))) := rfl
  rw [mChain_ap, mC_ap, rb_ok]
  simp only [mVar_ap, h, rb_ok, l1, ofO_some]
  unfold chOk
  cases hq : (!decide ([c] < [97])) with
  | false => rfl
  | true =>
    show (R.ok (D.str "z") S).bind _ = _
    rw [rb_ok, l2]
    rfl
def nameB : D → Bool
  | .str x => decide (1 ≤ x.length ∧ x.length ≤ 6) && x.cps.toList.all chOk
  | _ => false
end
def termB (d : D) : Bool := nameB d || valB d
section
variable {S : Store} {d : D} {k : Nat} {kds : List (Key × D)}
end
section
variable {S : Store} {d : D} {k : Nat} {ns : List Str}
end
section
variable {S : Store} {d : D} {k : Nat} {ns : List Str}
theorem last_at (o : O) : (S ++ [o])[S.length]? = some o := by simp
theorem last_set (o o' : O) : (S ++ [o]).set S.length o' = S ++ [o'] := by simp
end
section
variable {S : Store} {d : D} {k : Nat} {ns : List Str} {kds : List (Key × D)}
end
end Nv
namespace Sx
open PySem L2 Dv
section
variable {S S' S1 S2 : Store} {r : Dv.Env} {v w d : D} {m m' : EM} {ms : AM} {ds zs : List D} {i j k n : Nat} {F : List D → Store → R D}
theorem set_of {m : EM} (e : m r S = .ok v S') : sSet j m r S = .ok .next (r.set j (some v)) S' := by
  rw [sSet_ap, e]
  rfl
theorem drop_of {m : EM} (e : m r S = .ok v S') : sDrop m r S = .ok .next r S' := by
  rw [sDrop_ap, e]
  rfl
theorem run_app (ea : ms r S = .ok ds S1) (hl : ds.length = n) (e : F ds S1 = .ok v S') : mApp n F ms r S = .ok v S' := by
  rw [mApp_ap, ea]
  show (if ds.length = n then F ds S1 else .bad) = _
  rw [if_pos hl, e]
theorem if_no {t : BM} {a b : SM} (e : t r S = .ok false S') : sIf t a b r S = b r S' := by
  rw [sIf_ap, e]
  rfl
theorem if_yes {t : BM} {a b : SM} (e : t r S = .ok true S') : sIf t a b r S = a r S' := by
  rw [sIf_ap, e]
  rfl
theorem not_of {t : BM} {b : Bool} (e : t r S = .ok b S') : mNotT t r S = .ok (!b) S' := by
  rw [mNotT_ap, e]
  rfl
theorem tru_of {m : EM} {b : Bool} (e : m r S = .ok v S') (q : truD v S' = some b) : mTru m r S = .ok b S' := by
  rw [mTru_ap, e]
  show ofO (truD v S') S' = _
  rw [q]
  rfl
theorem or_ff {t t' : BM} {S2 : Store} (e : t r S = .ok false S') (e' : t' r S' = .ok false S2) : mOrT t t' r S = .ok false S2 := by
  rw [mOrT_ap, e]
  show (if false = true then R.ok true S' else t' r S') = _
  rw [if_neg Bool.false_ne_true, e']
theorem cons_of {m : EM} {S2 : Store} (e : m r S = .ok v S') (e' : ms r S' = .ok ds S2) : mCons m ms r S = .ok (v :: ds) S2 := by
  rw [mCons_ap, e]
  show (ms r S').bind _ = _
  rw [e']
  rfl
theorem bin_of {f : D → D → Store → Option D} {a b : EM} {x y z : D} {S2 : Store} (e : a r S = .ok x S') (e' : b r S' = .ok y S2) (q : f x y S2 = some z) : mBin f a b r S = .ok z S2 := by
  rw [mBin_ap, e]
  show (b r S').bind _ = _
  rw [e']
  show ofO (f x y S2) S2 = _
  rw [q]
  rfl
theorem t_of {m : EM} {b : Bool} (e : m r S = .ok (.bl b) S') : mT m r S = .ok b S' := by
  rw [mT_ap, e]
  rfl
theorem call_of {f : List D → Store → Option D} (ea : ms r S = .ok ds S') (q : f ds S' = some v) : mCall f ms r S = .ok v S' := by
  rw [mCall_ap, ea]
  show ofO (f ds S') S' = _
  rw [q]
  rfl
theorem ret_of (e : m r S = .ok v S') : sRet m r S = .ok (.ret v) r S' := by
  rw [sRet_ap, e]
  rfl
theorem iter_of (e : m r S = .ok d S') (q : seqD d = some ds) : mIter m r S = .ok ds S' := by
  rw [mIter_ap, e]
  show ofO (seqD d) S' = _
  rw [q]
  rfl
theorem lc_of {im : IM} {vs : List Nat} {gm : D → Dv.Env → Option Dv.Env} {tt : BM} {te : EM} (e : im r S = .ok ds S1) (q : lcL gm tt te (wipeE r vs) ds S1 = .ok zs S2) : mLc im vs gm tt te r S = .ok (.lst zs) S2 := by
  rw [mLc_ap, e]
  show (lcL gm tt te (wipeE r vs) ds S1).bind _ = _
  rw [q]
  rfl
theorem for_of {im : IM} {gm : D → Dv.Env → Option Dv.Env} {b : SM} (e : im r S = .ok ds S1) : sFor im gm b r S = sLoop gm b ds r S1 := by
  rw [sFor_ap, e]
  rfl
theorem or_t {t t' : BM} (e : t r S = .ok true S') : mOrT t t' r S = .ok true S' := by
  rw [mOrT_ap, e]
  rfl
theorem or_f {t t' : BM} {b : Bool} (e : t r S = .ok false S') (e' : t' r S' = .ok b S2) : mOrT t t' r S = .ok b S2 := by
  rw [mOrT_ap, e]
  show (if false = true then R.ok true S' else t' r S') = _
  rw [if_neg Bool.false_ne_true, e']
theorem and_f {t t' : BM} (e : t r S = .ok false S') : mAndT t t' r S = .ok false S' := by
  rw [mAndT_ap, e]
  rfl
theorem and_t {t t' : BM} {b : Bool} (e : t r S = .ok true S') (e' : t' r S' = .ok b S2) : mAndT t t' r S = .ok b S2 := by
  rw [mAndT_ap, e]
  show (if true = true then t' r S' else R.ok false S') = _
  rw [if_pos rfl, e']
theorem ife_t {t : BM} (e : t r S = .ok true S') (e' : m r S' = .ok v S2) : mIf t m m' r S = .ok v S2 := by
  rw [mIf_ap, e]
  show (if true = true then m r S' else m' r S') = _
  rw [if_pos rfl, e']
theorem ife_f {t : BM} (e : t r S = .ok false S') (e' : m' r S' = .ok v S2) : mIf t m m' r S = .ok v S2 := by
  rw [mIf_ap, e]
  show (if false = true then m r S' else m' r S') = _
  rw [if_neg Bool.false_ne_true, e']
theorem tup_of {ms : AM} (e : ms r S = .ok ds S') (hl : ds.length ≤ 100000) : mTup ms r S = .ok (.tup ds) S' := by
  rw [mTup_ap, e]
  show (if ds.length ≤ 100000 then _ else _) = _
  rw [if_pos hl]
theorem lst_of {ms : AM} (e : ms r S = .ok ds S') (hl : ds.length ≤ 100000) : mLst ms r S = .ok (.lst ds) S' := by
  rw [mLst_ap, e]
  show (if ds.length ≤ 100000 then _ else _) = _
  rw [if_pos hl]
theorem un_of {f : D → Store → Option D} (e : m r S = .ok d S1) (q : f d S1 = some v) : mUn f m r S = .ok v S1 := by
  rw [mUn_ap, e]
  show ofO (f d S1) S1 = _
  rw [q]
  rfl
theorem asg_of {gm : D → Dv.Env → Option Dv.Env} {r1 : Dv.Env} (e : m r S = .ok d S1) (q : gm d r = some r1) : sAsg m gm r S = .ok .next r1 S1 := by
  rw [sAsg_ap, e]
  simp [q]
theorem par_of {i j : Nat} {ms : AM} (e : ms r S = .ok [v, w] S1) : sPar i j ms r S = .ok .next ((r.set i (some v)).set j (some w)) S1 := by
  rw [sPar_ap, e]
  rfl
theorem append_of {k n : Nat} {xs : List D} (hk : r[k]? = some (some (.loc n))) (hS : S[n]? = some (.lst xs)) (e : m r S = .ok v S) (hl : xs.length < 100000) : mAppend (mVar k) m r S = .ok .non (S.set n (.lst (xs ++ [v]))) := by
  rw [mAppend_ap, mVar_ap, hk]
  show (if isLoc (.loc n) S = true then (m r S).bind fun d S2 => appD (.loc n) d S2 else .bad) = _
  have i : isLoc (.loc n) S = true := by rw [isLoc_ap, hS]
  rw [if_pos i, e]
  show appD (.loc n) v S = _
  rw [appD_ap, hS]
  exact if_pos hl
theorem nil_of : mNil r S = .ok [] S := rfl
theorem var_of (h : r[k]? = some (some v)) : mVar k r S = .ok v S := by
  simp [h]
theorem seq_ret {a b : SM} {r1 : Dv.Env} (h : a r S = .ok (.ret v) r1 S1) : sSeq a b r S = .ok (.ret v) r1 S1 := by
  rw [sSeq_ap, h]
end
end Sx
namespace Tq
open PySem L2 Dv Sx TL
def FName : List D → Store → R D := Nv.F_is_name
def v1 : SM := (sSet 1 (mIf (mT (mBin eqD (mSlW (mVar 0) mNoP (mP (mC (.int 1)))) (mC (.str "-")))) (mSlW (mVar 0) (mP (mC (.int 1))) mNoP) (mVar 0)))
def v2 : SM := (sIf (mOrT (mNotT (mT (mChain leD leD (mC (.int 1)) (mCall lenD (mCons (mVar 1) mNil)) (mC (.int 4))))) (mOrT (mNotT (mTru (mCall allD (mCons (mLc (mIter (mVar 1)) [2] (tgN 2) mYes (mChain leD leD (mC (.str "0")) (mVar 2) (mC (.str "9")))) mNil)))) (mT (mBin neD (mCall strSD (mCons (mCall intSD (mCons (mVar 0) mNil)) mNil)) (mVar 0))))) (sRaise "NoText") sNil)
def mVal : SM := (sSeq v1 (sSeq v2 (sRet (mCall intSD (mCons (mVar 0) mNil)))))
def FVal : List D → Store → R D := runT 3 mVal
def figs (x : Str) : Str := if cutS x none (some 1) = ("-" : Str) then cutS x (some 1) none else x
def dig (c : Nat) : Bool := (!decide ([c] < [48])) && !decide ([57] < [c])
def digsB (x : Str) : Bool := decide (1 ≤ x.length ∧ x.length ≤ 4) && x.cps.toList.all dig
def numV (x : Str) : Option Int := if digsB (figs x) = true then (intText? x).bind fun n => if ((toString n : String) : Str) = x then some n else none else none
structure Asc (x : Str) : Prop where
  ok : pl 0 (.str x) = true
  len : x.length ≤ 1000
section
variable {S : Store} {x : Str}
theorem dig_iff {c : Nat} : dig c = true ↔ 48 ≤ c ∧ c ≤ 57 := by
  unfold dig
  rw [Bool.and_eq_true, Bool.not_eq_true', Bool.not_eq_true', decide_eq_false_iff_not, decide_eq_false_iff_not, List.cons_lt_cons_iff, List.cons_lt_cons_iff]
  have hn : ¬ ([] : List Nat) < [] := by intro z; cases z
  constructor
  · rintro ⟨p, q⟩
    exact ⟨Nat.not_lt.mp fun z => p (Or.inl z), Nat.not_lt.mp fun z => q (Or.inl z)⟩
  · rintro ⟨p, q⟩
    exact ⟨fun z => z.elim (fun z => absurd z (Nat.not_lt.mpr p)) fun z => hn z.2, fun z => z.elim (fun z => absurd z (Nat.not_lt.mpr q)) fun z => hn z.2⟩
theorem figs_eq (x : Str) : tl (figs x) = (match tl x with
    | 45 :: r => r
    | l => l) := by
  have h1 : tl (cutS x none (some 1)) = (tl x).take 1 := by
    show ((x.cps.toList.drop (HT.sIx x.length 0 none)).take (HT.sIx x.length x.length (some 1) - HT.sIx x.length 0 none)) = _
    have e := Dv.cut_take (tl x) 1
    unfold cutL at e
    rw [← len_tl] at e
    exact e
  have h2 : 1 ≤ (tl x).length → tl (cutS x (some 1) none) = (tl x).drop 1 := fun hl => by
    show ((x.cps.toList.drop (HT.sIx x.length 0 (some 1))).take (HT.sIx x.length x.length none - HT.sIx x.length 0 (some 1))) = _
    have e := Dv.cut_drop (tl x) 1 hl
    unfold cutL at e
    rw [← len_tl] at e
    exact e
  unfold figs
  cases ht : tl x with
  | nil =>
    rw [if_neg fun z => ?_, ht]
    rw [z, ht] at h1
    cases h1
  | cons c r =>
    rw [ht] at h1 h2
    by_cases c45 : c = 45
    · subst c45
      have : cutS x none (some 1) = ("-" : Str) := ext_tl (by rw [h1]; rfl)
      rw [if_pos this, h2 (by simp)]
      rfl
    · have : ¬ cutS x none (some 1) = ("-" : Str) := fun z => by
        rw [z] at h1
        have h1 : [45] = [c] := h1
        exact c45 (List.cons.inj h1).1.symm
      rw [if_neg this, ht]
      split
      · rename_i z
        exact absurd (List.cons.inj z).1 c45
      · rfl
theorem digs_small : ∀ (l : List Nat) (a : Nat), (∀ c ∈ l, c ≤ 57) → l.foldl (fun acc c => acc * 10 + (c - 48)) a ≤ (a + 1) * 10 ^ l.length
  | [], a, _ => by simp
  | c :: l, a, h => by
    rw [List.foldl_cons, List.length_cons, Nat.pow_succ]
    have hc := h c List.mem_cons_self
    refine Nat.le_trans (digs_small l _ fun z hz => h z (List.mem_cons_of_mem _ hz)) ?_
    have : a * 10 + (c - 48) + 1 ≤ (a + 1) * 10 := by omega
    calc (a * 10 + (c - 48) + 1) * 10 ^ l.length ≤ ((a + 1) * 10) * 10 ^ l.length := Nat.mul_le_mul_right _ this
      _ = (a + 1) * (10 ^ l.length * 10) := by rw [Nat.mul_assoc, Nat.mul_comm 10]
theorem int_of_figs (h : digsB (figs x) = true) (hl : x.length ≤ 1000) : ∃ n : Int, intText? x = some n ∧ -1000000 < n ∧ n < 1000000 := by
  unfold digsB at h
  rw [Bool.and_eq_true, decide_eq_true_eq, List.all_eq_true] at h
  obtain ⟨⟨l1, l4⟩, hd⟩ := h
  have fe := figs_eq x
  have len : (tl (figs x)).length ≤ 4 := by rw [← len_tl]; exact l4
  have ne : tl (figs x) ≠ [] := fun z => by rw [len_tl, z] at l1; simp at l1
  have ad : NumText.AllDigits (tl (figs x)) := fun c hc => dig_iff.mp (hd c hc)
  have sm := digs_small (tl (figs x)) 0 fun c hc => (ad c hc).2
  have p4 : 10 ^ (tl (figs x)).length ≤ 10 ^ 4 := Nat.pow_le_pow_right (by decide) len
  have sm2 : NumText.digitsVal (tl (figs x)) ≤ 10000 := by
    unfold NumText.digitsVal
    omega
  cases ht : tl x with
  | nil => rw [ht] at fe; exact absurd fe ne
  | cons c r =>
    rw [ht] at fe
    by_cases c45 : c = 45
    · subst c45
      have fe : tl (figs x) = r := fe
      rw [fe] at ad ne sm2
      exact ⟨_, PySem.intText_neg ht ad ne (by omega), by omega, by omega⟩
    · have fe : tl (figs x) = c :: r := by
        rw [fe]
        split
        · rename_i z
          exact absurd (List.cons.inj z).1 c45
        · rfl
      rw [fe, ← ht] at ad ne sm2
      exact ⟨((NumText.digitsVal (tl x) : Nat) : Int), PySem.intText_digits ad ne (by omega), by omega, by omega⟩
end
end Tq
namespace Tq
open PySem L2 Dv Sx TL
section
variable {S : Store} {x : Str}
theorem pl_iff {x : Str} : pl 0 (.str x) = true ↔ ∀ c ∈ tl x, c < 0x110000 := by
  show PyData.strOk x = true ↔ _
  unfold PyData.strOk tl
  rw [Array.all_eq_true_iff_forall_mem]
  constructor
  · exact fun h c hc => of_decide_eq_true (h c (Array.mem_toList_iff.mp hc))
  · exact fun h c hc => decide_eq_true (h c (Array.mem_toList_iff.mpr hc))
theorem Asc.sub {x y : Str} (h : Asc x) (hs : ∀ c ∈ tl y, c ∈ tl x) (hl : y.length ≤ x.length) : Asc y :=
  ⟨pl_iff.mpr fun c hc => pl_iff.mp h.ok c (hs c hc), Nat.le_trans hl h.len⟩
theorem tl_cut (x : Str) (lo hi : Option Int) : tl (cutS x lo hi) = ((tl x).drop (HT.sIx x.length 0 lo)).take (HT.sIx x.length x.length hi - HT.sIx x.length 0 lo) := rfl
theorem Asc.cut {x : Str} (h : Asc x) (lo hi : Option Int) : Asc (cutS x lo hi) :=
  h.sub (fun c hc => by rw [tl_cut] at hc; exact List.mem_of_mem_drop (List.mem_of_mem_take hc)) (by
    rw [len_tl, len_tl x, tl_cut, List.length_take, List.length_drop]
    omega)
theorem Asc.len2 (h : Asc x) : lenD [.str x] S = some (.int x.length) := if_pos (by have := h.len; omega)
theorem Asc.seq (h : Asc x) : seqD (.str x) = some (x.cps.toList.map chD) := if_pos (show x.cps.size ≤ 100000 from Nat.le_trans h.len (by decide))
theorem Asc.sl (h : Asc x) (lo hi : Option Int) : slWD (.str x) lo hi S = some (.str (cutS x lo hi)) := if_pos (by have := h.len; omega)
theorem Asc.figs (h : Asc x) : Asc (figs x) := by
  unfold Tq.figs
  split
  · exact h.cut _ _
  · exact h
theorem asc_c (x : Str) (h : pl 0 (.str x) = true := by decide +kernel) (h2 : x.length ≤ 1000 := by decide) : Asc x := ⟨h, h2⟩
theorem eq_of_asc {x y : Str} (hx : Asc x) (hy : Asc y) : eqD (.str x) (.str y) S = some (.bl (decide (x = y))) := eqD_strs hx.ok hy.ok
theorem ne_of_asc {x y : Str} (hx : Asc x) (hy : Asc y) : neD (.str x) (.str y) S = some (.bl (!decide (x = y))) := by
  have e := eq_of_asc (S := S) hx hy
  unfold eqD at e
  unfold neD
  cases q : eqO (now (.str x) S) (now (.str y) S) with
  | none => rw [q] at e; cases e
  | some b =>
    rw [q] at e
    have e : some (D.bl b) = some _ := e
    cases e
    rfl
theorem wname_ok (h : Asc x) : FName [.str x] S = .ok (.bl (Nv.nameB (.str x))) S := by
  refine fn_ret rfl ⟨[some (.str x), none], ?_⟩
  show Nv.m_is_name [some (.str x), none] S = _
  unfold Nv.m_is_name
  have e1 : isiD [.str x, .ty "str"] S = some (.bl true) := rfl
  have lc : lcL (tgN 1) mYes (mChain leD leD (mC (.str "a")) (mVar 1) (mC (.str "z"))) [some (.str x), none] (x.cps.toList.map chD) S = .ok ((x.cps.toList.map Nv.chOk).map D.bl) S := by
    rw [lc_map (fun d => match d with | .str z => .bl (match z.cps.toList with | [c] => Nv.chOk c | _ => false) | d => d) _ fun d hd => by
      obtain ⟨c, hc, rfl⟩ := List.mem_map.mp hd
      exact ⟨_, rfl, Nv.chain_ok _ c rfl⟩]
    congr 1
    rw [List.map_map, List.map_map]
    rfl
  by_cases c1 : (1 : Int) ≤ x.length
  · by_cases c2 : (x.length : Int) ≤ 6
    · have c3 : 1 ≤ x.length ∧ x.length ≤ 6 := by omega
      simp [e1, h.len2, h.seq, lc, Nv.nameB, c1, c2, c3, -List.map_map]
    · have c3 : ¬ (1 ≤ x.length ∧ x.length ≤ 6) := by omega
      simp [e1, h.len2, Nv.nameB, c1, c2, c3]
  · have c3 : ¬ (1 ≤ x.length ∧ x.length ≤ 6) := by omega
    simp [e1, h.len2, Nv.nameB, c1, c3]
end
end Tq
namespace Tq
open PySem L2 Dv Sx TL
section
variable {S : Store} {x : Str}
theorem fn_exc {sz : Nat} {m : SM} {ds : List D} {n : Str} (h : ∃ rho, m (frame sz ds) S = .exc n rho S) : runT sz m ds S = .exc n S := by
  obtain ⟨rho, h⟩ := h
  show finT S (m (frame sz ds) S) = _
  rw [h]
  have tr : Tr S S := by
    have := Tr.app S []
    rwa [List.append_nil] at this
  exact (if_pos tr).trans (by rw [List.take_length])
theorem chain9 (r : Dv.Env) (c : Nat) (h : r[2]? = some (some (chD c))) : mChain leD leD (mC (.str "0")) (mVar 2) (mC (.str "9")) r S = .ok (.bl (dig c)) S := by
  have l1 : leD (.str "0") (chD c) S = some (.bl (!decide ([c] < [48]))) := rfl
  have l2 : leD (chD c) (.str "9") S = some (.bl (!decide ([57] < [c]))) := rfl
  rw [mChain_ap, mC_ap, rb_ok]
  simp only [mVar_ap, h, rb_ok, l1, ofO_some]
  unfold dig
  cases hq : (!decide ([c] < [48])) with
  | false => rfl
  | true =>
    show (R.ok (D.str "9") S).bind _ = _
    rw [rb_ok, l2]
    rfl
theorem asc_minus : Asc "-" := asc_c _
theorem v1_ok (h : Asc x) (y z : Option D) : v1 [some (.str x), y, z] S = .ok .next [some (.str x), some (.str (figs x)), z] S := by
  have hs : mSlW (mVar 0) mNoP (mP (mC (.int 1))) [some (.str x), y, z] S = .ok (.str (cutS x none (some 1))) S := by
    show ofO (slWD (.str x) none (some 1) S) S = _
    rw [h.sl]
    rfl
  have hs2 : mSlW (mVar 0) (mP (mC (.int 1))) mNoP [some (.str x), y, z] S = .ok (.str (cutS x (some 1) none)) S := by
    show ofO (slWD (.str x) (some 1) none S) S = _
    rw [h.sl]
    rfl
  have ht : mT (mBin eqD (mSlW (mVar 0) mNoP (mP (mC (.int 1)))) (mC (.str "-"))) [some (.str x), y, z] S = .ok (decide (cutS x none (some 1) = ("-" : Str))) S := t_of (bin_of hs rfl (eq_of_asc (h.cut _ _) asc_minus))
  unfold v1 Tq.figs
  by_cases c : cutS x none (some 1) = ("-" : Str)
  · rw [decide_eq_true c] at ht
    rw [if_pos c]
    exact set_of (ife_t ht hs2)
  · rw [decide_eq_false c] at ht
    rw [if_neg c]
    exact set_of (ife_f ht rfl)
theorem lc9 (h : Asc x) (y z : Option D) : mCall allD (mCons (mLc (mIter (mVar 1)) [2] (tgN 2) mYes (mChain leD leD (mC (.str "0")) (mVar 2) (mC (.str "9")))) mNil) [y, some (.str x), z] S = .ok (.bl (x.cps.toList.all dig)) S := by
  have lc : lcL (tgN 2) mYes (mChain leD leD (mC (.str "0")) (mVar 2) (mC (.str "9"))) (wipeE [y, some (.str x), z] [2]) (x.cps.toList.map chD) S = .ok ((x.cps.toList.map dig).map D.bl) S := by
    rw [lc_map (fun d => match d with | .str z => .bl (match z.cps.toList with | [c] => dig c | _ => false) | d => d) _ fun d hd => by
      obtain ⟨c, hc, rfl⟩ := List.mem_map.mp hd
      exact ⟨_, rfl, chain9 _ c rfl⟩]
    congr 1
    rw [List.map_map, List.map_map]
    rfl
  have e : mLc (mIter (mVar 1)) [2] (tgN 2) mYes (mChain leD leD (mC (.str "0")) (mVar 2) (mC (.str "9"))) [y, some (.str x), z] S = .ok (.lst ((x.cps.toList.map dig).map D.bl)) S := lc_of (iter_of (var_of rfl) h.seq) lc
  refine call_of (cons_of e rfl) ?_
  have q : ∀ l : List Bool, blsOf (l.map D.bl) = some l := by
    intro l
    induction l with
    | nil => rfl
    | cons b l ih => show (blsOf (l.map D.bl)).map _ = _; rw [ih]; rfl
  show (blsOf _).map _ = _
  rw [q]
  show some (D.bl ((x.cps.toList.map dig).all id)) = _
  rw [List.all_map]
  rfl
theorem len14 (h : Asc x) (y z : Option D) : mT (mChain leD leD (mC (.int 1)) (mCall lenD (mCons (mVar 1) mNil)) (mC (.int 4))) [y, some (.str x), z] S = .ok (decide (1 ≤ x.length ∧ x.length ≤ 4)) S := by
  have e : mCall lenD (mCons (mVar 1) mNil) [y, some (.str x), z] S = .ok (.int x.length) S := call_of (cons_of (var_of rfl) rfl) h.len2
  have l1 : leD (.int 1) (.int x.length) S = some (.bl (decide ((1 : Int) ≤ x.length))) := rfl
  have l2 : leD (.int x.length) (.int 4) S = some (.bl (decide ((x.length : Int) ≤ 4))) := rfl
  refine t_of ?_
  rw [mChain_ap, mC_ap, rb_ok, e, rb_ok, l1, ofO_some, rb_ok]
  by_cases c1 : (1 : Int) ≤ x.length
  · rw [decide_eq_true c1]
    show (R.ok (D.int 4) S).bind _ = _
    rw [rb_ok, l2]
    show R.ok (D.bl _) S = _
    congr 2
    exact decide_eq_decide.mpr (by omega)
  · rw [decide_eq_false c1, decide_eq_false (by omega : ¬ (1 ≤ x.length ∧ x.length ≤ 4))]
theorem int_txt (h : Asc x) (n : Int) (hn : intText? x = some n) (b1 : -1000000 < n) (b2 : n < 1000000) (hl : x.length ≤ 640) : intSD [.str x] S = some (.int n) ∧ strSD [.int n] S = some (.str (toString n : String)) := by
  constructor
  · show (match intText? x with
      | some n => if x.length ≤ 640 then some (D.int n) else none
      | none => none) = _
    rw [hn]
    exact if_pos hl
  · exact if_pos ⟨b1, b2⟩
end
end Tq
namespace Tq
open PySem L2 Dv Sx TL
def numT (n : Int) : Str := ((toString n : String) : Str)
def intL : Int → List Nat
  | .ofNat n => numL n
  | .negSucc m => 45 :: numL (m + 1)
theorem tl_neg (m : Nat) : tl (Str.ofString (toString (Int.negSucc m))) = 45 :: numL (m + 1) := by
  have e : toString (Int.negSucc m) = "-" ++ Nat.repr (m + 1) := rfl
  rw [e, Str.ofString_eq_toList]
  show (("-" ++ Nat.repr (m + 1)).toList.map Char.toNat) = _
  rw [String.toList_append, List.map_append, Nat.toList_repr]
  rfl
theorem tl_numT : ∀ n : Int, tl (numT n) = intL n
  | .ofNat n => tl_num n
  | .negSucc m => tl_neg m
theorem intL_sig : ∀ (n : Int) (c : Nat), c ∈ intL n → c = 45 ∨ (48 ≤ c ∧ c ≤ 57)
  | .ofNat n, c, h => .inr (numL_digits n c h)
  | .negSucc m, c, h => by
    rcases List.mem_cons.mp h with h | h
    · exact .inl h
    · exact .inr (numL_digits _ c h)
theorem intL_len {n : Int} (h1 : -1000000 < n) (h2 : n < 1000000) : (intL n).length ≤ 7 := by
  cases n with
  | ofNat n => exact Nat.le_trans (numL_len (k := 6) (by decide) (by have : (Int.ofNat n : Int) = n := rfl; omega)) (by decide)
  | negSucc m =>
    have := numL_len (n := m + 1) (k := 6) (by decide) (by omega)
    show (numL (m + 1)).length + 1 ≤ 7
    omega
theorem numT_len {n : Int} (h1 : -1000000 < n) (h2 : n < 1000000) : (numT n).length ≤ 7 := by
  rw [len_tl, tl_numT]
  exact intL_len h1 h2
theorem numT_asc {n : Int} (h1 : -1000000 < n) (h2 : n < 1000000) : Asc (numT n) :=
  ⟨pl_iff.mpr fun c hc => by
    rw [tl_numT] at hc
    rcases intL_sig n c hc with h | h <;> omega, Nat.le_trans (numT_len h1 h2) (by decide)⟩
section
variable {S : Store} {x : Str}
theorem figs_len (x : Str) : x.length ≤ (figs x).length + 1 := by
  have e := figs_eq x
  rw [len_tl, len_tl, e]
  split
  · rename_i h
    rw [h]
    simp
  · exact Nat.le_succ _
theorem numV_of (h : digsB (figs x) = true) {n : Int} (hn : intText? x = some n) : numV x = if numT n = x then some n else none := by
  unfold numV
  rw [if_pos h, hn]
  rfl
theorem v2_ok (h : Asc x) (z : Option D) : v2 [some (.str x), some (.str (figs x)), z] S = if (numV x).isSome = true then .ok .next [some (.str x), some (.str (figs x)), z] S else .exc "NoText" [some (.str x), some (.str (figs x)), z] S := by
  have hr : ∀ {t : BM}, t [some (.str x), some (.str (figs x)), z] S = .ok true S → sIf t (sRaise "NoText") sNil [some (.str x), some (.str (figs x)), z] S = .exc "NoText" [some (.str x), some (.str (figs x)), z] S := fun e => if_yes e
  have hs : ∀ {t : BM}, t [some (.str x), some (.str (figs x)), z] S = .ok false S → sIf t (sRaise "NoText") sNil [some (.str x), some (.str (figs x)), z] S = .ok .next [some (.str x), some (.str (figs x)), z] S := fun e => if_no e
  have l14 := len14 (S := S) h.figs (some (.str x)) z
  have l9 := lc9 (S := S) h.figs (some (.str x)) z
  have t9 := not_of (tru_of l9 (v := .bl _) (b := (figs x).cps.toList.all dig) rfl)
  unfold v2
  by_cases c1 : 1 ≤ (figs x).length ∧ (figs x).length ≤ 4
  · rw [decide_eq_true c1] at l14
    cases c2 : (figs x).cps.toList.all dig with
    | false =>
      have q : numV x = none := by
        unfold numV digsB
        rw [c2, Bool.and_false, if_neg Bool.false_ne_true]
      rw [q, if_neg (by decide)]
      rw [c2] at t9
      exact hr (or_f (not_of l14) (or_t t9))
    | true =>
      rw [c2] at t9
      have hd : digsB (figs x) = true := by
        unfold digsB
        rw [decide_eq_true c1, c2]
        rfl
      obtain ⟨n, hn, b1, b2⟩ := int_of_figs hd h.len
      have fl := figs_len x
      obtain ⟨i1, i2⟩ := int_txt (S := S) h n hn b1 b2 (by omega)
      have et : mT (mBin neD (mCall strSD (mCons (mCall intSD (mCons (mVar 0) mNil)) mNil)) (mVar 0)) [some (.str x), some (.str (figs x)), z] S = .ok (!decide (numT n = x)) S := t_of (bin_of (call_of (cons_of (call_of (cons_of (var_of rfl) rfl) i1) rfl) i2) (var_of rfl) (ne_of_asc (numT_asc b1 b2) h))
      rw [numV_of hd hn]
      by_cases c3 : numT n = x
      · rw [decide_eq_true c3] at et
        rw [if_pos c3, if_pos (show (some n).isSome = true from rfl)]
        exact hs (or_f (not_of l14) (or_f t9 et))
      · rw [decide_eq_false c3] at et
        rw [if_neg c3, if_neg (by decide)]
        exact hr (or_f (not_of l14) (or_f t9 et))
  · rw [decide_eq_false c1] at l14
    have q : numV x = none := by
      unfold numV digsB
      rw [decide_eq_false c1, Bool.false_and, if_neg Bool.false_ne_true]
    rw [q, if_neg (by decide)]
    exact hr (or_t (not_of l14))
theorem numV_sound {n : Int} (h : numV x = some n) (ha : Asc x) : intText? x = some n ∧ numT n = x ∧ -1000000 < n ∧ n < 1000000 ∧ x.length ≤ 640 := by
  unfold numV at h
  split at h
  · rename_i hd
    obtain ⟨m, hm, b1, b2⟩ := int_of_figs hd ha.len
    rw [hm] at h
    have h : (if numT m = x then some m else none) = some n := h
    split at h
    · rename_i e
      cases h
      exact ⟨hm, e, b1, b2, by rw [← e]; exact Nat.le_trans (numT_len b1 b2) (by decide)⟩
    · cases h
  · cases h
theorem val_ok (h : Asc x) : FVal [.str x] S = (match numV x with
    | some n => .ok (.int n) S
    | none => .exc "NoText" S) := by
  have e1 := v1_ok (S := S) h none none
  have e2 := v2_ok (S := S) h none
  cases q : numV x with
  | none =>
    rw [q, if_neg (by decide)] at e2
    refine fn_exc ⟨[some (.str x), some (.str (figs x)), none], ?_⟩
    show mVal [some (.str x), none, none] S = _
    unfold mVal
    rw [seq_ok e1, sSeq_ap, e2]
  | some n =>
    rw [q, if_pos (show (some n).isSome = true from rfl)] at e2
    obtain ⟨hn, _, b1, b2, hl⟩ := numV_sound q h
    obtain ⟨i1, _⟩ := int_txt (S := S) h n hn b1 b2 hl
    refine fn_ret rfl ⟨[some (.str x), some (.str (figs x)), none], ?_⟩
    show mVal [some (.str x), none, none] S = _
    unfold mVal
    rw [seq_ok e1, seq_ok e2]
    exact ret_of (call_of (cons_of (var_of rfl) rfl) i1)
end
end Tq
namespace Tq
open PySem L2 Dv Sx TL
def lv2 : SM := (sIf (mOrT (mNotT (mT (mChain ltD ltD (mC (.int 0)) (mCall lenD (mCons (mVar 1) mNil)) (mC (.int 5))))) (mTru (mLc (mIter (mVar 1)) [2] (tgN 2) (mNotT (mT (mChain leD leD (mC (.str "0")) (mVar 2) (mC (.str "9"))))) (mVar 2)))) (sRet (mC .non)) sNil)
def lv3 : SM := (sRet (mIf (mT (mBin eqD (mCall strSD (mCons (mCall intSD (mCons (mVar 0) mNil)) mNil)) (mVar 0))) (mCall intSD (mCons (mVar 0) mNil)) (mC .non)))
def FLNum : List D → Store → R D := runT 3 (sSeq v1 (sSeq lv2 lv3))
section
variable {S : Store} {x : Str}
theorem app_exc {F : List D → Store → R D} {ms : AM} {r : Dv.Env} {ds : List D} {n : Nat} {e : Str} {S1 S2 : Store} (ea : ms r S = .ok ds S1) (hl : ds.length = n) (h : F ds S1 = .exc e S2) : mApp n F ms r S = .exc e S2 := by
  rw [mApp_ap, ea]
  show (if ds.length = n then F ds S1 else .bad) = _
  rw [if_pos hl, h]
theorem lenLt (h : Asc x) {r : Dv.Env} {i : Nat} (hi : Nat) (hr : r[i]? = some (some (.str x))) : mChain ltD ltD (mC (.int 0)) (mCall lenD (mCons (mVar i) mNil)) (mC (.int (hi : Nat))) r S = .ok (.bl (decide (1 ≤ x.length ∧ x.length < hi))) S := by
  have e : mCall lenD (mCons (mVar i) mNil) r S = .ok (.int x.length) S := call_of (cons_of (var_of hr) rfl) h.len2
  have l1 : ltD (.int 0) (.int x.length) S = some (.bl (decide ((0 : Int) < x.length))) := rfl
  have l2 : ltD (.int x.length) (.int hi) S = some (.bl (decide ((x.length : Int) < hi))) := rfl
  rw [mChain_ap, mC_ap, rb_ok, e, rb_ok, l1, ofO_some, rb_ok]
  by_cases c1 : (0 : Int) < x.length
  · rw [decide_eq_true c1]
    show (R.ok (D.int hi) S).bind _ = _
    rw [rb_ok, l2]
    show R.ok (D.bl _) S = _
    congr 2
    exact decide_eq_decide.mpr (by omega)
  · rw [decide_eq_false c1, decide_eq_false (by omega : ¬ (1 ≤ x.length ∧ x.length < hi))]
theorem filt_all {l : List Nat} {p : Nat → Bool} : (l.filter fun c => !p c) = [] ↔ l.all p = true := by
  rw [List.filter_eq_nil_iff, List.all_eq_true]
  constructor
  · intro h c hc
    have := h c hc
    cases q : p c with
    | true => rfl
    | false => rw [q] at this; exact absurd rfl this
  · intro h c hc
    rw [h c hc]
    decide
theorem pl_chD {c : Nat} (h : c < 0x110000) : pl 0 (chD c) = true := pl_iff.mpr fun z hz => by
  rcases List.mem_singleton.mp hz with rfl
  exact h
theorem lv2_ok (h : Asc x) (y z : Option D) : lv2 [y, some (.str x), z] S = if digsB x = true then .ok .next [y, some (.str x), z] S else .ok (.ret .non) [y, some (.str x), z] S := by
  have e1 := not_of (t_of (lenLt (S := S) (r := [y, some (.str x), z]) (i := 1) h 5 rfl))
  have lc : mLc (mIter (mVar 1)) [2] (tgN 2) (mNotT (mT (mChain leD leD (mC (.str "0")) (mVar 2) (mC (.str "9"))))) (mVar 2) [y, some (.str x), z] S = .ok (.lst ((x.cps.toList.filter fun c => !dig c).map chD)) S :=
    lc_of (iter_of (var_of rfl) h.seq) (lc_src chD (fun c => !dig c) chD _ fun c hc => ⟨_, rfl, not_of (t_of (chain9 _ c rfl)), fun _ => rfl⟩)
  have e2 := tru_of lc (b := !((x.cps.toList.filter fun c => !dig c).map chD).isEmpty) rfl
  unfold lv2 digsB
  by_cases c : 1 ≤ x.length ∧ x.length ≤ 4
  · rw [decide_eq_true (by omega : 1 ≤ x.length ∧ x.length < 5)] at e1
    rw [decide_eq_true c, Bool.true_and]
    cases q : x.cps.toList.all dig with
    | true =>
      rw [filt_all.mpr q] at e2
      rw [if_pos rfl]
      exact if_no (or_f e1 e2)
    | false =>
      have : ((x.cps.toList.filter fun c => !dig c).map chD).isEmpty = false := by
        cases w : (x.cps.toList.filter fun c => !dig c) with
        | nil => rw [filt_all.mp w] at q; cases q
        | cons a l => rfl
      rw [this] at e2
      rw [if_neg Bool.false_ne_true]
      refine (if_yes (or_f e1 e2)).trans (ret_of rfl)
  · rw [decide_eq_false (by omega : ¬ (1 ≤ x.length ∧ x.length < 5))] at e1
    rw [decide_eq_false c, Bool.false_and, if_neg Bool.false_ne_true]
    exact (if_yes (or_t e1)).trans (ret_of rfl)
def numD (x : Str) : D := match numV x with
  | some n => .int n
  | none => .non
theorem lnum_ok (h : Asc x) : FLNum [.str x] S = .ok (numD x) S := by
  have e1 := v1_ok (S := S) h none none
  have e2 := lv2_ok (S := S) h.figs (some (.str x)) none
  refine fn_ret (by unfold numD; cases numV x <;> rfl) ⟨[some (.str x), some (.str (figs x)), none], ?_⟩
  show sSeq v1 (sSeq lv2 lv3) [some (.str x), none, none] S = _
  rw [seq_ok e1]
  cases hd : digsB (figs x) with
  | false =>
    rw [hd, if_neg Bool.false_ne_true] at e2
    have q : numV x = none := by
      unfold numV
      rw [hd, if_neg Bool.false_ne_true]
    unfold numD
    rw [q, sSeq_ap, e2]
  | true =>
    rw [hd, if_pos rfl] at e2
    rw [seq_ok e2]
    obtain ⟨n, hn, b1, b2⟩ := int_of_figs hd h.len
    have fl := figs_len x
    have f4 : (figs x).length ≤ 4 := by
      unfold digsB at hd
      rw [Bool.and_eq_true, decide_eq_true_eq] at hd
      exact hd.1.2
    obtain ⟨i1, i2⟩ := int_txt (S := S) h n hn b1 b2 (by omega)
    have ei : mCall intSD (mCons (mVar 0) mNil) [some (.str x), some (.str (figs x)), none] S = .ok (.int n) S := call_of (cons_of (var_of rfl) rfl) i1
    have et : mT (mBin eqD (mCall strSD (mCons (mCall intSD (mCons (mVar 0) mNil)) mNil)) (mVar 0)) [some (.str x), some (.str (figs x)), none] S = .ok (decide (numT n = x)) S := t_of (bin_of (call_of (cons_of ei rfl) i2) (var_of rfl) (eq_of_asc (numT_asc b1 b2) h))
    unfold numD lv3
    rw [numV_of hd hn]
    by_cases c3 : numT n = x
    · rw [decide_eq_true c3] at et
      rw [if_pos c3]
      exact ret_of (ife_t et ei)
    · rw [decide_eq_false c3] at et
      rw [if_neg c3]
      exact ret_of (ife_f et rfl)
end
end Tq
namespace Tq
open PySem L2 Dv Sx TL
def allO {α β : Type} (f : α → Option β) : List α → Option (List β)
  | [] => some []
  | a :: l => (f a).bind fun b => (allO f l).map (b :: ·)
theorem allO_cons {α β : Type} (f : α → Option β) (a : α) (l : List α) : allO f (a :: l) = (f a).bind fun b => (allO f l).map (b :: ·) := rfl
section
variable {S : Store} {x y : Str}
theorem lcE_all {α : Type} {gm : D → Dv.Env → Option Dv.Env} {te : EM} {r0 : Dv.Env} {e : Str} (s : α → D) (f : α → Option D) : ∀ xs : List α,
    (∀ x ∈ xs, ∃ r1, gm (s x) r0 = some r1 ∧ te r1 S = (match f x with
      | some d => .ok d S
      | none => .exc e S)) → lcLE gm mYes te r0 (xs.map s) S = (match allO f xs with
      | some ds => .ok ds S
      | none => .exc e S)
  | [], _ => rfl
  | x :: xs, h => by
    obtain ⟨r1, e1, e2⟩ := h x List.mem_cons_self
    have ih := lcE_all s f xs fun d h' => h d (List.mem_cons_of_mem _ h')
    have st : lcLE gm mYes te r0 ((x :: xs).map s) S = (te r1 S).bind fun y S2 => (lcLE gm mYes te r0 (xs.map s) S2).bind fun ys S3 => .ok (y :: ys) S3 := by
      show (match gm (s x) r0 with
        | none => R.bad
        | some r1 => (mYes r1 S).bind fun b S1 => if b = true then (te r1 S1).bind fun y S2 => (lcLE gm mYes te r0 (xs.map s) S2).bind fun ys S3 => .ok (y :: ys) S3 else lcLE gm mYes te r0 (xs.map s) S1) = _
      rw [e1]
      rfl
    rw [st, e2]
    cases q : f x with
    | none =>
      show R.exc e S = _
      rw [allO_cons, q]
      rfl
    | some d =>
      show ((lcLE gm mYes te r0 (xs.map s) S).bind fun ys S3 => .ok (d :: ys) S3) = _
      rw [ih]
      rw [allO_cons, q]
      cases q2 : allO f xs with
      | none => rw [Option.bind_some]; rfl
      | some ds => rw [Option.bind_some]; rfl
theorem spl_sub (P : List Nat) : ∀ (l : List Nat) (k : Nat) (acc p : List Nat), p ∈ spl P k acc l → (∀ c ∈ p, c ∈ acc ∨ c ∈ l) ∧ p.length ≤ acc.length + l.length
  | [], k, acc, p, h => by
    rw [spl_nil] at h
    rcases List.mem_singleton.mp h with rfl
    exact ⟨fun c hc => .inl hc, by simp⟩
  | c :: r, 0, acc, p, h => by
    cases q : pre P (c :: r) with
    | true =>
      rw [spl_hit q] at h
      rcases List.mem_cons.mp h with rfl | h
      · exact ⟨fun c hc => .inl hc, by simp⟩
      · obtain ⟨a, b⟩ := spl_sub P r _ [] p h
        refine ⟨fun z hz => ?_, ?_⟩
        · rcases a z hz with w | w
          · cases w
          · exact .inr (List.mem_cons_of_mem _ w)
        · rw [List.length_cons]
          rw [List.length_nil] at b
          omega
    | false =>
      rw [spl_miss q] at h
      obtain ⟨a, b⟩ := spl_sub P r 0 _ p h
      refine ⟨fun z hz => ?_, ?_⟩
      · rcases a z hz with w | w
        · rcases List.mem_append.mp w with w | w
          · exact .inl w
          · rcases List.mem_singleton.mp w with rfl
            exact .inr List.mem_cons_self
        · exact .inr (List.mem_cons_of_mem _ w)
      · rw [List.length_append] at b
        rw [List.length_cons]
        simp at b
        omega
  | c :: r, k + 1, acc, p, h => by
    obtain ⟨a, b⟩ := spl_sub P r k acc p h
    refine ⟨fun z hz => (a z hz).imp id (List.mem_cons_of_mem _), ?_⟩
    rw [List.length_cons]
    omega
structure Sep (y : Str) : Prop where
  ne : tl y ≠ []
  low : y.cps.all (· < 256) = true
theorem Asc.part (h : Asc x) (hy : Sep y) {p : Str} (hp : p ∈ Txt.split x y) : Asc p := by
  have hm : tl p ∈ spl (tl y) 0 [] (tl x) := by
    rw [← split_tl hy.ne hy.low]
    exact List.mem_map_of_mem hp
  obtain ⟨a, b⟩ := spl_sub _ _ _ _ _ hm
  refine h.sub (fun c hc => (a c hc).resolve_left (by simp)) ?_
  rw [len_tl, len_tl x]
  simpa using b
theorem Asc.split (h : Asc x) (hy : Sep y) : splD (.str x) (.str y) S = some (.lst ((Txt.split x y).map D.str)) := by
  have c : (y.length == 0) = false ∧ x.length ≤ 100000 := by
    refine ⟨?_, by have := h.len; omega⟩
    rw [beq_eq_false_iff_ne, len_tl]
    exact fun z => hy.ne (List.length_eq_zero_iff.mp z)
  show (splP x y).map _ = _
  unfold splP
  rw [if_pos c]
  rfl
theorem tm_of {f : D → D → Store → Option D} {mo m : EM} {r : Dv.Env} {d z : D} {S1 S2 : Store} (e1 : mo r S = .ok (.str x) S1) (e2 : m r S1 = .ok d S2) (q : f (.str x) d S2 = some z) : mTm f mo m r S = .ok z S2 := by
  rw [mTm_ap, e1]
  show ((m r S1).bind fun d S2 => ofO (f (.str x) d S2) S2) = _
  rw [e2]
  show ofO (f (.str x) d S2) S2 = _
  rw [q]
  rfl
end
end Tq
namespace Tq
open PySem L2 Dv Sx TL
abbrev T2 : Kt := [("less", "<"), ("unlike", "!")]
section
variable {S : Store} {x : Str}
end
end Tq
namespace Tq
open PySem L2 Dv Sx TL
section
variable {S : Store} {x : Str}
end
end Tq
namespace Tq
open PySem L2 Dv Sx TL
def termT : D → Str
  | .str x => x
  | .int n => numT n
  | _ => ""
def Trm1 (d : D) : Prop := (∃ x, d = .str x ∧ x.length ≤ 1000) ∨ ∃ n : Int, d = .int n ∧ -1000000 < n ∧ n < 1000000
section
variable {S : Store} {x : Str}
theorem len_app (x y : Str) : (x ++ y).length = x.length + y.length := by
  rw [len_tl, tl_append, List.length_append, ← len_tl, ← len_tl]
theorem joinL_len (P : List Nat) : ∀ l : List (List Nat), (joinL P l).length ≤ (l.map List.length).sum + l.length * P.length
  | [] => by simp [joinL]
  | [p] => by simp [joinL]
  | p :: q :: r => by
    have ih := joinL_len P (q :: r)
    show (p ++ (P ++ joinL P (q :: r))).length ≤ _
    rw [List.length_append, List.length_append, List.map_cons, List.sum_cons, List.length_cons, Nat.succ_mul]
    omega
theorem join_len (y : Str) (l : List Str) : (Txt.join y l).length ≤ (l.map (·.length)).sum + l.length * y.length := by
  have h := joinL_len (tl y) (l.map tl)
  rw [join_eq, len_tl, tl_join]
  rw [List.map_map, List.length_map] at h
  have e : l.map (List.length ∘ tl) = l.map (·.length) := List.map_congr_left fun z _ => (len_tl z).symm
  rw [e, ← len_tl] at h
  exact h
theorem Trm1.txt {d : D} (h : Trm1 d) : strSD [d] S = some (.str (termT d)) := by
  rcases h with ⟨x, rfl, _⟩ | ⟨n, rfl, b1, b2⟩
  · rfl
  · exact if_pos ⟨b1, b2⟩
theorem Trm1.len {d : D} (h : Trm1 d) : (termT d).length ≤ 1000 := by
  rcases h with ⟨x, rfl, h⟩ | ⟨n, rfl, b1, b2⟩
  · exact h
  · exact Nat.le_trans (numT_len b1 b2) (by decide)
def eAtom (i j c : Nat) : EM := (mBin addD (mBin addD (mBin addD (mVar i) (mC (.str "("))) (mTm joiD (mC (.str ",")) (mLc (mIter (mVar j)) [c] (tgN c) mYes (mCall strSD (mCons (mVar c) mNil))))) (mC (.str ")")))
def eChk : EM := (mJs [(mFmt (mVar 5)), (mFmt (mUn (getM T2) (mVar 4))), (mFmt (mVar 6))])
theorem fmt_ok {r : Dv.Env} {i : Nat} {d : D} (hi : r[i]? = some (some d)) (h : Trm1 d) : mFmt (mVar i) r S = .ok (.str (termT d)) S := by
  rw [mFmt_ap, var_of hi, rb_ok]
  rcases h with ⟨x, rfl, h⟩ | ⟨n, rfl, b1, b2⟩
  · exact if_pos (by omega)
  · refine if_pos ?_
    by_cases c : n.natAbs = 0
    · rw [c]
      decide
    · have : n.natAbs.log2 < 20 := (Nat.log2_lt c).mpr (by omega)
      omega
end
end Tq
namespace Tq
open PySem L2 Dv Sx TL
section
variable {x : Str}
theorem join_two (g a b : Str) : Txt.join g [a, b] = (a ++ g) ++ b := ext_tl (by
  rw [join_eq, tl_join, tl_append, tl_append]
  show tl a ++ (tl g ++ tl b) = _
  rw [List.append_assoc])
end
end Tq
namespace Tq
open PySem L2 Dv Sx TL
section
variable {x : Str}
end
end Tq
namespace Tq
open PySem L2 Dv Sx TL
section
variable {x : Str}
end
end Tq
namespace Tq
open PySem L2 Dv Sx TL
end Tq
namespace Tq
open PySem L2 Dv Sx TL
theorem joinL_mem {P : List Nat} {c : Nat} : ∀ {l : List (List Nat)}, c ∈ joinL P l → c ∈ P ∨ ∃ p ∈ l, c ∈ p
  | [], h => nomatch h
  | [p], h => .inr ⟨p, List.mem_cons_self, h⟩
  | p :: q :: r, h => by
    have h : c ∈ p ++ (P ++ joinL P (q :: r)) := h
    rcases List.mem_append.mp h with h | h
    · exact .inr ⟨p, List.mem_cons_self, h⟩
    · rcases List.mem_append.mp h with h | h
      · exact .inl h
      · exact (joinL_mem h).imp id fun ⟨z, hz, e⟩ => ⟨z, List.mem_cons_of_mem _ hz, e⟩
end Tq
namespace Tq
open PySem L2 Dv Sx TL
theorem numV_nat {n : Nat} (h : n ≤ 9999) : numV (numT n) = some (n : Int) := by
  have et : tl (numT n) = numL n := tl_num n
  have hl : (numL n).length ≤ 4 := numL_len (k := 4) (by decide) (by omega)
  have hd := numL_digits n
  have hne := numL_ne n
  have fg : figs (numT n) = numT n := by
    refine ext_tl ?_
    rw [figs_eq, et]
    split
    · rename_i r z
      have := hd 45 (by rw [z]; exact List.mem_cons_self)
      omega
    · rfl
  have dg : digsB (figs (numT n)) = true := by
    rw [fg]
    unfold digsB
    rw [Bool.and_eq_true, decide_eq_true_eq, List.all_eq_true]
    refine ⟨⟨?_, by rw [len_tl, et]; exact hl⟩, fun c hc => dig_iff.mpr (hd c ?_)⟩
    · rw [len_tl, et]
      cases q : numL n with
      | nil => exact absurd q hne
      | cons a l => simp
    · rw [← et]
      exact hc
  have hi : intText? (numT n) = some (n : Int) := int_num (by omega)
  rw [numV_of dg hi, if_pos rfl]
end Tq
namespace Tq
open PySem L2 Dv Sx TL
section
variable {S : Store} {x : Str}
end
end Tq
namespace Tq
open PySem L2 Dv Sx TL
section
variable {S : Store} {x : Str} {y0 y3 y4 y5 y6 y7 y8 y9 y10 y11 y12 : Option D} {a : Nat} {as : List D}
end
end Tq
namespace Tq
open PySem L2 Dv Sx TL
section
variable {S : Store} {x : Str} {y0 y2 y4 y5 y6 y7 y8 y9 y10 y11 y12 : Option D} {a : Nat} {cs : List D}
end
end Tq
namespace Dv
open PySem L2
section
variable {S : Store} {ns : List Int} {n t : Nat}
end
end Dv
namespace Bk
open PySem L2 Dv
def upB {α : Type} (lt : α → α → Bool) : List α → Bool
  | x :: y :: l => lt x y && upB lt (y :: l)
  | _ => true
def mRise : SM :=
    (sRet (mCall allD (mCons (mLc (mZip (mCons (mVar 0) (mCons (mSl (mVar 0) (mP (mC (.int 1))) mNoP) mNil))) [1, 2] (tgT 2 (tgsCons (tgN 1) (tgsCons (tgN 2) tgsNil))) mYes (mBin ltTD (mVar 1) (mVar 2))) mNil)))
def FRise : List D → Store → R D := runT 3 mRise
section
variable {S : Store} {d : D} {k : Nat}
theorem rise_lc {α : Type} {lt : α → α → Bool} {f : α → D} (hf : ∀ a b, ltTD (f a) (f b) S = some (.bl (lt a b))) {y0 : Option D} : ∀ (x : α) (l : List α),
    ∃ bs : List Bool, lcL (tgT 2 (tgsCons (tgN 1) (tgsCons (tgN 2) tgsNil))) mYes (mBin ltTD (mVar 1) (mVar 2)) [y0, none, none] (List.zipWith (fun a b => D.tup [a, b]) ((x :: l).map f) (l.map f)) S = .ok (bs.map D.bl) S ∧ bs.all id = upB lt (x :: l)
  | x, [] => ⟨[], rfl, rfl⟩
  | x, y :: l => by
    obtain ⟨bs, e, h⟩ := rise_lc hf (y0 := y0) y l
    refine ⟨lt x y :: bs, ?_, ?_⟩
    · show lcL _ _ _ _ (D.tup [f x, f y] :: List.zipWith (fun a b => D.tup [a, b]) ((y :: l).map f) (l.map f)) S = _
      rw [lcL_cons]
      simp only [tgT_ap, tgsCons_ap, tgsNil_ap, tgN_ap, List.length_cons, List.length_nil, Option.bind, if_true]
      simp [hf]
      have e : lcL (tgT 2 (tgsCons (tgN 1) (tgsCons (tgN 2) tgsNil))) mYes (mBin ltTD (mVar 1) (mVar 2)) [y0, none, none] (List.zipWith (fun a b => D.tup [a, b]) (f y :: l.map f) (l.map f)) S = .ok (bs.map D.bl) S := e
      rw [e]
      rfl
    · show (lt x y && bs.all id) = (lt x y && upB lt (y :: l))
      rw [h]
theorem cut_tail {α : Type} (l : List α) : cutL l (some 1) none = l.drop 1 := by
  cases l with
  | nil => rfl
  | cons x l => exact cut_drop (x :: l) 1 (by simp)
theorem rise_tup {rows : List (List Int)} : FRise [.tup (rows.map rowD)] S = .ok (.bl (upB ltR rows)) S := by
  refine fn_ret rfl ⟨[some (.tup (rows.map rowD)), none, none], ?_⟩
  show mRise [some (.tup (rows.map rowD)), none, none] S = _
  unfold mRise
  cases rows with
  | nil => rfl
  | cons x l =>
    obtain ⟨bs, e, h⟩ := rise_lc (S := S) (f := rowD) (lt := ltR) (fun a b => ltTD_row a b S) (y0 := some (.tup ((x :: l).map rowD))) x l
    have z : zipD [.tup ((x :: l).map rowD), .tup (l.map rowD)] = some (List.zipWith (fun a b => D.tup [a, b]) ((x :: l).map rowD) (l.map rowD)) := rfl
    have c : cutL ((x :: l).map rowD) (some 1) none = l.map rowD := by rw [cut_tail]; rfl
    generalize (x :: l).map rowD = X at e z c
    generalize l.map rowD = Y at e z c
    simp [c, z, e, h]
theorem ltTD_str (a b : Str) : ltTD (.str a) (.str b) S = some (.bl (ltS a b)) := rfl
theorem rise_lst {ks : List Str} : FRise [.lst (ks.map D.str)] S = .ok (.bl (upB ltS ks)) S := by
  refine fn_ret rfl ⟨[some (.lst (ks.map D.str)), none, none], ?_⟩
  show mRise [some (.lst (ks.map D.str)), none, none] S = _
  unfold mRise
  cases ks with
  | nil => rfl
  | cons x l =>
    obtain ⟨bs, e, h⟩ := rise_lc (S := S) (f := D.str) (lt := ltS) (fun a b => ltTD_str a b) (y0 := some (.lst ((x :: l).map D.str))) x l
    have z : zipD [.lst ((x :: l).map D.str), .lst (l.map D.str)] = some (List.zipWith (fun a b => D.tup [a, b]) ((x :: l).map D.str) (l.map D.str)) := rfl
    have c : cutL ((x :: l).map D.str) (some 1) none = l.map D.str := by rw [cut_tail]; rfl
    generalize (x :: l).map D.str = X at e z c
    generalize l.map D.str = Y at e z c
    simp [c, z, e, h]
def mRow : SM :=
    (sRet (mAnd (mCall isiD (mCons (mVar 0) (mCons (mC (.ty "tuple")) mNil))) (mAnd (mBin eqD (mCall lenD (mCons (mVar 0) mNil)) (mVar 1)) (mCall allD (mCons (mLc (mIter (mVar 0)) [2] (tgN 2) mYes (mApp 1 Nv.F_is_value (mCons (mVar 2) mNil))) mNil)))))
def FRow : List D → Store → R D := runT 3 mRow
def rowB (w : Int) : D → Bool
  | .tup xs => decide ((xs.length : Int) = w) && xs.all Nv.valB
  | _ => false
theorem row_ok {w : Int} (h : pn k d = true) : FRow [d, .int w] S = .ok (.bl (rowB w d)) S := by
  refine fn_ret rfl ⟨[some d, some (.int w), none], ?_⟩
  show mRow [some d, some (.int w), none] S = _
  unfold mRow
  have e1 := isi_T (S := S) h
  cases d with
  | tup xs =>
    obtain ⟨j, rfl, hl, hx⟩ := pn_tup h
    have lc : lcL (tgN 2) mYes (mApp 1 Nv.F_is_value (mCons (mVar 2) mNil)) [some (.tup xs), some (.int w), none] xs S = .ok ((xs.map Nv.valB).map D.bl) S := by
      rw [lc_map (gm := tgN 2) (te := mApp 1 Nv.F_is_value (mCons (mVar 2) mNil)) (r0 := [some (.tup xs), some (.int w), none]) (S := S) (fun d => .bl (Nv.valB d)) xs fun d hd => ⟨_, rfl, by
        have := Nv.value_ok (S := S) (hx d hd)
        simp [this]⟩, List.map_map]
      rfl
    by_cases c : (xs.length : Int) = w
    · simp [e1, isT, rowB, c, lc, -List.map_map]
    · simp [e1, isT, rowB, c]
  | _ => simp [e1, isT, rowB]
def intsD : D → List Int
  | .tup xs => (intsOf xs).getD []
  | _ => []
def rngB (lo hi : Int) : D → Bool
  | .int i => decide (lo ≤ i) && decide (i ≤ hi)
  | _ => false
def rowsB : D → D → Bool
  | .int w, .tup rs => rs.all (rowB w) && upB ltR (rs.map intsD)
  | _, _ => false
def t3B : D → Bool
  | .tup [_, _, _] => true
  | _ => false
def tabB : D → Bool
  | .tup [a, b, c] => Nv.nameB a && (rngB 1 5 b && rowsB b c)
  | _ => false
def mBkT : SM := (sSeq (sIf (mOrT (mNotT (mTru (mApp 1 Nv.F_is_name (mCons (mVar 1) mNil)))) (mOrT (mNotT (mTru (mApp 1 FWhole (mCons (mVar 2) mNil)))) (mOrT (mNotT (mT (mChain leD leD (mC (.int 1)) (mVar 2) (mC (.int 5))))) (mNotT (mTru (mCall isiD (mCons (mVar 3) (mCons (mC (.ty "tuple")) mNil)))))))) (sRet (mC (.bl false))) sNil)
    (sIf (mOrT (mNotT (mTru (mCall allD (mCons (mLc (mIter (mVar 3)) [5] (tgN 5) mYes (mApp 2 FRow (mCons (mVar 5) (mCons (mVar 2) mNil)))) mNil)))) (mNotT (mTru (mApp 1 FRise (mCons (mVar 3) mNil))))) (sRet (mC (.bl false))) sNil))
def mBk : SM :=
    (sSeq (sIf (mOrT (mNotT (mTru (mCall isiD (mCons (mVar 0) (mCons (mC (.ty "tuple")) mNil))))) (mNotT (mTru (mCall allD (mCons (mLc (mIter (mVar 0)) [4] (tgN 4) mYes (mAnd (mCall isiD (mCons (mVar 4) (mCons (mC (.ty "tuple")) mNil))) (mBin eqD (mCall lenD (mCons (mVar 4) mNil)) (mC (.int 3))))) mNil))))) (sRet (mC (.bl false))) sNil)
    (sSeq (sFor (mIter (mVar 0)) (tgT 3 (tgsCons (tgN 1) (tgsCons (tgN 2) (tgsCons (tgN 3) tgsNil)))) mBkT)
    (sRet (mApp 1 FRise (mCons (mLc (mIter (mVar 0)) [4] (tgN 4) mYes (mBin ixD (mVar 4) (mC (.int 0)))) mNil)))))
def FBk : List D → Store → R D := runT 6 mBk
end
end Bk
set_option maxHeartbeats 2000000
namespace Dv
open PySem PySem.Spec PyProof.Rows L2
section
variable {K : PySem.W.Frag} {mg : Str → Option Value}
end
section
variable {X : Cx} {Wx : WX} {scope : Scope} {is ib it j k nn : Nat} {sl : List Nat} {own : List (Str × Nat)} {c fld xs xb xt : Str} {C f : Addr} {fd : FuncData} {ps : List Str} {Fn : List D → Store → R D} {m : EM}
end
end Dv
namespace Dv
open PySem PySem.Spec PyProof.Rows L2
abbrev NK := NestedKey
section
variable {P : Program} {w : World} {A : Around} {Ex : Value → Shared → Prop} {s : Shared}
end
end Dv
namespace Dv
open PySem PySem.Spec PyProof.Rows L2
abbrev NEnt := Nat × Addr × NK
section
variable {P : Program} {w : World} {A : Around} {Ex : Value → Shared → Prop} {s : Shared} {a : Addr} {E : List NEnt} {es : Array (Int × Value)} {ep : Nat} {t : SetTable} {h : Heap}
end
end Dv
namespace Dv
open PySem PySem.Spec PyProof.Rows L2
section
variable {P : Program} {w : World} {A : Around} {Ex : Value → Shared → Prop} {s : Shared} {a : Addr} {E : List NEnt} {es : Array (Int × Value)} {ep : Nat} {t : SetTable}
end
end Dv
namespace Dv
open PySem PySem.W PySem.Spec PyProof.Rows L2
section
variable {K : PySem.W.Frag} {T : Tb} {H : Hp}
end
end Dv
namespace Dv
open PySem PySem.W PySem.Spec PyProof.Rows L2
section
variable {P : Program} {w : World} {K : PySem.W.Frag} {h : Heap} {a : Addr} {L : List (Addr × Pr)}
end
end Dv
namespace Dv
open PySem PySem.Spec PyProof.Rows L2
section
variable {P : Program} {w : World} {A : Around} {s : Shared}
end
section
variable {X : Cx}
end
end Dv
namespace Jt
open PySem L2 Dv
section
variable {V : List Int} {xs ys : List Str} {F G : (Str → Int) → Nat} {f : Str → Int}
end
end Jt
namespace Jt
open PySem L2 Dv
section
variable {V : List Int} {N : Nat → List Str} {L L' : List Nat} {P : List (Nat × Nat)} {e p : Nat}
end
end Jt
namespace Mw
open PySem L2 Dv
section
variable {tb : List Bt} {as : List At} {cs : List Ck} {pre : List Str} {x : Str}
end
end Mw
namespace Dv
open PySem L2
section
variable {S : Store} {d : D} {k : Nat}
end
end Dv
namespace Dv
open PySem L2
section
variable {tb : List Bt} {as : List At} {cs : List Ck}
end
section
variable {tb : List Bt} {as : List At} {cs : List Ck}
end
end Dv
namespace Mw
open PySem L2 Dv
section
variable {most many : Nat} {tb : List Bt} {as : List At} {cs : List Ck} {S : Store}
end
end Mw
namespace Mw
open PySem L2 Dv
section
variable {most many : Nat} {tb : List Bt} {as : List At} {cs : List Ck} {S : Store}
end
end Mw
namespace Mw
open PySem L2 Dv
section
variable {most many : Nat} {tb : List Bt} {as : List At} {cs : List Ck} {S : Store} {fu : Nat}
end
end Mw
namespace Mw
open PySem L2 Dv
section
variable {most many : Nat} {tb : List Bt} {as : List At} {cs : List Ck} {S : Store} {fu : Nat}
end
end Mw
namespace Mw
open PySem L2 Dv
section
variable {most many : Nat} {tb : List Bt} {as : List At} {cs : List Ck} {S : Store} {fu : Nat}
end
end Mw
namespace Jt
open PySem L2 Dv Mw
section
variable {most many : Nat} {tb : List Bt} {as : List At} {cs : List Ck} {ch : Nat → List Nat} {P : List (Nat × Nat)} {root : Nat}
end
end Jt
namespace Jt
open PySem L2 Dv Mw
section
variable {most many : Nat} {tb : List Bt} {as : List At} {cs : List Ck} {S : Store} {left : List Nat}
end
end Jt
namespace Jt
open PySem L2 Dv Mw
section
variable {most many : Nat} {tb : List Bt} {as : List At} {cs : List Ck} {S : Store} {left : List Nat} {P : List (Nat × Nat)}
end
end Jt
namespace Jt
open PySem L2 Dv Mw
section
variable {most many : Nat} {tb : List Bt} {as : List At} {cs : List Ck} {S : Store} {left L L' : List Nat} {P : List (Nat × Nat)} {N : Nat → List Str}
end
end Jt
namespace Jt
open PySem L2 Dv Mw
section
variable {V : List Int} {N : Nat → List Str} {L L' : List Nat} {P : List (Nat × Nat)}
end
section
variable {g : List Int → Nat} {rows : List (List Int)} {r : List Int}
end
end Jt
namespace Mw
open PySem L2 Dv
section
variable {most many fu : Nat} {tb : List Bt} {as : List At} {cs : List Ck} {S : Store} {ord : List Str} {d : D}
end
end Mw
namespace Jt
open PySem L2 Dv Mw
section
variable {most many : Nat} {tb : List Bt} {as : List At} {cs : List Ck} {S T : Store} {bk tr ai : D} {y4 y7 y8 y9 y10 y11 y12 y13 y14 : Option D} {nm : D} {fl : Nat} {c i : Nat}
end
end Jt
namespace Jt
open PySem L2 Dv Mw
section
variable {most many : Nat} {tb : List Bt} {as : List At} {cs : List Ck} {S G : Store} {bk tr ai ak : D} {y4 y7 y8 y9 y10 y11 y12 y13 y14 : Option D} {nm : D} {fl : Nat} {c i M : Nat}
end
end Jt
namespace Jt
open PySem L2 Dv Mw
section
variable {most many : Nat} {tb : List Bt} {as : List At} {cs : List Ck} {S : Store} {P : List (Nat × Nat)} {root i k : Nat} {L L' : List Nat} {N : Nat → List Str}
end
end Jt
namespace Jt
open PySem L2 Dv Mw
section
variable {most many fu k : Nat} {tb : List Bt} {as : List At} {cs : List Ck} {S : Store} {P : List (Nat × Nat)} {root i : Nat} {L L' : List Nat} {N : Nat → List Str}
end
end Jt
namespace Nv
open PySem L2 Dv
section
variable {S : Store} {d : D} {k : Nat} {ns : List Str} {kds : List (Key × D)}
end
end Nv
namespace Nv
open PySem L2 Dv
section
variable {S : Store} {d : D} {k : Nat} {ns : List Str} {kds : List (Key × D)}
end
end Nv
namespace Nv
open PySem L2 Dv
section
variable {S : Store} {d : D} {k : Nat} {tb : List Bt}
end
end Nv
namespace Dv
open PySem L2
section
variable {S : Store} {ns : List Int} {n t : Nat}
end
end Dv
namespace Ld
open PySem L2 Dv
section
variable {S : Store} {k : Nat}
variable {hd hd2 : List Tm} {as as2 : List At}
variable {f : Str → D}
variable {ts : List D}
end
end Ld
namespace Ld
open PySem L2 Dv
section
variable {S : Store} {tb : List Bt} {hd : List Tm} {as : List At}
end
end Ld
namespace Ky
open PySem L2 Dv
section
variable {S : Store}
end
end Ky
namespace Ky
open PySem L2 Dv
section
variable {S : Store} {ns : List Int} {n t : Nat}
end
end Ky
namespace Ky
open PySem L2 Dv
noncomputable instance : DecidableEq Tm := fun a b => Classical.propDecidable (a = b)
noncomputable instance : DecidableEq At := fun a b => Classical.propDecidable (a = b)
section
variable {S : Store}
end
section
variable {S : Store}
end
end Ky
namespace Ky
open PySem L2 Dv
section
variable {S : Store}
end
end Ky
namespace Ky
open PySem L2 Dv
section
variable {S : Store}
end
end Ky
namespace Ky
open PySem L2 Dv
section
variable {S : Store}
end
end Ky
namespace Hb
open PySem L2 Dv Mw
section
variable {S : Store}
variable {h p : Nat} {f later : D} {tb : List Bt} {w : Str} {r : List Int}
end
end Hb
namespace Hb
open PySem L2 Dv Mw
section
variable {S : Store} {h p : Nat} {f later : D} {tb : List Bt} {w : Str} {r : List Int}
end
end Hb
namespace Hb
open PySem L2 Dv Mw
section
variable {S : Store} {h p n : Nat} {f later : D} {tb : List Bt} {w : Str} {r : List Int}
end
end Hb
namespace Hk
open PySem L2 Dv Mw
abbrev Kd := List (Key × D)
structure It where
  rows : D
  as : Kd
  kp : Kd
  deed : D
  a : Nat
  k : Nat
structure Hs where
  first : D
  rows : D
  as : Kd
  kp : Kd
  past : List It
  later : List It
  p : Nat
  l : Nat
  a : Nat
  k : Nat
abbrev Fr := Nat → Option O
section
variable {B : Fr} {S : Store} {h : Nat} {X : Hs}
end
end Hk
namespace Hk
open PySem L2 Dv Mw
section
variable {B : Fr} {S : Store} {h : Nat} {X : Hs}
end
end Hk
namespace Hk
open PySem L2 Dv Mw
section
variable {B : Fr} {S : Store} {h : Nat} {X : Hs}
end
end Hk
namespace Lg
open PySem L2 Dv
end Lg
set_option maxHeartbeats 1000000
namespace Dv
open PySem PySem.Spec PyProof.Rows L2
section
variable {P : Program} {w : World} {z TI TO i1 i2 S : Addr} {r1 r2 : List Addr} {xs ys : Array Value} {I1 I2 : Nat → Heap → Prop}
end
section
variable {P : Program} {w : World} {A : Around} {E : Value → Shared → Prop} {s : Shared}
end
end Dv
set_option maxHeartbeats 1000000
namespace Dv
open PySem PySem.Spec PyProof.Rows L2
section
variable {P : Program} {w : World} {h h' : Heap}
end
section
variable {X : Cx} {Wx : WX}
end
end Dv
namespace Dv
open PySem L2
section
variable {K : PySem.W.Frag} {mg : Str → Option Value} {T T' : Tb} {H H' : Hp} {S : Store}
end
section
variable {X : Cx} {Wx : WX} {kx vx : Expr} {ifs : List Expr} {scope : Scope} {own : List (Str × Nat)} {pos apos cpos npos tpos : Pos} {elts : List Expr} {kk : Nat} {sl : List Nat} {gm : D → Env → Option Env} {tt : BM} {tk tv : EM} {i : Nat} {x : Str}
end
end Dv
namespace Lg
open PySem L2 Dv
section
variable {W S : Store} {r : Dv.Env}
end
end Lg
namespace Lg
open PySem L2 Dv Ky
section
variable {W : Store}
end
end Lg
namespace Lg
open PySem L2 Dv Ky
section
variable {W S : Store}
end
end Lg
namespace Lg
open PySem L2 Dv Ky
end Lg
namespace Lg
open PySem L2 Dv Ky
section
variable {S : Store} {hd : List Tm} {as : List At}
end
end Lg
namespace Hk
open PySem L2 Dv Mw
section
variable {B : Fr} {S : Store} {h : Nat} {X : Hs} {tb : List Bt}
end
end Hk
namespace Hk
open PySem L2 Dv Mw
section
variable {B : Fr} {S : Store} {h : Nat} {X : Hs} {tb : List Bt} {w : Str} {r : List Int}
end
end Hk
namespace Hk
open PySem L2 Dv Mw
section
variable {B : Fr} {S : Store} {h : Nat} {X : Hs} {tb : List Bt} {w : Str} {r r2 : List Int} {FA : List D → Store → R D} {ks : List Str} {aq : Str → D} {fo fn : Str → List (List Int)} {g c : List (List Int)}
end
end Hk
namespace Nv
open PySem L2 Dv
section
variable {S : Store} {d : D} {k : Nat} {ns : List Str} {kds : List (Key × D)}
theorem name_abcd {x : Str} (h : x ∈ abcd) : nameB (.str x) = true := by
  simp only [abcd, List.mem_cons, List.not_mem_nil, or_false] at h
  rcases h with rfl | rfl | rfl | rfl <;> decide +kernel
theorem name_pqrs {x : Str} (h : x ∈ pqrs) : nameB (.str x) = true := by
  simp only [pqrs, List.mem_cons, List.not_mem_nil, or_false] at h
  rcases h with rfl | rfl | rfl | rfl <;> decide +kernel
theorem pn_tupI {k : Nat} {xs : List D} (hl : xs.length ≤ 1000) (h : ∀ x ∈ xs, pn k x = true) : pn (k + 1) (.tup xs) = true := by
  show (decide (xs.length ≤ 1000) && xs.all (pn k)) = true
  rw [decide_eq_true hl, List.all_eq_true.mpr h]
  rfl
end
end Nv
namespace Tq
open PySem L2 Dv Sx TL
abbrev Pa := Str × List D
theorem up_of {α : Type} {lt : α → α → Bool} : ∀ {l : List α}, (l.Pairwise fun a b => lt a b = true) → Bk.upB lt l = true
  | [], _ => rfl
  | [_], _ => rfl
  | x :: y :: l, h => by
    rw [List.pairwise_cons] at h
    show (lt x y && Bk.upB lt (y :: l)) = true
    rw [h.1 y List.mem_cons_self, up_of h.2]
    rfl
section
variable {S : Store}
end
end Tq
namespace Tq
open PySem L2 Dv Sx TL
theorem digs_lt : ∀ (l : List Nat) (a : Nat), (∀ c ∈ l, c ≤ 57) → l.foldl (fun acc c => acc * 10 + (c - 48)) a < (a + 1) * 10 ^ l.length
  | [], a, _ => by simp
  | c :: l, a, h => by
    rw [List.foldl_cons, List.length_cons, Nat.pow_succ]
    have hc := h c List.mem_cons_self
    refine Nat.lt_of_lt_of_le (digs_lt l _ fun z hz => h z (List.mem_cons_of_mem _ hz)) ?_
    have : a * 10 + (c - 48) + 1 ≤ (a + 1) * 10 := by omega
    calc (a * 10 + (c - 48) + 1) * 10 ^ l.length ≤ ((a + 1) * 10) * 10 ^ l.length := Nat.mul_le_mul_right _ this
      _ = (a + 1) * (10 ^ l.length * 10) := by rw [Nat.mul_assoc, Nat.mul_comm 10]
theorem int_of_figs4 {x : Str} (h : digsB (figs x) = true) : ∃ n : Int, intText? x = some n ∧ -9999 ≤ n ∧ n ≤ 9999 := by
  unfold digsB at h
  rw [Bool.and_eq_true, decide_eq_true_eq, List.all_eq_true] at h
  obtain ⟨⟨l1, l4⟩, hd⟩ := h
  have fe := figs_eq x
  have hl := figs_len x
  have len : (tl (figs x)).length ≤ 4 := by rw [← len_tl]; exact l4
  have ne : tl (figs x) ≠ [] := fun z => by rw [len_tl, z] at l1; simp at l1
  have ad : NumText.AllDigits (tl (figs x)) := fun c hc => dig_iff.mp (hd c hc)
  have sm := digs_lt (tl (figs x)) 0 fun c hc => (ad c hc).2
  have p4 : 10 ^ (tl (figs x)).length ≤ 10 ^ 4 := Nat.pow_le_pow_right (by decide) len
  have sm2 : NumText.digitsVal (tl (figs x)) ≤ 9999 := by
    unfold NumText.digitsVal
    omega
  cases ht : tl x with
  | nil => rw [ht] at fe; exact absurd fe ne
  | cons c r =>
    rw [ht] at fe
    by_cases c45 : c = 45
    · subst c45
      have fe : tl (figs x) = r := fe
      rw [fe] at ad ne sm2
      exact ⟨_, PySem.intText_neg ht ad ne (by omega), by omega, by omega⟩
    · have fe : tl (figs x) = c :: r := by
        rw [fe]
        split
        · rename_i z
          exact absurd (List.cons.inj z).1 c45
        · rfl
      rw [fe, ← ht] at ad ne sm2
      exact ⟨((NumText.digitsVal (tl x) : Nat) : Int), PySem.intText_digits ad ne (by omega), by omega, by omega⟩
theorem numV4 {x : Str} {n : Int} (h : numV x = some n) : -9999 ≤ n ∧ n ≤ 9999 := by
  unfold numV at h
  split at h
  · rename_i hd
    obtain ⟨m, hm, b⟩ := int_of_figs4 hd
    rw [hm] at h
    have h : (if numT m = x then some m else none) = some n := h
    split at h
    · cases h
      exact b
    · cases h
  · cases h
structure TmP (t : D) : Prop where
  trm : Trm1 t
  tb : Nv.termB t = true
  pn : ∀ k, pn k t = true
  len : (termT t).length ≤ 7
theorem tmP_int {n : Int} (h1 : -9999 ≤ n) (h2 : n ≤ 9999) : TmP (.int n) := ⟨.inr ⟨n, rfl, by omega, by omega⟩, by
    show (_ || (decide (-9999 ≤ n) && decide (n ≤ 9999))) = true
    rw [decide_eq_true h1, decide_eq_true h2, Bool.and_self, Bool.or_true], fun k => by cases k <;> rfl, numT_len (by omega) (by omega)⟩
theorem allO_len {α β : Type} {f : α → Option β} : ∀ {l : List α} {ys : List β}, allO f l = some ys → ys.length = l.length
  | [], ys, h => by cases h; rfl
  | a :: l, ys, h => by
    rw [allO_cons] at h
    cases q : f a with
    | none => rw [q] at h; cases h
    | some b =>
      rw [q, Option.bind_some] at h
      cases q2 : allO f l with
      | none => rw [q2] at h; cases h
      | some zs =>
        rw [q2] at h
        cases h
        rw [List.length_cons, List.length_cons, allO_len q2]
theorem part_len {x y p : Str} (hy : Sep y) (hp : p ∈ Txt.split x y) : p.length ≤ x.length := by
  have hm : tl p ∈ spl (tl y) 0 [] (tl x) := by
    rw [← split_tl hy.ne hy.low]
    exact List.mem_map_of_mem hp
  obtain ⟨a, b⟩ := spl_sub _ _ _ _ _ hm
  rw [len_tl, len_tl x]
  simpa using b
theorem cut_len (x : Str) (lo hi : Option Int) : (cutS x lo hi).length ≤ x.length := by
  rw [len_tl, tl_cut, List.length_take, List.length_drop, ← len_tl]
  omega
section
variable {S : Store}
end
end Tq
namespace Tq
open PySem L2 Dv Sx TL
def t1 : SM := (sSet 1 (mLc (mIter (mBin ixD (mVar 0) (mC (.int 0)))) [2, 3] (tgT 2 (tgsCons (tgN 2) (tgsCons (tgN 3) tgsNil))) mYes (eAtom 2 3 7)))
def t2 : SM := (sRet (mTm joiD (mC (.str ", ")) (mBin addD (mVar 1) (mLc (mIter (mBin ixD (mVar 0) (mC (.int 1)))) [4, 5, 6] (tgT 3 (tgsCons (tgN 4) (tgsCons (tgN 5) (tgsCons (tgN 6) tgsNil)))) mYes eChk))))
section
variable {S : Store} {l : List Pa} {cs : List D}
theorem clo_all {n : Nat} : ∀ {ds : List D}, (∀ d ∈ ds, clo n d = true) → cloL n ds = true
  | [], _ => rfl
  | d :: ds, h => by
    show (clo n d && cloL n ds) = true
    rw [h d List.mem_cons_self, clo_all fun z hz => h z (List.mem_cons_of_mem _ hz)]
    rfl
theorem flat_le {α β : Type} {f : α → List β} {k : Nat} : ∀ {l : List α}, (∀ a ∈ l, (f a).length ≤ k) → (l.flatMap f).length ≤ k * l.length
  | [], _ => Nat.zero_le _
  | a :: l, h => by
    have := flat_le (l := l) fun z hz => h z (List.mem_cons_of_mem _ hz)
    have := h a List.mem_cons_self
    rw [List.flatMap_cons, List.length_append, List.length_cons, Nat.mul_succ]
    omega
section
variable {x : Str}
end
end
end Tq
namespace Tq
open PySem L2 Dv Sx TL
section
variable {S : Store} {l : List Pa} {cs : List D}
def TmN (t : D) : Prop := TmP t ∨ t = .non
end
end Tq
namespace Tq
open PySem L2 Dv Sx TL
section
variable {S : Store}
end
end Tq
namespace Tq
open PySem L2 Dv Sx TL
section
variable {S : Store}
theorem flat_tmN {t : D} (h : TmN t) : flatD t = true := by
  rcases h with h | rfl
  · rcases h.trm with ⟨x, rfl, _⟩ | ⟨i, rfl, _⟩ <;> rfl
  · rfl
theorem eqv_non {t : D} (h : TmN t) : eqvD t .non = decide (t = .non) := by
  rcases h with h | rfl
  · rcases h.trm with ⟨x, rfl, _⟩ | ⟨i, rfl, _⟩
    · rw [decide_eq_false (by simp)]
      show PyData.eqv (.str x) .none = false
      simp [PyData.eqv]
    · rw [decide_eq_false (by simp)]
      show PyData.eqv (.int i) .none = false
      simp [PyData.eqv]
  · rw [decide_eq_true rfl]
    show PyData.eqv .none .none = true
    simp [PyData.eqv]
theorem non_in {ts : List D} (h : ∀ t ∈ ts, TmN t) : inSD .non (.tup ts) S = some (.bl (decide (D.non ∈ ts))) := by
  have h1 : ts.all flatD = true := List.all_eq_true.mpr fun t ht => flat_tmN (h t ht)
  show (inTO .non (.tup ts)).map D.bl = _
  have : inTO .non (.tup ts) = some (ts.any fun z => eqvD z .non) := if_pos ⟨rfl, h1⟩
  rw [this]
  show some (D.bl _) = _
  congr 2
  rw [Bool.eq_iff_iff, List.any_eq_true, decide_eq_true_eq]
  constructor
  · rintro ⟨z, hz, e⟩
    rw [eqv_non (h z hz), decide_eq_true_eq] at e
    rw [← e]
    exact hz
  · intro hz
    exact ⟨.non, hz, by rw [eqv_non (h _ hz), decide_eq_true rfl]⟩
end
end Tq
namespace Tq
open PySem L2 Dv Sx TL
end Tq
namespace Tq
open PySem L2 Dv Sx TL
theorem joinL_exact (P : List Nat) : ∀ l : List (List Nat), l ≠ [] → (joinL P l).length + P.length = (l.map List.length).sum + l.length * P.length
  | [], h => absurd rfl h
  | [p], _ => by simp [joinL]
  | p :: q :: r, _ => by
    have ih := joinL_exact P (q :: r) (by simp)
    show (p ++ (P ++ joinL P (q :: r))).length + _ = _
    rw [List.length_append, List.length_append, List.map_cons, List.sum_cons, List.length_cons, Nat.succ_mul]
    omega
def sumS (l : List Str) : Nat := (l.map (·.length)).sum
theorem join_exact {y : Str} {l : List Str} (h : l ≠ []) : (Txt.join y l).length + y.length = sumS l + l.length * y.length := by
  have e := joinL_exact (tl y) (l.map tl) fun z => h (List.map_eq_nil_iff.mp z)
  rw [← tl_join, List.map_map, List.length_map, ← join_eq] at e
  have e2 : l.map (List.length ∘ tl) = l.map (·.length) := List.map_congr_left fun z _ => (len_tl z).symm
  rw [e2, ← len_tl, ← len_tl] at e
  exact e
theorem split_sum {x y : Str} (hy : Sep y) : sumS (Txt.split x y) + (Txt.split x y).length * y.length = x.length + y.length := by
  rw [← join_exact (split_ne hy.ne hy.low), join_split hy.ne hy.low]
theorem sumS_app (a b : List Str) : sumS (a ++ b) = sumS a + sumS b := by
  unfold sumS
  rw [List.map_append, List.sum_append]
theorem sumS_cons (a : Str) (b : List Str) : sumS (a :: b) = a.length + sumS b := rfl
theorem sumS_rev (a : List Str) : sumS a.reverse = sumS a := by
  unfold sumS
  rw [List.map_reverse, List.sum_reverse]
theorem sumS_cut (l : List Str) (k : Nat) : sumS (l.take k) + sumS (l.drop k) = sumS l := by
  rw [← sumS_app, List.take_append_drop]
theorem Asc.app {x y : Str} (hx : Asc x) (hy : Asc y) (hl : x.length + y.length ≤ 1000) : Asc (x ++ y) :=
  ⟨pl_iff.mpr fun c hc => by
    rw [tl_append] at hc
    rcases List.mem_append.mp hc with hc | hc
    · exact pl_iff.mp hx.ok c hc
    · exact pl_iff.mp hy.ok c hc, by rw [len_app]; exact hl⟩
theorem Asc.join {y : Str} {l : List Str} (hy : Asc y) (h : ∀ p ∈ l, Asc p) (hl : (Txt.join y l).length ≤ 1000) : Asc (Txt.join y l) :=
  ⟨pl_iff.mpr fun c hc => by
    rw [join_eq, tl_join] at hc
    rcases joinL_mem hc with hc | ⟨p, hp, hc⟩
    · exact pl_iff.mp hy.ok c hc
    · obtain ⟨z, hz, rfl⟩ := List.mem_map.mp hp
      exact pl_iff.mp (h z hz).ok c hc, hl⟩
theorem cut_n1 (x : Str) (k : Nat) : (cutS x none (some (k : Int))).length = min k x.length := by
  rw [len_tl, tl_cut, HT.sIx_none, HT.sIx_nat, List.drop_zero, List.length_take, Nat.sub_zero, ← len_tl]
  omega
theorem cut_n2 (x : Str) (k : Nat) : (cutS x (some (k : Int)) none).length = x.length - k := by
  rw [len_tl, tl_cut, HT.sIx_none, HT.sIx_nat, List.length_take, List.length_drop, ← len_tl]
  omega
theorem sep_bl : Sep " " := ⟨by decide +kernel, by decide +kernel⟩
theorem asc_bl : Asc " " := asc_c _
def p1 : SM := (sPar 5 6 (mCons (mApp 3 FDraw (mCons (mVar 0) (mCons (mVar 1) (mCons (mBin addD (mCall lenD (mCons (mVar 2) mNil)) (mC (.int 1))) mNil)))) (mCons (mApp 3 FDraw (mCons (mVar 0) (mCons (mVar 1) (mCons (mC (.int 6)) mNil)))) mNil)))
def p2 : SM := (sSet 4 (mApp 3 FPick (mCons (mVar 0) (mCons (mVar 1) (mCons (mVar 3) mNil)))))
def p3 : SM := (sIf (mT (mBin eqD (mVar 6) (mC (.int 0)))) (sRet (mBin addD (mSlW (mVar 2) mNoP (mP (mVar 5))) (mSlW (mVar 2) (mP (mBin addD (mVar 5) (mC (.int 1)))) mNoP))) sNil)
def p4 : SM := (sIf (mT (mBin eqD (mVar 6) (mC (.int 1)))) (sRet (mBin addD (mBin addD (mSlW (mVar 2) mNoP (mP (mVar 5))) (mVar 4)) (mSlW (mVar 2) (mP (mVar 5)) mNoP))) sNil)
def p5a : SM := (sSet 7 (mTmN splN (mVar 2) (mC (.str " "))))
def p5b : SM := (sSet 8 (mApp 3 FDraw (mCons (mVar 0) (mCons (mVar 1) (mCons (mCall lenD (mCons (mVar 7) mNil)) mNil)))))
def p5c : SM := (sSetSl (mVar 7) (mP (mVar 8)) (mP (mBin addD (mVar 8) (mC (.int 1)))) (mApp 3 FPick (mCons (mVar 0) (mCons (mVar 1) (mCons (mLst (mCons (mLst mNil) (mCons (mBin mulD (mSlW (mVar 7) (mP (mVar 8)) (mP (mBin addD (mVar 8) (mC (.int 1))))) (mC (.int 2))) (mCons (mLst (mCons (mVar 4) mNil)) (mCons (mLst (mCons (mVar 4) (mCons (mBin ixD (mVar 7) (mVar 8)) mNil))) mNil))))) mNil)))))
def p5d : SM := (sRet (mTm joiD (mC (.str " ")) (mVar 7)))
def p6d : SM := (sRet (mTm joiD (mC (.str " ")) (mBin addD (mSlW (mVar 7) mNoP (mP (mVar 8))) (mUn revLD (mSlW (mVar 7) (mP (mVar 8)) mNoP)))))
def p5 : SM := (sIf (mT (mBin eqD (mVar 6) (mC (.int 2)))) (sSeq p5a (sSeq p5b (sSeq p5c p5d))) sNil)
def p6 : SM := (sIf (mT (mBin eqD (mVar 6) (mC (.int 3)))) (sSeq p5a (sSeq p5b p6d)) sNil)
def p7 : SM := (sRet (mBin addD (mBin addD (mSlW (mVar 2) mNoP (mP (mVar 5))) (mVar 4)) (mSlW (mVar 2) (mP (mBin addD (mVar 5) (mC (.int 1)))) mNoP)))
def FSp : List D → Store → R D := runT 9 (sSeq p1 (sSeq p2 (sSeq p3 (sSeq p4 (sSeq p5 (sSeq p6 p7))))))
section
variable {S : Store} {ns : List Int} {t n : Nat} {x : Str} {sg : List Str}
theorem sl_lo {m : EM} {r : Dv.Env} {k : Nat} (hx : Asc x) {i : Nat} (hi : r[i]? = some (some (.str x))) (e : m r S = .ok (.int (k : Nat)) S) : mSlW (mVar i) mNoP (mP m) r S = .ok (.str (cutS x none (some (k : Int)))) S := by
  show (mVar i r S).bind _ = _
  rw [var_of hi, rb_ok]
  show ((R.ok none S).bind fun lo S2 => (mP m r S2).bind fun hi S3 => ofO (slWD (.str x) lo hi S3) S3) = _
  rw [rb_ok]
  show (((m r S).bind fun d S1 => match d with
    | .int i => R.ok (some i) S1
    | _ => .bad).bind fun hi S3 => ofO (slWD (.str x) none hi S3) S3) = _
  rw [e, rb_ok]
  show ofO (slWD (.str x) none (some (k : Int)) S) S = _
  rw [hx.sl]
  rfl
theorem sl_hi {m : EM} {r : Dv.Env} {k : Nat} (hx : Asc x) {i : Nat} (hi : r[i]? = some (some (.str x))) (e : m r S = .ok (.int (k : Nat)) S) : mSlW (mVar i) (mP m) mNoP r S = .ok (.str (cutS x (some (k : Int)) none)) S := by
  show (mVar i r S).bind _ = _
  rw [var_of hi, rb_ok]
  show (((m r S).bind fun d S1 => match d with
    | .int i => R.ok (some i) S1
    | _ => .bad).bind fun lo S2 => (R.ok none S2).bind fun hi S3 => ofO (slWD (.str x) lo hi S3) S3) = _
  rw [e, rb_ok]
  show ofO (slWD (.str x) (some (k : Int)) none S) S = _
  rw [hx.sl]
  rfl
theorem add_txt {a b : EM} {r : Dv.Env} {y z : Str} (e : a r S = .ok (.str y) S) (e' : b r S = .ok (.str z) S) (hl : y.length + z.length ≤ 100000) : mBin addD a b r S = .ok (.str (y ++ z)) S := bin_of e e' (if_pos hl)
theorem sl_loc {ml mh : OM} {r : Dv.Env} {i L : Nat} {lo hi : Option Int} {xs : List D} (h : r[i]? = some (some (.loc L))) (hS : S[L]? = some (.lst xs)) (e1 : ml r S = .ok lo S) (e2 : mh r S = .ok hi S) : mSlW (mVar i) ml mh r S = .ok (.lst (cutL xs lo hi)) S := by
  show (mVar i r S).bind _ = _
  rw [var_of h, rb_ok, e1, rb_ok, e2, rb_ok]
  show ofO (match S[L]? with
    | some (.lst xs) => some (D.lst (cutL xs lo hi))
    | _ => none) S = _
  rw [hS]
  rfl
theorem mp_of {m : EM} {r : Dv.Env} {k : Int} (e : m r S = .ok (.int k) S) : mP m r S = .ok (some k) S := by
  show ((m r S).bind fun d S1 => match d with
    | .int i => R.ok (some i) S1
    | _ => .bad) = _
  rw [e, rb_ok]
theorem cut_mid {α : Type} {l : List α} {k : Nat} (h : k < l.length) : cutL l (some (k : Int)) (some ((k : Int) + 1)) = [l[k]] := by
  unfold cutL
  rw [show ((k : Int) + 1) = ((k + 1 : Nat) : Int) from rfl, HT.sIx_nat, HT.sIx_nat, Nat.min_eq_left (Nat.le_of_lt h), Nat.min_eq_left h, show k.succ - k = 1 by omega, List.drop_eq_getElem_cons h]
  rfl
abbrev PE9 (ns : List Int) (t : Nat) (x : Str) (sg : List Str) (y4 y5 y6 y7 y8 : Option D) : Dv.Env := [some (.scr ns), some (.loc t), some (.str x), some (.lst (sg.map D.str)), y4, y5, y6, y7, y8]
theorem add1 {r : Dv.Env} {i k : Nat} (h : r[i]? = some (some (.int (k : Nat)))) : mBin addD (mVar i) (mC (.int 1)) r S = .ok (.int ((k + 1 : Nat) : Int)) S := bin_of (var_of h) rfl rfl
theorem eqI {r : Dv.Env} {i k : Nat} {m : Int} (h : r[i]? = some (some (.int (k : Nat)))) : mT (mBin eqD (mVar i) (mC (.int m))) r S = .ok (decide ((k : Int) = m)) S := t_of (bin_of (var_of h) rfl rfl)
theorem p5ab (h63 : ns.length ≤ 63) (hx : Asc x) (tw : Twn t n S) (hn : n < 99990) {y4 y5 y6 y7 y8 : Option D} : ∃ (k : Nat) (S1 : Store), k < (Txt.split x " ").length ∧ Twn t (n + 2) S1 ∧ Dif t (S ++ [.lst ((Txt.split x " ").map D.str)]) S1 ∧ ∀ z, sSeq p5a (sSeq p5b z) (PE9 ns t x sg y4 y5 y6 y7 y8) S = z (PE9 ns t x sg y4 y5 y6 (some (.loc S.length)) (some (.int (k : Nat)))) S1 := by
  have e0 : mTmN splN (mVar 2) (mC (.str " ")) (PE9 ns t x sg y4 y5 y6 y7 y8) S = .ok (.loc S.length) (S ++ [.lst ((Txt.split x " ").map D.str)]) := by
    show (mVar 2 (PE9 ns t x sg y4 y5 y6 y7 y8) S).bind _ = _
    rw [var_of (v := .str x) rfl, rb_ok]
    show newO (splN (.str x) (.str " ") S) S = _
    have c : splP x " " = some (Txt.split x " ") := by
      unfold splP
      refine if_pos ⟨?_, by have := hx.len; omega⟩
      rfl
    have : splN (.str x) (.str " ") S = some ((Txt.split x " ").map D.str) := by
      show (splP x " ").map (fun ys => ys.map D.str) = _
      rw [c]
      rfl
    rw [this]
    rfl
  have e1 : p5a (PE9 ns t x sg y4 y5 y6 y7 y8) S = .ok .next (PE9 ns t x sg y4 y5 y6 (some (.loc S.length)) y8) (S ++ [.lst ((Txt.split x " ").map D.str)]) := (set_of e0).trans rfl
  have ne : 0 < (Txt.split x " ").length := List.length_pos_iff.mpr (split_ne sep_bl.ne sep_bl.low)
  obtain ⟨k, S1, hk, tw1, d1, e2⟩ := draw_tw (many := ((Txt.split x " ").length : Int)) h63 (twn_app (E := [.lst ((Txt.split x " ").map D.str)]) tw) (by omega) (by omega)
  have el : mCall lenD (mCons (mVar 7) mNil) (PE9 ns t x sg y4 y5 y6 (some (.loc S.length)) y8) (S ++ [.lst ((Txt.split x " ").map D.str)]) = .ok (.int ((Txt.split x " ").length : Nat)) (S ++ [.lst ((Txt.split x " ").map D.str)]) := by
    refine call_of (cons_of (var_of rfl) rfl) ?_
    have := Nv.last_at (S := S) (.lst ((Txt.split x " ").map D.str))
    simp [this]
  have e3 : p5b (PE9 ns t x sg y4 y5 y6 (some (.loc S.length)) y8) (S ++ [.lst ((Txt.split x " ").map D.str)]) = .ok .next (PE9 ns t x sg y4 y5 y6 (some (.loc S.length)) (some (.int (k : Nat)))) S1 := (set_of (run_app (cons_of (var_of rfl) (cons_of (var_of rfl) (cons_of el rfl))) rfl e2)).trans rfl
  exact ⟨k, S1, by omega, tw1, d1, fun z => by rw [seq_ok e1, seq_ok e3]⟩
theorem join_bl {T : Store} {L : Nat} {ws : List Str} (hT : T[L]? = some (.lst (ws.map D.str))) (h : sumS ws + ws.length ≤ 100000) : joiD (.str " ") (.loc L) T = some (.str (Txt.join " " ws)) := by
  show (match T[L]? with
    | some (.lst ds) => match strsOf ds with
      | some ys => if (ys.map Str.length).sum + ys.length * (" " : Str).length ≤ 100000 then some (D.str (Txt.join " " ys)) else none
      | none => none
    | _ => none) = _
  rw [hT]
  show (match strsOf (ws.map D.str) with
    | some ys => if (ys.map Str.length).sum + ys.length * (" " : Str).length ≤ 100000 then some (D.str (Txt.join " " ys)) else none
    | none => none) = _
  rw [strsOf_map]
  refine if_pos ?_
  have l1 : (" " : Str).length = 1 := rfl
  rw [l1, Nat.mul_one]
  exact h
theorem join_bl2 {T : Store} {ws : List Str} (h : sumS ws + ws.length ≤ 100000) : joiD (.str " ") (.lst (ws.map D.str)) T = some (.str (Txt.join " " ws)) := by
  show (match strsOf (ws.map D.str) with
    | some ys => if (ys.map Str.length).sum + ys.length * (" " : Str).length ≤ 100000 then some (D.str (Txt.join " " ys)) else none
    | none => none) = _
  rw [strsOf_map]
  refine if_pos ?_
  have l1 : (" " : Str).length = 1 := rfl
  rw [l1, Nat.mul_one]
  exact h
theorem join_le (ws : List Str) : (Txt.join " " ws).length ≤ sumS ws + ws.length := by
  have := join_len " " ws
  have l1 : (" " : Str).length = 1 := rfl
  rw [l1, Nat.mul_one] at this
  exact this
theorem asc_join {ws : List Str} (h : ∀ p ∈ ws, Asc p) (hl : sumS ws + ws.length ≤ 1000) : Asc (Txt.join " " ws) := asc_bl.join h (Nat.le_trans (join_le ws) hl)
def putW (w s : Str) : List (List Str) := [[], [w, w], [s], [s, w]]
theorem putW_ok {w s : Str} {m : Nat} (hw : w.length ≤ m) (hs : s.length ≤ 6) {ys : List Str} (h : ys ∈ putW w s) : sumS ys + ys.length ≤ w.length + 2 + max m 6 ∧ ∀ p ∈ ys, p = w ∨ p = s := by
  unfold putW at h
  simp only [List.mem_cons, List.not_mem_nil, or_false] at h
  rcases h with rfl | rfl | rfl | rfl
  · exact ⟨by simp [sumS], fun p h => nomatch h⟩
  · refine ⟨?_, fun p h => ?_⟩
    · simp [sumS]
      omega
    · simp at h
      exact .inl h
  · refine ⟨?_, fun p h => ?_⟩
    · simp [sumS]
      omega
    · simp at h
      exact .inr h
  · refine ⟨?_, fun p h => ?_⟩
    · simp [sumS]
      omega
    · simp at h
      exact h.symm
theorem p5c_ok (h63 : ns.length ≤ 63) {ws : List Str} {s : Str} {k L : Nat} (hk : k < ws.length) (hL : S[L]? = some (.lst (ws.map D.str))) (hLt : L ≠ t) (tw : Twn t n S) (hn : n < 99990) (hws : ws.length ≤ 1000) {y5 y6 : Option D} : ∃ (ys : List Str) (S1 : Store), ys ∈ putW (ws[k]) s ∧ Twn t (n + 2) S1 ∧ S1.length = S.length ∧ (∀ i, i ≠ t → i ≠ L → S1[i]? = S[i]?) ∧ S1[L]? = some (.lst ((ws.take k ++ ys ++ ws.drop (k + 1)).map D.str)) ∧ p5c (PE9 ns t x sg (some (.str s)) y5 y6 (some (.loc L)) (some (.int (k : Nat)))) S = .ok .next (PE9 ns t x sg (some (.str s)) y5 y6 (some (.loc L)) (some (.int (k : Nat)))) S1 := by
  have lt : L < S.length := (List.getElem?_eq_some_iff.mp hL).1
  have v8 : mVar 8 (PE9 ns t x sg (some (.str s)) y5 y6 (some (.loc L)) (some (.int (k : Nat)))) S = .ok (.int (k : Nat)) S := rfl
  have a8 : mBin addD (mVar 8) (mC (.int 1)) (PE9 ns t x sg (some (.str s)) y5 y6 (some (.loc L)) (some (.int (k : Nat)))) S = .ok (.int ((k : Int) + 1)) S := rfl
  have e1 : mBin mulD (mSlW (mVar 7) (mP (mVar 8)) (mP (mBin addD (mVar 8) (mC (.int 1))))) (mC (.int 2)) (PE9 ns t x sg (some (.str s)) y5 y6 (some (.loc L)) (some (.int (k : Nat)))) S = .ok (.lst ([ws[k], ws[k]].map D.str)) S := by
    have c := cut_mid (l := ws.map D.str) (k := k) (by rw [List.length_map]; exact hk)
    rw [List.getElem_map] at c
    have e := sl_loc (S := S) (i := 7) (L := L) (r := PE9 ns t x sg (some (.str s)) y5 y6 (some (.loc L)) (some (.int (k : Nat)))) rfl hL (mp_of v8) (mp_of a8)
    rw [c] at e
    refine bin_of e rfl ?_
    show (if -100000 ≤ (2 : Int) ∧ (2 : Int) ≤ 100000 ∧ [D.str ws[k]].length * (2 : Int).toNat ≤ 100000 then some (D.lst (List.replicate (2 : Int).toNat [D.str ws[k]]).flatten) else none) = _
    exact if_pos ⟨by decide, by decide, by simp⟩
  have e2 : mBin ixD (mVar 7) (mVar 8) (PE9 ns t x sg (some (.str s)) y5 y6 (some (.loc L)) (some (.int (k : Nat)))) S = .ok (.str ws[k]) S := by
    refine bin_of (var_of rfl) (var_of rfl) ?_
    show (match S[L]? with
      | some (.lst xs) => atI xs (k : Int)
      | _ => none) = _
    rw [hL]
    show atI (ws.map D.str) (k : Int) = _
    exact atI_nat (by rw [List.getElem?_map, List.getElem?_eq_getElem hk]; rfl)
  have e3 : mLst (mCons (mLst mNil) (mCons (mBin mulD (mSlW (mVar 7) (mP (mVar 8)) (mP (mBin addD (mVar 8) (mC (.int 1))))) (mC (.int 2))) (mCons (mLst (mCons (mVar 4) mNil)) (mCons (mLst (mCons (mVar 4) (mCons (mBin ixD (mVar 7) (mVar 8)) mNil))) mNil)))) (PE9 ns t x sg (some (.str s)) y5 y6 (some (.loc L)) (some (.int (k : Nat)))) S = .ok (.lst ((putW ws[k] s).map fun l => .lst (l.map D.str))) S :=
    lst_of (cons_of (lst_of nil_of (by simp)) (cons_of e1 (cons_of (lst_of (cons_of (var_of rfl) rfl) (by simp)) (cons_of (lst_of (cons_of (var_of rfl) (cons_of e2 rfl)) (by simp)) rfl)))) (by simp [putW])
  obtain ⟨j, d, S1, hj, tw1, d1, e4⟩ := pick_tw (seq := .lst ((putW ws[k] s).map fun l => D.lst (l.map D.str))) h63 tw hn (.inl rfl) (by simp [putW]) (fun m => (cloL_iff m _).mpr fun d hd => by
    obtain ⟨l, _, rfl⟩ := List.mem_map.mp hd
    exact cloL_strs m l)
  obtain ⟨ys, hys, rfl⟩ := List.mem_map.mp (List.mem_of_getElem? hj)
  have hL1 : S1[L]? = some (.lst (ws.map D.str)) := by rw [d1.other hLt]; exact hL
  have yl : ys.length ≤ 2 := by
    unfold putW at hys
    simp only [List.mem_cons, List.not_mem_nil, or_false] at hys
    rcases hys with rfl | rfl | rfl | rfl <;> simp
  refine ⟨ys, S1.set L (.lst ((ws.take k ++ ys ++ ws.drop (k + 1)).map D.str)), hys, twn_set hLt tw1, by rw [List.length_set, d1.len], fun i h1 h2 => by rw [List.getElem?_set_ne (fun q => h2 q.symm), d1.other h1], by rw [List.getElem?_set_self (by rw [d1.len]; exact lt)], ?_⟩
  have e5 : mApp 3 FPick (mCons (mVar 0) (mCons (mVar 1) (mCons (mLst (mCons (mLst mNil) (mCons (mBin mulD (mSlW (mVar 7) (mP (mVar 8)) (mP (mBin addD (mVar 8) (mC (.int 1))))) (mC (.int 2))) (mCons (mLst (mCons (mVar 4) mNil)) (mCons (mLst (mCons (mVar 4) (mCons (mBin ixD (mVar 7) (mVar 8)) mNil))) mNil))))) mNil))) (PE9 ns t x sg (some (.str s)) y5 y6 (some (.loc L)) (some (.int (k : Nat)))) S = .ok (.lst (ys.map D.str)) S1 := run_app (cons_of (var_of rfl) (cons_of (var_of rfl) (cons_of e3 rfl))) rfl e4
  have v8' : mP (mVar 8) (PE9 ns t x sg (some (.str s)) y5 y6 (some (.loc L)) (some (.int (k : Nat)))) S1 = .ok (some (k : Int)) S1 := mp_of rfl
  have a8' : mP (mBin addD (mVar 8) (mC (.int 1))) (PE9 ns t x sg (some (.str s)) y5 y6 (some (.loc L)) (some (.int (k : Nat)))) S1 = .ok (some ((k : Int) + 1)) S1 := mp_of rfl
  unfold p5c sSetSl
  rw [e5, bs_ok, var_of (v := .loc L) rfl, bs_ok, v8', bs_ok, a8', bs_ok]
  simp only [hL1]
  rw [if_pos ⟨by omega, by omega, by rw [List.length_map]; omega, by rw [List.length_map, List.length_map]; omega⟩]
  rw [List.map_append, List.map_append, List.map_take, List.map_drop]
  rfl
theorem rev_loc {m : EM} {r : Dv.Env} {xs : List D} (e : m r S = .ok (.lst xs) S) : mUn revLD m r S = .ok (.lst xs.reverse) S := un_of e rfl
theorem spoilt_ok (h63 : ns.length ≤ 63) (hx : Asc x) (hl : x.length ≤ 140) (hs : ∀ s ∈ sg, Asc s ∧ s.length ≤ 6) (hne : sg ≠ []) (tw : Twn t n S) (hn : n ≤ 90000) : ∃ y S', FSp [.scr ns, .loc t, .str x, .lst (sg.map D.str)] S = .ok (.str y) S' ∧ Asc y ∧ y.length ≤ 2 * x.length + 8 ∧ Twn t (n + 10) S' ∧ Dif t S S' := by
  have ht := twn_lt tw
  obtain ⟨at', S1, ha, tw1, d1, e1⟩ := draw_tw (many := (x.length : Int) + 1) h63 tw (by omega) (by omega)
  obtain ⟨tn, S2, hb, tw2, d2, e2⟩ := draw_tw (many := 6) h63 tw1 (by omega) (by omega)
  obtain ⟨j, d, S3, hj, tw3, d3, e3⟩ := pick_tw (seq := .lst (sg.map D.str)) h63 tw2 (by omega) (.inl rfl) (fun z => hne (List.map_eq_nil_iff.mp z)) (fun m => cloL_strs m sg)
  obtain ⟨s, hs', rfl⟩ := List.mem_map.mp (List.mem_of_getElem? hj)
  obtain ⟨sa, sl⟩ := hs s hs'
  have d03 := (d1.trans d2).trans d3
  have s1 : p1 (PE9 ns t x sg none none none none none) S = .ok .next (PE9 ns t x sg none (some (.int (at' : Nat))) (some (.int (tn : Nat))) none none) S2 := by
    have el : mBin addD (mCall lenD (mCons (mVar 2) mNil)) (mC (.int 1)) (PE9 ns t x sg none none none none none) S = .ok (.int ((x.length : Int) + 1)) S := bin_of (call_of (cons_of (var_of rfl) rfl) hx.len2) rfl rfl
    exact (par_of (cons_of (run_app (cons_of (var_of rfl) (cons_of (var_of rfl) (cons_of el rfl))) rfl e1) (cons_of (run_app (cons_of (var_of rfl) (cons_of (var_of rfl) (cons_of rfl rfl))) rfl e2) rfl))).trans rfl
  have s2 : p2 (PE9 ns t x sg none (some (.int (at' : Nat))) (some (.int (tn : Nat))) none none) S2 = .ok .next (PE9 ns t x sg (some (.str s)) (some (.int (at' : Nat))) (some (.int (tn : Nat))) none none) S3 := (set_of (run_app (cons_of (var_of rfl) (cons_of (var_of rfl) (cons_of (var_of rfl) rfl))) rfl e3)).trans rfl
  have start : FSp [.scr ns, .loc t, .str x, .lst (sg.map D.str)] S = finT S (sSeq p3 (sSeq p4 (sSeq p5 (sSeq p6 p7))) (PE9 ns t x sg (some (.str s)) (some (.int (at' : Nat))) (some (.int (tn : Nat))) none none) S3) := by
    show finT S (sSeq p1 (sSeq p2 (sSeq p3 (sSeq p4 (sSeq p5 (sSeq p6 p7))))) (PE9 ns t x sg none none none none none) S) = _
    rw [seq_ok s1, seq_ok s2]
  rw [start]
  have fin : ∀ {rho : Dv.Env} {y : Str}, Asc y → y.length ≤ 2 * x.length + 8 → ∃ y' S', finT S (.ok (.ret (.str y)) rho S3) = .ok (.str y') S' ∧ Asc y' ∧ y'.length ≤ 2 * x.length + 8 ∧ Twn t (n + 10) S' ∧ Dif t S S' := fun {rho y} a b => ⟨y, S3, d03.fin rfl, a, b, tw3.mono (by omega), d03⟩
  have c1 := hx.cut none (some (at' : Int))
  have n1 := cut_n1 x at'
  have c2 := hx.cut (some ((at' + 1 : Nat) : Int)) none
  have n2 := cut_n2 x (at' + 1)
  have c3 := hx.cut (some (at' : Int)) none
  have n3 := cut_n2 x at'
  have g1 : mSlW (mVar 2) mNoP (mP (mVar 5)) (PE9 ns t x sg (some (.str s)) (some (.int (at' : Nat))) (some (.int (tn : Nat))) none none) S3 = .ok (.str (cutS x none (some (at' : Int)))) S3 := sl_lo hx rfl rfl
  have g2 : mSlW (mVar 2) (mP (mBin addD (mVar 5) (mC (.int 1)))) mNoP (PE9 ns t x sg (some (.str s)) (some (.int (at' : Nat))) (some (.int (tn : Nat))) none none) S3 = .ok (.str (cutS x (some ((at' + 1 : Nat) : Int)) none)) S3 := sl_hi hx rfl (add1 rfl)
  have g3 : mSlW (mVar 2) (mP (mVar 5)) mNoP (PE9 ns t x sg (some (.str s)) (some (.int (at' : Nat))) (some (.int (tn : Nat))) none none) S3 = .ok (.str (cutS x (some (at' : Int)) none)) S3 := sl_hi hx rfl rfl
  have q0 := eqI (S := S3) (r := PE9 ns t x sg (some (.str s)) (some (.int (at' : Nat))) (some (.int (tn : Nat))) none none) (i := 6) (k := tn) (m := 0) rfl
  have q1 := eqI (S := S3) (r := PE9 ns t x sg (some (.str s)) (some (.int (at' : Nat))) (some (.int (tn : Nat))) none none) (i := 6) (k := tn) (m := 1) rfl
  have q2 := eqI (S := S3) (r := PE9 ns t x sg (some (.str s)) (some (.int (at' : Nat))) (some (.int (tn : Nat))) none none) (i := 6) (k := tn) (m := 2) rfl
  have q3 := eqI (S := S3) (r := PE9 ns t x sg (some (.str s)) (some (.int (at' : Nat))) (some (.int (tn : Nat))) none none) (i := 6) (k := tn) (m := 3) rfl
  have skip : ∀ {b : BM} {a z : SM} {r : Dv.Env}, b r S3 = .ok false S3 → sSeq (sIf b a sNil) z r S3 = z r S3 := fun e => seq_ok ((if_no e).trans rfl)
  have take : ∀ {b : BM} {a z : SM} {r r' : Dv.Env} {v : D} {T : Store}, b r S3 = .ok true S3 → a r S3 = .ok (.ret v) r' T → sSeq (sIf b a sNil) z r S3 = .ok (.ret v) r' T := fun e e' => seq_ret ((if_yes e).trans e')
  by_cases t0 : tn = 0
  · rw [decide_eq_true (by omega)] at q0
    have : sSeq p3 (sSeq p4 (sSeq p5 (sSeq p6 p7))) (PE9 ns t x sg (some (.str s)) (some (.int (at' : Nat))) (some (.int (tn : Nat))) none none) S3 = .ok (.ret (.str (cutS x none (some (at' : Int)) ++ cutS x (some ((at' + 1 : Nat) : Int)) none))) (PE9 ns t x sg (some (.str s)) (some (.int (at' : Nat))) (some (.int (tn : Nat))) none none) S3 := take q0 (ret_of (add_txt g1 g2 (by omega)))
    rw [this]
    exact fin (c1.app c2 (by omega)) (by rw [len_app]; omega)
  rw [decide_eq_false (by omega)] at q0
  by_cases t1 : tn = 1
  · rw [decide_eq_true (by omega)] at q1
    have : sSeq p3 (sSeq p4 (sSeq p5 (sSeq p6 p7))) (PE9 ns t x sg (some (.str s)) (some (.int (at' : Nat))) (some (.int (tn : Nat))) none none) S3 = .ok (.ret (.str ((cutS x none (some (at' : Int)) ++ s) ++ cutS x (some (at' : Int)) none))) (PE9 ns t x sg (some (.str s)) (some (.int (at' : Nat))) (some (.int (tn : Nat))) none none) S3 := (skip q0).trans (take q1 (ret_of (add_txt (add_txt g1 (var_of rfl) (by omega)) g3 (by rw [len_app]; omega))))
    rw [this]
    exact fin ((c1.app sa (by omega)).app c3 (by rw [len_app]; omega)) (by rw [len_app, len_app]; omega)
  rw [decide_eq_false (by omega)] at q1
  have l1 : (" " : Str).length = 1 := rfl
  have sw := split_sum (x := x) sep_bl
  rw [l1, Nat.mul_one] at sw
  have hp : ∀ p ∈ Txt.split x " ", Asc p := fun p hp => hx.part sep_bl hp
  have hpl : ∀ p ∈ Txt.split x " ", p.length ≤ x.length := fun p hp => part_len sep_bl hp
  have keep3 : ∀ {T : Store}, (∀ i, i ≠ t → i ≠ S3.length → T[i]? = (S3 ++ [.lst ((Txt.split x " ").map D.str)])[i]?) → ∀ i, i < S.length → i ≠ t → T[i]? = S[i]? := fun h i hi h1 => by
    rw [h i h1 (by rw [d03.len]; omega), List.getElem?_append_left (by rw [d03.len]; exact hi), d03.other h1]
  by_cases t2 : tn = 2
  · rw [decide_eq_true (by omega)] at q2
    obtain ⟨k, S4, hk, tw4, d4, e4⟩ := p5ab (sg := sg) h63 hx tw3 (by omega) (y4 := some (.str s)) (y5 := some (.int (at' : Nat))) (y6 := some (.int (tn : Nat))) (y7 := none) (y8 := none)
    have hL : S4[S3.length]? = some (.lst ((Txt.split x " ").map D.str)) := by rw [d4.other (by rw [d03.len]; omega)]; exact Nv.last_at _
    obtain ⟨ys, S5, hys, tw5, len5, ot5, hL5, e5⟩ := p5c_ok (x := x) (sg := sg) h63 (s := s) hk hL (by rw [d03.len]; omega) tw4 (by omega) (by omega) (y5 := some (.int (at' : Nat))) (y6 := some (.int (tn : Nat)))
    have hwm : (Txt.split x " ")[k] ∈ Txt.split x " " := List.getElem_mem hk
    obtain ⟨b1, b2⟩ := putW_ok (m := x.length) (hpl _ hwm) sl hys
    have sb : sumS ((Txt.split x " ").take k ++ ys ++ (Txt.split x " ").drop (k + 1)) + ((Txt.split x " ").take k ++ ys ++ (Txt.split x " ").drop (k + 1)).length ≤ 2 * x.length + 8 := by
      have a1 := sumS_cut (Txt.split x " ") k
      rw [List.drop_eq_getElem_cons hk, sumS_cons] at a1
      rw [sumS_app, sumS_app, List.length_append, List.length_append, List.length_take, List.length_drop]
      omega
    have pa : ∀ p ∈ (Txt.split x " ").take k ++ ys ++ (Txt.split x " ").drop (k + 1), Asc p := fun p h => by
      rcases List.mem_append.mp h with h | h
      · rcases List.mem_append.mp h with h | h
        · exact hp p (List.mem_of_mem_take h)
        · rcases b2 p h with rfl | rfl
          · exact hp _ hwm
          · exact sa
      · exact hp p (List.mem_of_mem_drop h)
    have e6 : p5d (PE9 ns t x sg (some (.str s)) (some (.int (at' : Nat))) (some (.int (tn : Nat))) (some (.loc S3.length)) (some (.int (k : Nat)))) S5 = .ok (.ret (.str (Txt.join " " ((Txt.split x " ").take k ++ ys ++ (Txt.split x " ").drop (k + 1))))) (PE9 ns t x sg (some (.str s)) (some (.int (at' : Nat))) (some (.int (tn : Nat))) (some (.loc S3.length)) (some (.int (k : Nat)))) S5 := ret_of (tm_of rfl (var_of rfl) (join_bl hL5 (by omega)))
    have : sSeq p3 (sSeq p4 (sSeq p5 (sSeq p6 p7))) (PE9 ns t x sg (some (.str s)) (some (.int (at' : Nat))) (some (.int (tn : Nat))) none none) S3 = .ok (.ret (.str (Txt.join " " ((Txt.split x " ").take k ++ ys ++ (Txt.split x " ").drop (k + 1))))) (PE9 ns t x sg (some (.str s)) (some (.int (at' : Nat))) (some (.int (tn : Nat))) (some (.loc S3.length)) (some (.int (k : Nat)))) S5 := (skip q0).trans ((skip q1).trans (take q2 ((e4 _).trans ((seq_ok e5).trans e6))))
    rw [this]
    obtain ⟨S', f1, f2, f3⟩ := fin_dif (S := S) (S1 := S5) (t := t) (n := n + 10) (rho := PE9 ns t x sg (some (.str s)) (some (.int (at' : Nat))) (some (.int (tn : Nat))) (some (.loc S3.length)) (some (.int (k : Nat)))) (d := .str (Txt.join " " ((Txt.split x " ").take k ++ ys ++ (Txt.split x " ").drop (k + 1)))) ht (by rw [len5, d4.len, List.length_append, d03.len]; omega) (tw5.mono (by omega)) (keep3 fun i h1 h2 => by rw [ot5 i h1 h2, d4.other h1]) rfl
    exact ⟨_, S', f1, asc_join pa (by omega), Nat.le_trans (join_le _) sb, f2, f3⟩
  rw [decide_eq_false (by omega)] at q2
  by_cases t3 : tn = 3
  · rw [decide_eq_true (by omega)] at q3
    obtain ⟨k, S4, hk, tw4, d4, e4⟩ := p5ab (sg := sg) h63 hx tw3 (by omega) (y4 := some (.str s)) (y5 := some (.int (at' : Nat))) (y6 := some (.int (tn : Nat))) (y7 := none) (y8 := none)
    have hL : S4[S3.length]? = some (.lst ((Txt.split x " ").map D.str)) := by rw [d4.other (by rw [d03.len]; omega)]; exact Nv.last_at _
    have m1 := sl_loc (S := S4) (i := 7) (r := PE9 ns t x sg (some (.str s)) (some (.int (at' : Nat))) (some (.int (tn : Nat))) (some (.loc S3.length)) (some (.int (k : Nat)))) (ml := mNoP) (mh := mP (mVar 8)) (lo := none) (hi := some (k : Int)) rfl hL rfl (mp_of rfl)
    have m2 := sl_loc (S := S4) (i := 7) (r := PE9 ns t x sg (some (.str s)) (some (.int (at' : Nat))) (some (.int (tn : Nat))) (some (.loc S3.length)) (some (.int (k : Nat)))) (ml := mP (mVar 8)) (mh := mNoP) (lo := some (k : Int)) (hi := none) rfl hL (mp_of rfl) rfl
    rw [cut_take, ← List.map_take] at m1
    rw [cut_drop _ _ (by rw [List.length_map]; omega), ← List.map_drop] at m2
    have sb : sumS ((Txt.split x " ").take k ++ ((Txt.split x " ").drop k).reverse) + ((Txt.split x " ").take k ++ ((Txt.split x " ").drop k).reverse).length ≤ 2 * x.length + 8 := by
      have a1 := sumS_cut (Txt.split x " ") k
      rw [sumS_app, sumS_rev, List.length_append, List.length_reverse, List.length_take, List.length_drop]
      omega
    have pa : ∀ p ∈ (Txt.split x " ").take k ++ ((Txt.split x " ").drop k).reverse, Asc p := fun p h => by
      rcases List.mem_append.mp h with h | h
      · exact hp p (List.mem_of_mem_take h)
      · exact hp p (List.mem_of_mem_drop (List.mem_reverse.mp h))
    have e5 : mBin addD (mSlW (mVar 7) mNoP (mP (mVar 8))) (mUn revLD (mSlW (mVar 7) (mP (mVar 8)) mNoP)) (PE9 ns t x sg (some (.str s)) (some (.int (at' : Nat))) (some (.int (tn : Nat))) (some (.loc S3.length)) (some (.int (k : Nat)))) S4 = .ok (.lst (((Txt.split x " ").take k ++ ((Txt.split x " ").drop k).reverse).map D.str)) S4 := by
      refine bin_of m1 (rev_loc m2) ?_
      refine (if_pos ?_).trans (by rw [List.map_append, List.map_reverse])
      rw [List.length_map, List.length_reverse, List.length_map, List.length_take, List.length_drop]
      omega
    have e6 : p6d (PE9 ns t x sg (some (.str s)) (some (.int (at' : Nat))) (some (.int (tn : Nat))) (some (.loc S3.length)) (some (.int (k : Nat)))) S4 = .ok (.ret (.str (Txt.join " " ((Txt.split x " ").take k ++ ((Txt.split x " ").drop k).reverse)))) (PE9 ns t x sg (some (.str s)) (some (.int (at' : Nat))) (some (.int (tn : Nat))) (some (.loc S3.length)) (some (.int (k : Nat)))) S4 := ret_of (tm_of rfl e5 (join_bl2 (by omega)))
    have : sSeq p3 (sSeq p4 (sSeq p5 (sSeq p6 p7))) (PE9 ns t x sg (some (.str s)) (some (.int (at' : Nat))) (some (.int (tn : Nat))) none none) S3 = .ok (.ret (.str (Txt.join " " ((Txt.split x " ").take k ++ ((Txt.split x " ").drop k).reverse)))) (PE9 ns t x sg (some (.str s)) (some (.int (at' : Nat))) (some (.int (tn : Nat))) (some (.loc S3.length)) (some (.int (k : Nat)))) S4 := (skip q0).trans ((skip q1).trans ((skip q2).trans (take q3 ((e4 _).trans e6))))
    rw [this]
    obtain ⟨S', f1, f2, f3⟩ := fin_dif (S := S) (S1 := S4) (t := t) (n := n + 10) (rho := PE9 ns t x sg (some (.str s)) (some (.int (at' : Nat))) (some (.int (tn : Nat))) (some (.loc S3.length)) (some (.int (k : Nat)))) (d := .str (Txt.join " " ((Txt.split x " ").take k ++ ((Txt.split x " ").drop k).reverse))) ht (by rw [d4.len, List.length_append, d03.len]; omega) (tw4.mono (by omega)) (keep3 fun i h1 h2 => by rw [d4.other h1]) rfl
    exact ⟨_, S', f1, asc_join pa (by omega), Nat.le_trans (join_le _) sb, f2, f3⟩
  rw [decide_eq_false (by omega)] at q3
  have : sSeq p3 (sSeq p4 (sSeq p5 (sSeq p6 p7))) (PE9 ns t x sg (some (.str s)) (some (.int (at' : Nat))) (some (.int (tn : Nat))) none none) S3 = .ok (.ret (.str ((cutS x none (some (at' : Int)) ++ s) ++ cutS x (some ((at' + 1 : Nat) : Int)) none))) (PE9 ns t x sg (some (.str s)) (some (.int (at' : Nat))) (some (.int (tn : Nat))) none none) S3 := (skip q0).trans ((skip q1).trans ((skip q2).trans ((skip q3).trans (ret_of (add_txt (add_txt g1 (var_of rfl) (by omega)) g2 (by rw [len_app]; omega))))))
  rw [this]
  exact fin ((c1.app sa (by omega)).app c2 (by rw [len_app]; omega)) (by rw [len_app, len_app]; omega)
end
end Tq
namespace Tq
open PySem L2 Dv Sx TL
def FOr : List D → Store → R D := runT 1 (sRet (mIf (mT (mBin isND (mVar 0) (mC .non))) (mC (.str "NoText")) (mVar 0)))
section
variable {S : Store} {l : List Pa} {cs : List D} {x : Str}
theorem or_non : FOr [.non] S = .ok (.str "NoText") S := fn_ret rfl ⟨[some .non], rfl⟩
theorem or_tup {ds : List D} (hc : clo S.length (.tup ds) = true) : FOr [.tup ds] S = .ok (.tup ds) S := by
  refine fn_ret hc ⟨[some (.tup ds)], ?_⟩
  exact ret_of (ife_f (t_of (bin_of (var_of rfl) rfl rfl)) (var_of rfl))
theorem same5 {d : D} (h : pt 4 d = true) : FSame 5 [d, d] S = .ok (.bl true) S := by
  rw [same_ok 5 4 (by decide) d d h h, decide_eq_true rfl]
end
theorem sum_bound {ws : List Str} {m : Nat} (h : ∀ w ∈ ws, w.length ≤ m) : sumS ws ≤ m * ws.length := by
  induction ws with
  | nil => exact Nat.zero_le _
  | cons w ws ih =>
    rw [sumS_cons, List.length_cons, Nat.mul_succ]
    have := h w List.mem_cons_self
    have := ih fun z hz => h z (List.mem_cons_of_mem _ hz)
    omega
end Tq
namespace Tq
open PySem L2 Dv Sx TL
abbrev Tb3 := Str × Int × List (List Int)
def tD3 (t : Tb3) : D := .tup [.str t.1, .int t.2.1, .tup (t.2.2.map rowD)]
def nameS (x : Str) : Bool := Nv.nameB (.str x)
def letB (x : Str) : Bool := !decide (tl x = []) && (tl x).all Nv.chOk
def addR (f : List Tb3) (r : List Int) : Option (List Tb3) := match f.getLast? with
  | some t => some (f.dropLast ++ [(t.1, t.2.1, t.2.2 ++ [r])])
  | none => none
def headB (f : List Tb3) (w : Str) : List Str → Option (List Tb3)
  | [x] => (numV x).map fun n => f ++ [(w, n, [])]
  | _ => none
def stepW (nm : Str → Bool) (f : List Tb3) : List Str → Option (List Tb3)
  | [] => none
  | w :: rest => if nm w = true then headB f w rest else (allO numV (w :: rest)).bind (addR f)
def stepB (nm : Str → Bool) (f : List Tb3) (line : Str) : Option (List Tb3) := stepW nm f (Txt.split line " ")
def foldB (nm : Str → Bool) : List Str → List Tb3 → Option (List Tb3)
  | [], f => some f
  | l :: ls, f => (stepB nm f l).bind (foldB nm ls)
theorem addR_snoc (f : List Tb3) (t : Tb3) (r : List Int) : addR (f ++ [t]) r = some (f ++ [(t.1, t.2.1, t.2.2 ++ [r])]) := by
  unfold addR
  rw [List.getLast?_append]
  show some ((f ++ [t]).dropLast ++ _) = _
  rw [List.dropLast_concat]
  rfl
theorem name_let {x : Str} (h : nameS x = true) : letB x = true := by
  have h : (decide (1 ≤ x.length ∧ x.length ≤ 6) && x.cps.toList.all Nv.chOk) = true := h
  rw [Bool.and_eq_true, decide_eq_true_eq] at h
  unfold letB
  rw [Bool.and_eq_true, Bool.not_eq_true', decide_eq_false_iff_not]
  refine ⟨fun z => ?_, h.2⟩
  have := h.1.1
  rw [len_tl, z] at this
  simp at this
theorem num_let {x : Str} {n : Int} (h : numV x = some n) (ha : Asc x) : letB x = false := by
  obtain ⟨_, e, b1, b2, _⟩ := numV_sound h ha
  have et : tl x = intL n := by rw [← e]; exact tl_numT n
  cases q : letB x with
  | false => rfl
  | true =>
    unfold letB at q
    rw [Bool.and_eq_true, Bool.not_eq_true', decide_eq_false_iff_not, List.all_eq_true] at q
    exfalso
    cases w : tl x with
    | nil => exact q.1 w
    | cons c l =>
      have hc : c ∈ tl x := by rw [w]; exact List.mem_cons_self
      have k := q.2 c hc
      rw [et] at hc
      have r := intL_sig n c hc
      unfold Nv.chOk at k
      rw [Bool.and_eq_true, Bool.not_eq_true', decide_eq_false_iff_not, List.cons_lt_cons_iff] at k
      exact k.1 (Or.inl (by omega))
theorem step_heads {nm : Str → Bool} {f g : List Tb3} {l : Str} (h : stepB nm f l = some g) : ∀ t ∈ f, ∃ u ∈ g, u.1 = t.1 := by
  unfold stepB at h
  generalize Txt.split l " " = ws at h
  intro t ht
  match ws with
  | [] => cases h
  | w :: rest =>
    have h : (if nm w = true then headB f w rest else (allO numV (w :: rest)).bind (addR f)) = some g := h
    split at h
    · match rest with
      | [] => cases h
      | [x] =>
        have h : (numV x).map (fun n => f ++ [(w, n, [])]) = some g := h
        cases q : numV x with
        | none => rw [q] at h; cases h
        | some n => rw [q] at h; cases h; exact ⟨t, List.mem_append_left _ ht, rfl⟩
      | _ :: _ :: _ => cases h
    · cases q : allO numV (w :: rest) with
      | none => rw [q] at h; cases h
      | some r =>
        rw [q] at h
        have h : addR f r = some g := h
        rcases List.eq_nil_or_concat f with rfl | ⟨f0, u, rfl⟩
        · cases ht
        · rw [List.concat_eq_append] at h ht
          rw [addR_snoc] at h
          cases h
          rcases List.mem_append.mp ht with ht | ht
          · exact ⟨t, List.mem_append_left _ ht, rfl⟩
          · rw [List.mem_singleton.mp ht]
            exact ⟨_, List.mem_append_right _ (List.mem_singleton.mpr rfl), rfl⟩
theorem fold_heads {nm : Str → Bool} : ∀ {ls : List Str} {f g : List Tb3}, foldB nm ls f = some g → ∀ t ∈ f, ∃ u ∈ g, u.1 = t.1
  | [], f, g, h, t, ht => by
    cases h
    exact ⟨t, ht, rfl⟩
  | l :: ls, f, g, h, t, ht => by
    have h : (stepB nm f l).bind (foldB nm ls) = some g := h
    cases q : stepB nm f l with
    | none => rw [q] at h; cases h
    | some k =>
      rw [q] at h
      obtain ⟨u, hu, e⟩ := step_heads q t ht
      obtain ⟨v, hv, e2⟩ := fold_heads (f := k) h u hu
      exact ⟨v, hv, e2.trans e⟩
theorem step_to {f g : List Tb3} {l : Str} (ha : Asc l) (h : stepB nameS f l = some g) : stepB letB f l = some g := by
  have hp : ∀ p ∈ Txt.split l " ", Asc p := fun p hp => ha.part sep_bl hp
  unfold stepB at h ⊢
  generalize Txt.split l " " = ws at h hp
  match ws with
  | [] => cases h
  | w :: rest =>
    have h : (if nameS w = true then headB f w rest else (allO numV (w :: rest)).bind (addR f)) = some g := h
    show (if letB w = true then headB f w rest else (allO numV (w :: rest)).bind (addR f)) = some g
    by_cases c : nameS w = true
    · rw [if_pos c] at h
      rw [if_pos (name_let c)]
      exact h
    · rw [if_neg c] at h
      cases q : numV w with
      | none =>
        rw [allO_cons, q] at h
        cases h
      | some n =>
        rw [if_neg (by rw [num_let q (hp w List.mem_cons_self)]; exact Bool.false_ne_true)]
        exact h
theorem step_from {f g : List Tb3} {l : Str} (h : stepB letB f l = some g) (hg : ∀ t ∈ g, nameS t.1 = true) : stepB nameS f l = some g := by
  unfold stepB at h ⊢
  generalize Txt.split l " " = ws at h
  match ws with
  | [] => cases h
  | w :: rest =>
    have h : (if letB w = true then headB f w rest else (allO numV (w :: rest)).bind (addR f)) = some g := h
    show (if nameS w = true then headB f w rest else (allO numV (w :: rest)).bind (addR f)) = some g
    by_cases c : letB w = true
    · rw [if_pos c] at h
      match rest with
      | [] => cases h
      | [x] =>
        have h' : (numV x).map (fun n => f ++ [(w, n, [])]) = some g := h
        cases q : numV x with
        | none => rw [q] at h'; cases h'
        | some n =>
          rw [q] at h'
          have h' : some (f ++ [(w, n, [])]) = some g := h'
          cases h'
          rw [if_pos (hg (w, n, []) (List.mem_append_right _ (List.mem_singleton.mpr rfl)))]
          exact h
      | _ :: _ :: _ => cases h
    · rw [if_neg c] at h
      rw [if_neg fun z => c (name_let z)]
      exact h
theorem fold_to : ∀ {ls : List Str} {f g : List Tb3}, (∀ l ∈ ls, Asc l) → foldB nameS ls f = some g → foldB letB ls f = some g
  | [], f, g, _, h => h
  | l :: ls, f, g, ha, h => by
    have h : (stepB nameS f l).bind (foldB nameS ls) = some g := h
    show (stepB letB f l).bind (foldB letB ls) = some g
    cases q : stepB nameS f l with
    | none => rw [q] at h; cases h
    | some k =>
      rw [q] at h
      rw [step_to (ha l List.mem_cons_self) q]
      exact fold_to (f := k) (fun z hz => ha z (List.mem_cons_of_mem _ hz)) h
theorem fold_from : ∀ {ls : List Str} {f g : List Tb3}, foldB letB ls f = some g → (∀ t ∈ g, nameS t.1 = true) → foldB nameS ls f = some g
  | [], f, g, h, _ => h
  | l :: ls, f, g, h, hg => by
    have h : (stepB letB f l).bind (foldB letB ls) = some g := h
    show (stepB nameS f l).bind (foldB nameS ls) = some g
    cases q : stepB letB f l with
    | none => rw [q] at h; cases h
    | some k =>
      rw [q] at h
      have h : foldB letB ls k = some g := h
      rw [step_from q fun t ht => by
        obtain ⟨u, hu, e⟩ := fold_heads h t ht
        rw [← e]
        exact hg u hu]
      exact fold_from (f := k) h hg
structure FbOk (m : Nat) (f : List Tb3) : Prop where
  asc : ∀ t ∈ f, Asc t.1
  row : ∀ t ∈ f, ∀ r ∈ t.2.2, r.length ≤ 1000
  len : f.length ≤ m
  rows : ∀ t ∈ f, t.2.2.length ≤ m
theorem FbOk.nil : FbOk 0 [] := ⟨(fun _ h => nomatch h), (fun _ h => nomatch h), Nat.le_refl _, fun _ h => nomatch h⟩
theorem FbOk.step {m : Nat} {nm : Str → Bool} {f g : List Tb3} {l : Str} (h : FbOk m f) (ha : Asc l) (hl : l.length ≤ 900) (e : stepB nm f l = some g) : FbOk (m + 1) g := by
  have hp : ∀ p ∈ Txt.split l " ", Asc p := fun p hp => ha.part sep_bl hp
  have hn : (Txt.split l " ").length ≤ 1000 := by have := split_len (x := l) (y := " "); omega
  unfold stepB at e
  generalize Txt.split l " " = ws at e hp hn
  match ws with
  | [] => cases e
  | w :: rest =>
    have e : (if nm w = true then headB f w rest else (allO numV (w :: rest)).bind (addR f)) = some g := e
    split at e
    · match rest with
      | [] => cases e
      | [x] =>
        have e : (numV x).map (fun n => f ++ [(w, n, [])]) = some g := e
        cases q : numV x with
        | none => rw [q] at e; cases e
        | some n =>
          rw [q] at e
          cases e
          refine ⟨fun t ht => ?_, fun t ht r hr => ?_, by rw [List.length_append, List.length_singleton]; have := h.len; omega, fun t ht => ?_⟩
          · rcases List.mem_append.mp ht with ht | ht
            · exact h.asc t ht
            · rw [List.mem_singleton.mp ht]
              exact hp w List.mem_cons_self
          · rcases List.mem_append.mp ht with ht | ht
            · exact h.row t ht r hr
            · rw [List.mem_singleton.mp ht] at hr
              cases hr
          · rcases List.mem_append.mp ht with ht | ht
            · have := h.rows t ht
              omega
            · rw [List.mem_singleton.mp ht]
              exact Nat.zero_le _
      | _ :: _ :: _ => cases e
    · cases q : allO numV (w :: rest) with
      | none => rw [q] at e; cases e
      | some r =>
        rw [q] at e
        have e : addR f r = some g := e
        have lr := allO_len q
        rcases List.eq_nil_or_concat f with rfl | ⟨f0, u, rfl⟩
        · cases e
        · rw [List.concat_eq_append] at e h
          rw [addR_snoc] at e
          cases e
          have hu : u ∈ f0 ++ [u] := List.mem_append_right _ (List.mem_singleton.mpr rfl)
          have hf : ∀ t ∈ f0, t ∈ f0 ++ [u] := fun t ht => List.mem_append_left _ ht
          refine ⟨fun t ht => ?_, fun t ht z hz => ?_, ?_, fun t ht => ?_⟩
          · rcases List.mem_append.mp ht with ht | ht
            · exact h.asc t (hf t ht)
            · rw [List.mem_singleton.mp ht]
              exact h.asc u hu
          · rcases List.mem_append.mp ht with ht | ht
            · exact h.row t (hf t ht) z hz
            · rw [List.mem_singleton.mp ht] at hz
              rcases List.mem_append.mp hz with hz | hz
              · exact h.row u hu z hz
              · rw [List.mem_singleton.mp hz, lr]
                exact hn
          · have := h.len
            rw [List.length_append, List.length_singleton] at this ⊢
            omega
          · rcases List.mem_append.mp ht with ht | ht
            · have := h.rows t (hf t ht)
              omega
            · rw [List.mem_singleton.mp ht]
              show (u.2.2 ++ [r]).length ≤ _
              have := h.rows u hu
              rw [List.length_append, List.length_singleton]
              omega
theorem FbOk.fold {nm : Str → Bool} : ∀ {ls : List Str} {m : Nat} {f g : List Tb3}, FbOk m f → (∀ l ∈ ls, Asc l ∧ l.length ≤ 900) → foldB nm ls f = some g → FbOk (m + ls.length) g
  | [], m, f, g, h, _, e => by
    cases e
    exact h
  | l :: ls, m, f, g, h, ha, e => by
    have e : (stepB nm f l).bind (foldB nm ls) = some g := e
    cases q : stepB nm f l with
    | none => rw [q] at e; cases e
    | some k =>
      rw [q] at e
      have a := ha l List.mem_cons_self
      have := FbOk.fold (h.step a.1 a.2 q) (fun z hz => ha z (List.mem_cons_of_mem _ hz)) e
      rw [List.length_cons]
      rw [show m + (ls.length + 1) = m + 1 + ls.length by omega]
      exact this
def bookK (f : List Tb3) : Bool := (f.all fun t => Bk.tabB (tD3 t)) && Bk.upB ltS (f.map (·.1))
theorem bookK_names {f : List Tb3} (h : bookK f = true) : ∀ t ∈ f, nameS t.1 = true := fun t ht => by
  unfold bookK at h
  rw [Bool.and_eq_true, List.all_eq_true] at h
  have := h.1 t ht
  have : (Nv.nameB (.str t.1) && (Bk.rngB 1 5 (.int t.2.1) && Bk.rowsB (.int t.2.1) (.tup (t.2.2.map rowD)))) = true := this
  rw [Bool.and_eq_true] at this
  exact this.1
section
variable {S : Store}
theorem bkT_a {x : Str} {w : Int} {rs : List (List Int)} {y0 y4 y5 : Option D} (h : Asc x) (hr : ∀ r ∈ rs, r.length ≤ 1000) : Bk.mBkT [y0, some (.str x), some (.int w), some (.tup (rs.map rowD)), y4, y5] S = .ok (if Bk.tabB (tD3 (x, w, rs)) = true then .next else .ret (.bl false)) [y0, some (.str x), some (.int w), some (.tup (rs.map rowD)), y4, y5] S := by
  have e1 : Nv.F_is_name [.str x] S = .ok (.bl (Nv.nameB (.str x))) S := wname_ok h
  have e2 : FWhole [.int w] S = .ok (.bl true) S := whole_ok (k := 0) (d := .int w) rfl
  have e3 : isiD [.tup (rs.map rowD), .ty "tuple"] S = some (.bl true) := rfl
  have ht : Bk.tabB (tD3 (x, w, rs)) = (Nv.nameB (.str x) && ((decide (1 ≤ w) && decide (w ≤ 5)) && Bk.rowsB (.int w) (.tup (rs.map rowD)))) := rfl
  have hp : ∀ d ∈ rs.map rowD, pn 1 d = true := fun d hd => by
    obtain ⟨r, hr', rfl⟩ := List.mem_map.mp hd
    exact Nv.pn_tupI (by rw [List.length_map]; exact hr r hr') fun z hz => by
      obtain ⟨i, _, rfl⟩ := List.mem_map.mp hz
      rfl
  unfold Bk.mBkT
  rw [ht]
  cases q1 : Nv.nameB (.str x) with
  | false => simp [e1, q1]
  | true =>
    by_cases c1 : 1 ≤ w
    · by_cases c2 : w ≤ 5
      · have lc : lcL (tgN 5) mYes (mApp 2 Bk.FRow (mCons (mVar 5) (mCons (mVar 2) mNil))) [y0, some (.str x), some (.int w), some (.tup (rs.map rowD)), y4, none] (rs.map rowD) S = .ok (((rs.map rowD).map (Bk.rowB w)).map D.bl) S := by
          rw [lc_map (gm := tgN 5) (te := mApp 2 Bk.FRow (mCons (mVar 5) (mCons (mVar 2) mNil))) (r0 := [y0, some (.str x), some (.int w), some (.tup (rs.map rowD)), y4, none]) (S := S) (fun d => .bl (Bk.rowB w d)) (rs.map rowD) fun d hd => ⟨_, rfl, by
            have := Bk.row_ok (S := S) (w := w) (hp d hd)
            simp [this]⟩]
          congr 1
          rw [List.map_map, List.map_map, List.map_map]
          rfl
        have hrb : Bk.rowsB (.int w) (.tup (rs.map rowD)) = ((rs.map rowD).all (Bk.rowB w) && Bk.upB ltR ((rs.map rowD).map Bk.intsD)) := rfl
        have al : ((rs.map rowD).map (Bk.rowB w)).all id = (rs.map rowD).all (Bk.rowB w) := by rw [List.all_map]; rfl
        have er : Bk.FRise [.tup (rs.map rowD)] S = .ok (.bl (Bk.upB ltR ((rs.map rowD).map Bk.intsD))) S := by
          have ei : (rs.map rowD).map Bk.intsD = rs := by
            rw [List.map_map]
            conv => rhs; rw [← List.map_id rs]
            refine List.map_congr_left fun r _ => ?_
            show (intsOf (r.map D.int)).getD [] = r
            rw [intsOf_map]
            rfl
          rw [ei]
          exact Bk.rise_tup
        rw [hrb]
        generalize rs.map rowD = L at lc al er e3
        cases q2 : L.all (Bk.rowB w) with
        | false =>
          rw [q2] at al
          simp [e1, e2, e3, q1, c1, c2, lc, al, -List.map_map, -List.all_map]
        | true =>
          rw [q2] at al
          cases q3 : Bk.upB ltR (L.map Bk.intsD) <;> simp [e1, e2, e3, q1, c1, c2, lc, al, er, q3, -List.map_map, -List.all_map]
      · simp [e1, e2, q1, c1, c2]
    · simp [e1, e2, q1, c1]
theorem bk_loopA {y0 y4 y5 : Option D} : ∀ (f : List Tb3) (y1 y2 y3 : Option D), (∀ t ∈ f, Asc t.1 ∧ ∀ r ∈ t.2.2, r.length ≤ 1000) →
    ∃ z1 z2 z3, sLoop (tgT 3 (tgsCons (tgN 1) (tgsCons (tgN 2) (tgsCons (tgN 3) tgsNil)))) Bk.mBkT (f.map tD3) [y0, y1, y2, y3, y4, y5] S = .ok (if (f.all fun t => Bk.tabB (tD3 t)) = true then .next else .ret (.bl false)) [y0, z1, z2, z3, y4, y5] S
  | [], y1, y2, y3, _ => ⟨y1, y2, y3, rfl⟩
  | (x, w, rs) :: f, y1, y2, y3, h => by
    obtain ⟨h1, h2⟩ := h _ List.mem_cons_self
    have e := bkT_a (S := S) (x := x) (w := w) (rs := rs) (y0 := y0) (y4 := y4) (y5 := y5) h1 h2
    rw [List.map_cons, List.all_cons]
    cases q : Bk.tabB (tD3 (x, w, rs)) with
    | false =>
      rw [q, if_neg Bool.false_ne_true] at e
      refine ⟨some (.str x), some (.int w), some (.tup (rs.map rowD)), ?_⟩
      rw [loop_out (r := [y0, y1, y2, y3, y4, y5]) rfl e]
      rfl
    | true =>
      rw [q, if_pos rfl] at e
      obtain ⟨z1, z2, z3, e2⟩ := bk_loopA (y0 := y0) (y4 := y4) (y5 := y5) f (some (.str x)) (some (.int w)) (some (.tup (rs.map rowD))) fun u hu => h u (List.mem_cons_of_mem _ hu)
      refine ⟨z1, z2, z3, ?_⟩
      rw [loop_step (r := [y0, y1, y2, y3, y4, y5]) rfl e, e2, Bool.true_and]
theorem book_a {f : List Tb3} (h : ∀ t ∈ f, Asc t.1 ∧ ∀ r ∈ t.2.2, r.length ≤ 1000) : Bk.FBk [.tup (f.map tD3)] S = .ok (.bl (bookK f)) S := by
  refine fn_ret rfl ?_
  show ∃ rho, Bk.mBk [some (.tup (f.map tD3)), none, none, none, none, none] S = _
  have e1 : isiD [.tup (f.map tD3), .ty "tuple"] S = some (.bl true) := rfl
  have lc : lcL (tgN 4) mYes (mAnd (mCall isiD (mCons (mVar 4) (mCons (mC (.ty "tuple")) mNil))) (mBin eqD (mCall lenD (mCons (mVar 4) mNil)) (mC (.int 3)))) [some (.tup (f.map tD3)), none, none, none, none, none] (f.map tD3) S = .ok (f.map fun _ => D.bl true) S :=
    lc_all tD3 (fun _ => D.bl true) f fun t _ => ⟨[some (.tup (f.map tD3)), none, none, none, some (tD3 t), none], rfl, by
      have e : isiD [tD3 t, .ty "tuple"] S = some (.bl true) := rfl
      have e2 : lenD [tD3 t] S = some (.int 3) := rfl
      simp [e, e2]⟩
  have al : (f.map fun _ => D.bl true) = (f.map fun _ => true).map D.bl := by rw [List.map_map]; rfl
  have al2 : (f.map fun _ => true).all id = true := by rw [List.all_map, List.all_eq_true]; exact fun _ _ => rfl
  rw [al] at lc
  have ad := allD_bls (S := S) (f.map fun _ => true)
  rw [al2] at ad
  obtain ⟨z1, z2, z3, el⟩ := bk_loopA (S := S) (y0 := some (.tup (f.map tD3))) (y4 := none) (y5 := none) f none none none h
  have s1 : (sIf (mOrT (mNotT (mTru (mCall isiD (mCons (mVar 0) (mCons (mC (.ty "tuple")) mNil))))) (mNotT (mTru (mCall allD (mCons (mLc (mIter (mVar 0)) [4] (tgN 4) mYes (mAnd (mCall isiD (mCons (mVar 4) (mCons (mC (.ty "tuple")) mNil))) (mBin eqD (mCall lenD (mCons (mVar 4) mNil)) (mC (.int 3))))) mNil))))) (sRet (mC (.bl false))) sNil) [some (.tup (f.map tD3)), none, none, none, none, none] S = .ok .next [some (.tup (f.map tD3)), none, none, none, none, none] S := by
    have t1 : mNotT (mTru (mCall isiD (mCons (mVar 0) (mCons (mC (.ty "tuple")) mNil)))) [some (.tup (f.map tD3)), none, none, none, none, none] S = .ok false S := not_of (b := true) (tru_of (call_of (cons_of (var_of rfl) rfl) e1) rfl)
    have t2 : mNotT (mTru (mCall allD (mCons (mLc (mIter (mVar 0)) [4] (tgN 4) mYes (mAnd (mCall isiD (mCons (mVar 4) (mCons (mC (.ty "tuple")) mNil))) (mBin eqD (mCall lenD (mCons (mVar 4) mNil)) (mC (.int 3))))) mNil))) [some (.tup (f.map tD3)), none, none, none, none, none] S = .ok false S := not_of (b := true) (tru_of (call_of (cons_of (lc_of (iter_of (var_of rfl) rfl) lc) rfl) ad) rfl)
    exact if_no (or_ff t1 t2)
  have s2 : (sFor (mIter (mVar 0)) (tgT 3 (tgsCons (tgN 1) (tgsCons (tgN 2) (tgsCons (tgN 3) tgsNil)))) Bk.mBkT) [some (.tup (f.map tD3)), none, none, none, none, none] S = .ok (if (f.all fun t => Bk.tabB (tD3 t)) = true then .next else .ret (.bl false)) [some (.tup (f.map tD3)), z1, z2, z3, none, none] S := (for_of (iter_of (var_of rfl) rfl)).trans el
  unfold Bk.mBk bookK
  rw [seq_ok s1]
  cases q : (f.all fun t => Bk.tabB (tD3 t)) with
  | false =>
    rw [q, if_neg Bool.false_ne_true] at s2
    exact ⟨_, by rw [sSeq_ap, s2]; rfl⟩
  | true =>
    rw [q, if_pos rfl] at s2
    rw [seq_ok s2, Bool.true_and]
    have lc2 := lc_all (S := S) (gm := tgN 4) (te := mBin ixD (mVar 4) (mC (.int 0))) (r0 := [some (.tup (f.map tD3)), z1, z2, z3, none, none]) tD3 (fun t => D.str t.1) f fun t _ => ⟨[some (.tup (f.map tD3)), z1, z2, z3, some (tD3 t), none], rfl, bin_of (var_of rfl) rfl rfl⟩
    have er := Bk.rise_lst (S := S) (ks := f.map (·.1))
    rw [List.map_map] at er
    exact ⟨_, ret_of (run_app (cons_of (lc_of (iter_of (var_of rfl) rfl) lc2) rfl) rfl er)⟩
end
end Tq
namespace Tq
open PySem L2 Dv Sx TL
section
variable {S S' S1 : Store} {r : Dv.Env} {m m' : EM} {ms : AM} {n : Str} {d : D} {i : Nat}
theorem cons_exc1 (e : m r S = .exc n S') : mCons m ms r S = .exc n S' := by
  rw [mCons_ap, e]
  rfl
theorem cons_exc2 (e : m r S = .ok d S1) (e' : ms r S1 = .exc n S') : mCons m ms r S = .exc n S' := by
  rw [mCons_ap, e, rb_ok, e']
  rfl
theorem tup_exc (e : ms r S = .exc n S') : mTup ms r S = .exc n S' := by
  rw [mTup_ap, e]
  rfl
theorem bin_exc2 {f : D → D → Store → Option D} (e : m r S = .ok d S1) (e' : m' r S1 = .exc n S') : mBin f m m' r S = .exc n S' := by
  rw [mBin_ap, e, rb_ok, e']
  rfl
theorem append_exc {k L : Nat} {xs : List D} (hk : r[k]? = some (some (.loc L))) (hS : S[L]? = some (.lst xs)) (e : m r S = .exc n S') : mAppend (mVar k) m r S = .exc n S' := by
  have il : isLoc (.loc L) S = true := by rw [isLoc_ap, hS]
  rw [mAppend_ap, var_of hk, rb_ok, if_pos il, e]
  rfl
theorem drop_exc (e : m r S = .exc n S') : sDrop m r S = .exc n r S' := by
  rw [sDrop_ap, e]
  rfl
theorem setIx_exc {mo mi : EM} (e : m r S = .exc n S') : sSetIx mo mi m r S = .exc n r S' := by
  rw [sSetIx_ap, e]
  rfl
theorem seq_exc {a b : SM} {r1 : Dv.Env} (h : a r S = .exc n r1 S') : sSeq a b r S = .exc n r1 S' := by
  rw [sSeq_ap, h]
theorem ret_exc (e : m r S = .exc n S') : sRet m r S = .exc n r S' := by
  rw [sRet_ap, e]
  rfl
open Classical in
theorem fin_exc {rho : Dv.Env} (E : Store) : finT S (.exc n rho (S ++ E)) = .exc n S := by
  show (if Tr S (S ++ E) then R.exc n ((S ++ E).take S.length) else .bad) = _
  rw [if_pos (Tr.app S E), take_app]
theorem seq_no {t : BM} {a z : SM} (e : t r S = .ok false S1) : sSeq (sIf t a sNil) z r S = z r S1 := seq_ok ((if_no e).trans rfl)
theorem loop_exc {gm : D → Dv.Env → Option Dv.Env} {b : SM} {t : D} {ts : List D} {r1 r2 : Dv.Env} (e1 : gm t r = some r1) (e2 : b r1 S = .exc n r2 S') : sLoop gm b (t :: ts) r S = .exc n r2 S' := by
  rw [sLoop_cons, e1]
  simp only [e2]
end
theorem lcTi {S : Store} {F : List D → Store → R D} {f : Str → Option D} {im : IM} {l : List Str} {r : Dv.Env} {i : Nat} (hF : ∀ p ∈ l, F [.str p] S = (match f p with
    | some d => .ok d S
    | none => .exc "NoText" S)) (hi : i < r.length) (ei : im r S = .ok (l.map D.str) S) : mCall tupD (mCons (mLcE im [i] (tgN i) mYes (mApp 1 F (mCons (mVar i) mNil))) mNil) r S = (match allO f l with
    | some ds => .ok (.tup ds) S
    | none => .exc "NoText" S) := by
  have hw : (wipeE r [i]).length = r.length := by
    show (r.set i none).length = _
    exact List.length_set
  have lc := lcE_all (S := S) (gm := tgN i) (te := mApp 1 F (mCons (mVar i) mNil)) (r0 := wipeE r [i]) (e := "NoText") D.str f l fun p hp => by
    refine ⟨(wipeE r [i]).set i (some (.str p)), rfl, ?_⟩
    have hv : mCons (mVar i) mNil ((wipeE r [i]).set i (some (.str p))) S = .ok [.str p] S := cons_of (var_of (by rw [List.getElem?_set_self (by rw [hw]; exact hi)])) rfl
    have e := hF p hp
    cases q : f p with
    | none =>
      rw [q] at e
      exact app_exc hv rfl e
    | some d =>
      rw [q] at e
      exact run_app hv rfl e
  have e2 : mLcE im [i] (tgN i) mYes (mApp 1 F (mCons (mVar i) mNil)) r S = (lcLE (tgN i) mYes (mApp 1 F (mCons (mVar i) mNil)) (wipeE r [i]) (l.map D.str) S).bind fun ys S2 => .ok (.lst ys) S2 := by
    show (im r S).bind _ = _
    rw [ei]
    rfl
  rw [lc] at e2
  cases q : allO f l with
  | none =>
    rw [q] at e2
    have e2 : _ = R.exc "NoText" S := e2
    show ((mCons _ mNil) r S).bind _ = _
    rw [cons_exc1 e2]
    rfl
  | some ts =>
    rw [q] at e2
    exact call_of (cons_of e2 rfl) rfl
def FRowIn : List D → Store → R D := runT 2 (sRet (mCall tupD (mCons (mLcE (mIter (mVar 0)) [1] (tgN 1) mYes (mApp 1 FVal (mCons (mVar 1) mNil))) mNil)))
def FLines : List D → Store → R D := runT 3 (sSeq (sStarF (mTm splD (mVar 0) (mC (.str "\n"))) 2 (tgN 1)) (sSeq (sIf (mT (mBin neD (mVar 1) (mC (.str "")))) (sRaise "NoText") sNil) (sRet (mVar 2))))
def kA : SM := (sSet 3 (mTm splD (mVar 2) (mC (.str " "))))
def kH : SM := (sSeq (sIf (mT (mBin neD (mCall lenD (mCons (mVar 3) mNil)) (mC (.int 2)))) (sRaise "NoText") sNil) (sDrop (mAppend (mVar 1) (mTup (mCons (mBin ixD (mVar 3) (mC (.int 0))) (mCons (mApp 1 FVal (mCons (mBin ixD (mVar 3) (mC (.int 1))) mNil)) (mCons (mTup mNil) mNil)))))))
def kR : SM := (sSeq (sAsg (mBin ixD (mVar 1) (mUn negD (mC (.int 1)))) (tgT 3 (tgsCons (tgN 4) (tgsCons (tgN 5) (tgsCons (tgN 6) tgsNil)))))
    (sSetIx (mVar 1) (mUn negD (mC (.int 1))) (mTup (mCons (mVar 4) (mCons (mVar 5) (mCons (mBin addD (mVar 6) (mTup (mCons (mApp 1 FRowIn (mCons (mVar 3) mNil)) mNil))) mNil))))))
def bB : SM := (sSeq kA (sIf (mTru (mApp 1 FName (mCons (mBin ixD (mVar 3) (mC (.int 0))) mNil))) kH (sIf (mNotT (mTru (mVar 1))) (sRaise "NoText") kR)))
def k3 : SM := (sIf (mNotT (mTru (mApp 1 Bk.FBk (mCons (mCall tupD (mCons (mVar 1) mNil)) mNil)))) (sRaise "NoText") sNil)
def FBookIn : List D → Store → R D := runT 7 (sSeq (sSet 1 (mNewL mNil)) (sSeq (sFor (mIter (mVar 0)) (tgN 2) bB) (sSeq k3 (sRet (mCall tupD (mCons (mVar 1) mNil))))))
def FReadB : List D → Store → R D := runT 1 (sRet (mApp 1 FBookIn (mCons (mApp 1 FLines (mCons (mVar 0) mNil)) mNil)))
abbrev BE (y0 y1 y2 y3 y4 y5 y6 : Option D) : Dv.Env := [y0, y1, y2, y3, y4, y5, y6]
theorem clo_row3 (m : Nat) (r : List Int) : clo m (rowD r) = true := cloL_ints _ _
theorem clo_t3 (m : Nat) (t : Tb3) : clo m (tD3 t) = true := by
  have : cloL m (t.2.2.map rowD) = true := clo_all fun d hd => by
    obtain ⟨r, _, rfl⟩ := List.mem_map.mp hd
    exact clo_row3 m r
  show (true && (true && (cloL m (t.2.2.map rowD) && true))) = true
  rw [this]
  rfl
theorem clo_f3 (m : Nat) (f : List Tb3) : clo m (.tup (f.map tD3)) = true := clo_all fun d hd => by
  obtain ⟨t, _, rfl⟩ := List.mem_map.mp hd
  exact clo_t3 m t
section
variable {S : Store} {x : Str}
theorem allO_val (ws : List Str) : allO (fun p => (numV p).map D.int) ws = (allO numV ws).map fun r => r.map D.int := by
  induction ws with
  | nil => rfl
  | cons w ws ih =>
    rw [allO_cons, allO_cons, ih]
    cases numV w with
    | none => rfl
    | some n =>
      cases allO numV ws with
      | none => rfl
      | some r => rfl
theorem rowin_ok {ws : List Str} (h : ∀ p ∈ ws, Asc p) : FRowIn [.lst (ws.map D.str)] S = (match allO numV ws with
    | some r => .ok (rowD r) S
    | none => .exc "NoText" S) := by
  have e := lcTi (S := S) (F := FVal) (f := fun p => (numV p).map D.int) (im := mIter (mVar 0)) (l := ws) (r := [some (.lst (ws.map D.str)), none]) (i := 1) (fun p hp => by
    rw [val_ok (h p hp)]
    cases numV p <;> rfl) (by simp) (iter_of (var_of rfl) rfl)
  rw [allO_val] at e
  cases q : allO numV ws with
  | none =>
    rw [q] at e
    exact fn_exc ⟨[some (.lst (ws.map D.str)), none], ret_exc e⟩
  | some r =>
    rw [q] at e
    exact fn_ret (clo_row3 _ r) ⟨[some (.lst (ws.map D.str)), none], ret_of e⟩
theorem sep_nl : Sep "\n" := ⟨by decide +kernel, by decide +kernel⟩
theorem asc_nil : Asc "" := asc_c _
theorem lines_ok (h : Asc x) {ini : List Str} {l : Str} (e : Txt.split x "\n" = ini ++ [l]) : FLines [.str x] S = if l = ("" : Str) then .ok (.lst (ini.map D.str)) S else .exc "NoText" S := by
  have hl : Asc l := h.part sep_nl (by rw [e]; exact List.mem_append_right _ (List.mem_singleton.mpr rfl))
  have e0 : mTm splD (mVar 0) (mC (.str "\n")) [some (.str x), none, none] S = .ok (.lst ((ini ++ [l]).map D.str)) S := by
    rw [← e]
    exact tm_of (var_of rfl) rfl (h.split sep_nl)
  have s1 : (sStarF (mTm splD (mVar 0) (mC (.str "\n"))) 2 (tgN 1)) [some (.str x), none, none] S = .ok .next [some (.str x), some (.str l), some (.lst (ini.map D.str))] S := by
    have g1 : ((ini ++ [l]).map D.str)[((ini ++ [l]).map D.str).length - 1]? = some (.str l) := by
      rw [List.map_append, List.length_append, List.map_cons, List.map_nil, List.length_singleton, Nat.add_sub_cancel, List.getElem?_append_right (Nat.le_refl _), Nat.sub_self]
      rfl
    have g2 : ((ini ++ [l]).map D.str).dropLast = ini.map D.str := by
      rw [List.map_append]
      exact List.dropLast_concat
    unfold sStarF
    rw [e0, bs_ok]
    simp only [g1, g2]
    rfl
  have et : mT (mBin neD (mVar 1) (mC (.str ""))) [some (.str x), some (.str l), some (.lst (ini.map D.str))] S = .ok (!decide (l = ("" : Str))) S := t_of (bin_of (var_of rfl) rfl (ne_of_asc hl asc_nil))
  by_cases c : l = ("" : Str)
  · rw [decide_eq_true c] at et
    rw [if_pos c]
    refine fn_ret (show clo _ (.lst _) = true from cloL_strs _ _) ⟨[some (.str x), some (.str l), some (.lst (ini.map D.str))], ?_⟩
    show sSeq (sStarF (mTm splD (mVar 0) (mC (.str "\n"))) 2 (tgN 1)) _ [some (.str x), none, none] S = _
    rw [seq_ok s1, seq_no et]
    exact ret_of (var_of rfl)
  · rw [decide_eq_false c] at et
    rw [if_neg c]
    refine fn_exc ⟨[some (.str x), some (.str l), some (.lst (ini.map D.str))], ?_⟩
    show sSeq (sStarF (mTm splD (mVar 0) (mC (.str "\n"))) 2 (tgN 1)) _ [some (.str x), none, none] S = _
    rw [seq_ok s1]
    exact seq_exc ((if_yes et).trans rfl)
theorem bB_ok {line : Str} {f : List Tb3} (h : Asc line) (hl : line.length ≤ 900) (hf : f.length < 90000) (hr : ∀ t ∈ f, t.2.2.length < 90000) (y0 y3 y4 y5 y6 : Option D) :
    ∃ z3 z4 z5 z6, bB (BE y0 (some (.loc S.length)) (some (.str line)) y3 y4 y5 y6) (S ++ [.lst (f.map tD3)]) = (match stepB nameS f line with
      | some g => .ok .next (BE y0 (some (.loc S.length)) (some (.str line)) z3 z4 z5 z6) (S ++ [.lst (g.map tD3)])
      | none => .exc "NoText" (BE y0 (some (.loc S.length)) (some (.str line)) z3 z4 z5 z6) (S ++ [.lst (f.map tD3)])) := by
  obtain ⟨T, hT⟩ : ∃ T, T = S ++ [O.lst (f.map tD3)] := ⟨_, rfl⟩
  have hTL : T[S.length]? = some (.lst (f.map tD3)) := by rw [hT]; exact Nv.last_at _
  have hTs : ∀ o, T.set S.length o = S ++ [o] := fun o => by rw [hT]; exact Nv.last_set _ o
  have hp : ∀ p ∈ Txt.split line " ", Asc p := fun p hp => h.part sep_bl hp
  have ne := split_ne (x := line) sep_bl.ne sep_bl.low
  have sA : kA (BE y0 (some (.loc S.length)) (some (.str line)) y3 y4 y5 y6) T = .ok .next (BE y0 (some (.loc S.length)) (some (.str line)) (some (.lst ((Txt.split line " ").map D.str))) y4 y5 y6) T := (set_of (tm_of (var_of rfl) rfl (h.split sep_bl))).trans rfl
  rw [← hT]
  unfold bB
  rw [seq_ok sA]
  unfold stepB
  generalize Txt.split line " " = ws at *
  match ws, ne with
  | w :: rest, _ =>
    have hw : Asc w := hp w List.mem_cons_self
    have i0 : mBin ixD (mVar 3) (mC (.int 0)) (BE y0 (some (.loc S.length)) (some (.str line)) (some (.lst ((w :: rest).map D.str))) y4 y5 y6) T = .ok (.str w) T := bin_of (var_of rfl) rfl (atI_zero _ _)
    have en : mTru (mApp 1 FName (mCons (mBin ixD (mVar 3) (mC (.int 0))) mNil)) (BE y0 (some (.loc S.length)) (some (.str line)) (some (.lst ((w :: rest).map D.str))) y4 y5 y6) T = .ok (nameS w) T := tru_of (run_app (cons_of i0 rfl) rfl (wname_ok hw)) rfl
    show ∃ z3 z4 z5 z6, _ = (match (if nameS w = true then headB f w rest else (allO numV (w :: rest)).bind (addR f)) with
      | some g => Z.ok .next (BE y0 (some (.loc S.length)) (some (.str line)) z3 z4 z5 z6) (S ++ [O.lst (g.map tD3)])
      | none => .exc "NoText" (BE y0 (some (.loc S.length)) (some (.str line)) z3 z4 z5 z6) T)
    cases q : nameS w with
    | true =>
      rw [q] at en
      rw [if_yes en, if_pos rfl]
      refine ⟨some (.lst ((w :: rest).map D.str)), y4, y5, y6, ?_⟩
      unfold kH
      have el : mT (mBin neD (mCall lenD (mCons (mVar 3) mNil)) (mC (.int 2))) (BE y0 (some (.loc S.length)) (some (.str line)) (some (.lst ((w :: rest).map D.str))) y4 y5 y6) T = .ok (!decide (rest.length = 1)) T := by
        have : decide ((((w :: rest).map D.str).length : Int) = 2) = decide (rest.length = 1) := decide_eq_decide.mpr (by rw [List.length_map, List.length_cons]; omega)
        rw [← this]
        exact t_of (bin_of (call_of (cons_of (var_of rfl) rfl) rfl) rfl rfl)
      by_cases c : rest.length = 1
      · rw [decide_eq_true c] at el
        obtain ⟨v, rfl⟩ : ∃ v, rest = [v] := by
          match rest, c with
          | [v], _ => exact ⟨v, rfl⟩
        have hv : Asc v := hp v (List.mem_cons_of_mem _ List.mem_cons_self)
        rw [seq_no el]
        have i1 : mCons (mBin ixD (mVar 3) (mC (.int 1))) mNil (BE y0 (some (.loc S.length)) (some (.str line)) (some (.lst ([w, v].map D.str))) y4 y5 y6) T = .ok [.str v] T := cons_of (bin_of (var_of rfl) rfl rfl) rfl
        have ev := val_ok (S := T) hv
        show _ = (match (numV v).map (fun n => f ++ [(w, n, [])]) with
          | some g => Z.ok .next (BE y0 (some (.loc S.length)) (some (.str line)) (some (.lst ([w, v].map D.str))) y4 y5 y6) (S ++ [O.lst (g.map tD3)])
          | none => .exc "NoText" (BE y0 (some (.loc S.length)) (some (.str line)) (some (.lst ([w, v].map D.str))) y4 y5 y6) T)
        cases qn : numV v with
        | none =>
          rw [qn] at ev
          exact drop_exc (append_exc (k := 1) rfl hTL (tup_exc (cons_exc2 i0 (cons_exc1 (app_exc i1 rfl ev)))))
        | some n =>
          rw [qn] at ev
          refine (drop_of (append_of (k := 1) rfl hTL (tup_of (cons_of i0 (cons_of (run_app i1 rfl ev) (cons_of (tup_of nil_of (by simp)) rfl))) (by simp)) (by rw [List.length_map]; omega))).trans ?_
          rw [hTs]
          show _ = Z.ok .next _ (S ++ [O.lst ((f ++ [(w, n, [])]).map tD3)])
          rw [List.map_append]
          rfl
      · rw [decide_eq_false c] at el
        have : headB f w rest = none := by
          match rest, c with
          | [], _ => rfl
          | [_], c => exact absurd rfl c
          | _ :: _ :: _, _ => rfl
        rw [this]
        exact seq_exc ((if_yes el).trans rfl)
    | false =>
      rw [q] at en
      rw [if_no en, if_neg Bool.false_ne_true]
      have et : mTru (mVar 1) (BE y0 (some (.loc S.length)) (some (.str line)) (some (.lst ((w :: rest).map D.str))) y4 y5 y6) T = .ok (!(f.map tD3).isEmpty) T := tru_of (var_of rfl) (by simp [hTL])
      rcases List.eq_nil_or_concat f with rfl | ⟨f0, t, rfl⟩
      · refine ⟨some (.lst ((w :: rest).map D.str)), y4, y5, y6, ?_⟩
        rw [if_yes (not_of et)]
        cases allO numV (w :: rest) with
        | none => rfl
        | some r => rfl
      · rw [List.concat_eq_append] at *
        have et : mTru (mVar 1) (BE y0 (some (.loc S.length)) (some (.str line)) (some (.lst ((w :: rest).map D.str))) y4 y5 y6) T = .ok true T := by
          rw [et, List.map_append]
          congr 1
          cases f0 <;> rfl
        rw [if_no (not_of et)]
        refine ⟨some (.lst ((w :: rest).map D.str)), some (.str t.1), some (.int t.2.1), some (.tup (t.2.2.map rowD)), ?_⟩
        have at1 : atI ((f0 ++ [t]).map tD3) (-1) = some (tD3 t) := by
          rw [List.map_append]
          exact atI_neg1 _ _
        have e1 : mBin ixD (mVar 1) (mUn negD (mC (.int 1))) (BE y0 (some (.loc S.length)) (some (.str line)) (some (.lst ((w :: rest).map D.str))) y4 y5 y6) T = .ok (tD3 t) T := by
          refine bin_of (var_of rfl) (un_of rfl rfl) ?_
          show (match T[S.length]? with
            | some (.lst xs) => atI xs (-1)
            | _ => none) = _
          rw [hTL]
          exact at1
        have s1 : (sAsg (mBin ixD (mVar 1) (mUn negD (mC (.int 1)))) (tgT 3 (tgsCons (tgN 4) (tgsCons (tgN 5) (tgsCons (tgN 6) tgsNil))))) (BE y0 (some (.loc S.length)) (some (.str line)) (some (.lst ((w :: rest).map D.str))) y4 y5 y6) T = .ok .next (BE y0 (some (.loc S.length)) (some (.str line)) (some (.lst ((w :: rest).map D.str))) (some (.str t.1)) (some (.int t.2.1)) (some (.tup (t.2.2.map rowD)))) T := asg_of e1 rfl
        unfold kR
        rw [seq_ok s1]
        have er := rowin_ok (S := T) (ws := w :: rest) hp
        have i3 : mCons (mVar 3) mNil (BE y0 (some (.loc S.length)) (some (.str line)) (some (.lst ((w :: rest).map D.str))) (some (.str t.1)) (some (.int t.2.1)) (some (.tup (t.2.2.map rowD)))) T = .ok [.lst ((w :: rest).map D.str)] T := cons_of (var_of rfl) rfl
        cases qr : allO numV (w :: rest) with
        | none =>
          rw [qr] at er
          exact setIx_exc (tup_exc (cons_exc2 (var_of rfl) (cons_exc2 (var_of rfl) (cons_exc1 (bin_exc2 (var_of rfl) (tup_exc (cons_exc1 (app_exc i3 rfl er))))))))
        | some rr =>
          rw [qr] at er
          have ht : t.2.2.length < 90000 := hr t (List.mem_append_right _ (List.mem_singleton.mpr rfl))
          have ev : mTup (mCons (mVar 4) (mCons (mVar 5) (mCons (mBin addD (mVar 6) (mTup (mCons (mApp 1 FRowIn (mCons (mVar 3) mNil)) mNil))) mNil))) (BE y0 (some (.loc S.length)) (some (.str line)) (some (.lst ((w :: rest).map D.str))) (some (.str t.1)) (some (.int t.2.1)) (some (.tup (t.2.2.map rowD)))) T = .ok (tD3 (t.1, t.2.1, t.2.2 ++ [rr])) T := by
            refine tup_of (cons_of (var_of rfl) (cons_of (var_of rfl) (cons_of (bin_of (z := .tup ((t.2.2 ++ [rr]).map rowD)) (var_of rfl) (tup_of (cons_of (run_app i3 rfl er) rfl) (by simp)) ?_) rfl))) (by simp)
            refine (if_pos (by rw [List.length_map]; simp; omega)).trans ?_
            rw [List.map_append]
            rfl
          have ix : ixN ((f0 ++ [t]).map tD3).length (-1) = some f0.length := by
            rw [List.length_map, List.length_append, List.length_singleton]
            unfold ixN
            simp
            omega
          rw [sSetIx_ap, ev, bs_ok, var_of (v := .loc S.length) rfl, bs_ok, un_of (v := .int (-1)) (d := .int 1) rfl rfl, bs_ok, putD_ap, hTL]
          simp only [ix]
          rw [hTs]
          show _ = (match addR (f0 ++ [t]) rr with
            | some g => Z.ok .next _ (S ++ [O.lst (g.map tD3)])
            | none => .exc "NoText" _ T)
          rw [addR_snoc]
          have : ((f0 ++ [t]).map tD3).set f0.length (tD3 (t.1, t.2.1, t.2.2 ++ [rr])) = (f0 ++ [(t.1, t.2.1, t.2.2 ++ [rr])]).map tD3 := by
            rw [List.map_append, List.map_append, List.set_append_right _ _ (by rw [List.length_map]; exact Nat.le_refl _), List.length_map, Nat.sub_self]
            rfl
          rw [this]
theorem bB_loop {y0 : Option D} : ∀ (ls : List Str) (m : Nat) (f : List Tb3) (y2 y3 y4 y5 y6 : Option D), FbOk m f → m + ls.length ≤ 80000 → (∀ l ∈ ls, Asc l ∧ l.length ≤ 900) →
    (∀ g, foldB nameS ls f = some g → ∃ z2 z3 z4 z5 z6, sLoop (tgN 2) bB (ls.map D.str) (BE y0 (some (.loc S.length)) y2 y3 y4 y5 y6) (S ++ [.lst (f.map tD3)]) = .ok .next (BE y0 (some (.loc S.length)) z2 z3 z4 z5 z6) (S ++ [.lst (g.map tD3)])) ∧
    (foldB nameS ls f = none → ∃ rho E, sLoop (tgN 2) bB (ls.map D.str) (BE y0 (some (.loc S.length)) y2 y3 y4 y5 y6) (S ++ [.lst (f.map tD3)]) = .exc "NoText" rho (S ++ E))
  | [], m, f, y2, y3, y4, y5, y6, _, _, _ => ⟨fun g h => by cases h; exact ⟨y2, y3, y4, y5, y6, rfl⟩, fun h => nomatch h⟩
  | l :: ls, m, f, y2, y3, y4, y5, y6, hf, hm, ha => by
    obtain ⟨a1, a2⟩ := ha l List.mem_cons_self
    rw [List.length_cons] at hm
    have fl := hf.len
    obtain ⟨z3, z4, z5, z6, e⟩ := bB_ok (S := S) (f := f) a1 a2 (by omega) (fun t ht => by have := hf.rows t ht; omega) y0 y3 y4 y5 y6
    have g1 : tgN 2 (.str l) (BE y0 (some (.loc S.length)) y2 y3 y4 y5 y6) = some (BE y0 (some (.loc S.length)) (some (.str l)) y3 y4 y5 y6) := rfl
    have ef : foldB nameS (l :: ls) f = (stepB nameS f l).bind (foldB nameS ls) := rfl
    rw [ef, List.map_cons]
    cases q : stepB nameS f l with
    | none =>
      rw [q] at e
      exact ⟨(fun _ h => nomatch h), fun _ => ⟨_, [.lst (f.map tD3)], loop_exc g1 e⟩⟩
    | some k =>
      rw [q] at e
      have ih := bB_loop (y0 := y0) ls (m + 1) k (some (.str l)) z3 z4 z5 z6 (hf.step a1 a2 q) (by omega) fun z hz => ha z (List.mem_cons_of_mem _ hz)
      rw [loop_step g1 e]
      exact ih
theorem bookin_ok {ls : List Str} (hl : ls.length ≤ 900) (ha : ∀ l ∈ ls, Asc l ∧ l.length ≤ 900) :
    (∀ g, foldB nameS ls [] = some g → bookK g = true → FBookIn [.lst (ls.map D.str)] S = .ok (.tup (g.map tD3)) S) ∧
    ((∀ g, foldB nameS ls [] = some g → bookK g = false) → FBookIn [.lst (ls.map D.str)] S = .exc "NoText" S) := by
  obtain ⟨k1, k2⟩ := bB_loop (S := S) (y0 := some (.lst (ls.map D.str))) ls 0 [] none none none none none FbOk.nil (by omega) ha
  have s1 : (sSet 1 (mNewL mNil)) [some (.lst (ls.map D.str)), none, none, none, none, none, none] S = .ok .next (BE (some (.lst (ls.map D.str))) (some (.loc S.length)) none none none none none) (S ++ [.lst ([].map tD3)]) := by simp
  have i2 : mIter (mVar 0) (BE (some (.lst (ls.map D.str))) (some (.loc S.length)) none none none none none) (S ++ [.lst ([].map tD3)]) = .ok (ls.map D.str) (S ++ [.lst ([].map tD3)]) := iter_of (var_of rfl) rfl
  have start : FBookIn [.lst (ls.map D.str)] S = finT S (sSeq (sFor (mIter (mVar 0)) (tgN 2) bB) (sSeq k3 (sRet (mCall tupD (mCons (mVar 1) mNil)))) (BE (some (.lst (ls.map D.str))) (some (.loc S.length)) none none none none none) (S ++ [.lst ([].map tD3)])) := by
    show finT S (sSeq (sSet 1 (mNewL mNil)) _ [some (.lst (ls.map D.str)), none, none, none, none, none, none] S) = _
    rw [seq_ok s1]
  rw [start]
  cases q : foldB nameS ls [] with
  | none =>
    refine ⟨(fun g h => nomatch h), fun _ => ?_⟩
    obtain ⟨rho, E, e⟩ := k2 q
    have e2 : (sFor (mIter (mVar 0)) (tgN 2) bB) (BE (some (.lst (ls.map D.str))) (some (.loc S.length)) none none none none none) (S ++ [.lst ([].map tD3)]) = .exc "NoText" rho (S ++ E) := (for_of i2).trans e
    rw [seq_exc e2]
    exact fin_exc E
  | some g =>
    obtain ⟨z2, z3, z4, z5, z6, e⟩ := k1 g q
    have e2 : (sFor (mIter (mVar 0)) (tgN 2) bB) (BE (some (.lst (ls.map D.str))) (some (.loc S.length)) none none none none none) (S ++ [.lst ([].map tD3)]) = .ok .next (BE (some (.lst (ls.map D.str))) (some (.loc S.length)) z2 z3 z4 z5 z6) (S ++ [.lst (g.map tD3)]) := (for_of i2).trans e
    have fb := FbOk.fold FbOk.nil ha q
    have et : mCall tupD (mCons (mVar 1) mNil) (BE (some (.lst (ls.map D.str))) (some (.loc S.length)) z2 z3 z4 z5 z6) (S ++ [.lst (g.map tD3)]) = .ok (.tup (g.map tD3)) (S ++ [.lst (g.map tD3)]) := call_of (cons_of (var_of rfl) rfl) (by
      have := Nv.last_at (S := S) (.lst (g.map tD3))
      simp [this])
    have eb := not_of (tru_of (run_app (n := 1) (ms := mCons (mCall tupD (mCons (mVar 1) mNil)) mNil) (cons_of et rfl) rfl (book_a (S := S ++ [.lst (g.map tD3)]) fun t ht => ⟨fb.asc t ht, fb.row t ht⟩)) rfl)
    rw [seq_ok e2]
    cases q2 : bookK g with
    | true =>
      rw [q2] at eb
      have e3 : k3 (BE (some (.lst (ls.map D.str))) (some (.loc S.length)) z2 z3 z4 z5 z6) (S ++ [.lst (g.map tD3)]) = .ok .next (BE (some (.lst (ls.map D.str))) (some (.loc S.length)) z2 z3 z4 z5 z6) (S ++ [.lst (g.map tD3)]) := (if_no eb).trans rfl
      refine ⟨fun g' h _ => ?_, fun h => ?_⟩
      · cases h
        rw [seq_ok e3, ret_of et]
        exact fin_ret_app _ (fz_clo (clo_f3 _ g))
      · have := h g rfl
        rw [q2] at this
        cases this
    | false =>
      rw [q2] at eb
      have e3 : k3 (BE (some (.lst (ls.map D.str))) (some (.loc S.length)) z2 z3 z4 z5 z6) (S ++ [.lst (g.map tD3)]) = .exc "NoText" (BE (some (.lst (ls.map D.str))) (some (.loc S.length)) z2 z3 z4 z5 z6) (S ++ [.lst (g.map tD3)]) := (if_yes eb).trans rfl
      refine ⟨fun g' h hb => ?_, fun _ => ?_⟩
      · cases h
        rw [q2] at hb
        cases hb
      · rw [seq_exc e3]
        exact fin_exc _
def ToldB (x : Str) (g : List Tb3) : Prop := ∃ ini, Txt.split x "\n" = ini ++ [("" : Str)] ∧ foldB nameS ini [] = some g ∧ bookK g = true
theorem readB_ok (h : Asc x) (hl : x.length ≤ 800) : (∀ g, ToldB x g → FReadB [.str x] S = .ok (.tup (g.map tD3)) S) ∧ ((∀ g, ¬ ToldB x g) → FReadB [.str x] S = .exc "NoText" S) := by
  obtain ⟨ini, l, e⟩ : ∃ ini l, Txt.split x "\n" = ini ++ [l] := by
    rcases List.eq_nil_or_concat (Txt.split x "\n") with e | ⟨a, b, e⟩
    · exact absurd e (split_ne sep_nl.ne sep_nl.low)
    · exact ⟨a, b, by rw [e, List.concat_eq_append]⟩
  have e1 := lines_ok (S := S) h e
  have hn : ini.length ≤ 900 := by
    have := split_len (x := x) (y := "\n")
    rw [e, List.length_append, List.length_singleton] at this
    omega
  have ha : ∀ z ∈ ini, Asc z ∧ z.length ≤ 900 := fun z hz => by
    have hm : z ∈ Txt.split x "\n" := by rw [e]; exact List.mem_append_left _ hz
    exact ⟨h.part sep_nl hm, by have := part_len sep_nl hm; omega⟩
  obtain ⟨b1, b2⟩ := bookin_ok (S := S) hn ha
  have v0 : mCons (mVar 0) mNil [some (.str x)] S = .ok [.str x] S := cons_of (var_of rfl) rfl
  by_cases c : l = ("" : Str)
  · rw [if_pos c] at e1
    have a1 : mCons (mApp 1 FLines (mCons (mVar 0) mNil)) mNil [some (.str x)] S = .ok [.lst (ini.map D.str)] S := cons_of (run_app v0 rfl e1) rfl
    refine ⟨fun g t => ?_, fun t => ?_⟩
    · obtain ⟨ini', f1, f2, f3⟩ := t
      rw [e] at f1
      obtain rfl := (List.append_inj' f1 rfl).1
      exact fn_ret (clo_f3 _ g) ⟨[some (.str x)], ret_of (run_app a1 rfl (b1 g f2 f3))⟩
    · refine fn_exc ⟨[some (.str x)], ret_exc (app_exc a1 rfl (b2 fun g hg => ?_))⟩
      cases q : bookK g with
      | false => rfl
      | true => exact absurd ⟨ini, by rw [e, c], hg, q⟩ (t g)
  · rw [if_neg c] at e1
    have ex : mApp 1 FBookIn (mCons (mApp 1 FLines (mCons (mVar 0) mNil)) mNil) [some (.str x)] S = .exc "NoText" S := by
      have := cons_exc1 (ms := mNil) (app_exc (n := 1) (r := [some (.str x)]) v0 rfl e1)
      rw [mApp_ap, this]
      rfl
    refine ⟨fun g t => ?_, fun _ => fn_exc ⟨[some (.str x)], ret_exc ex⟩⟩
    · obtain ⟨ini', f1, _⟩ := t
      rw [e] at f1
      exact absurd (by simpa using (List.append_inj' f1 rfl).2) c
end
end Tq
namespace Tq
open PySem L2 Dv Sx TL
def qA : SM := (sSet 4 (mTm splD (mVar 1) (mC (.str " "))))
def qT : BM := (mAndT (mT (mBin eqD (mLc (mIter (mBin ixD (mVar 4) (mC (.int 0)))) [6] (tgN 6) (mNotT (mT (mChain leD leD (mC (.str "a")) (mVar 6) (mC (.str "z"))))) (mVar 6)) (mLst mNil))) (mT (mBin neD (mBin ixD (mVar 4) (mC (.int 0))) (mC (.str "")))))
def qH : SM := (sSeq (sIf (mOrT (mT (mBin neD (mCall lenD (mCons (mVar 4) mNil)) (mC (.int 2)))) (mT (mBin isND (mApp 1 FLNum (mCons (mBin ixD (mVar 4) (mC (.int 1))) mNil)) (mC .non)))) (sRet (mC .non)) sNil)
    (sDrop (mAppend (mVar 3) (mTup (mCons (mBin ixD (mVar 4) (mC (.int 0))) (mCons (mApp 1 FLNum (mCons (mBin ixD (mVar 4) (mC (.int 1))) mNil)) (mCons (mTup mNil) mNil)))))))
def qR1 : SM := (sSet 5 (mCall tupD (mCons (mLc (mIter (mVar 4)) [7] (tgN 7) mYes (mApp 1 FLNum (mCons (mVar 7) mNil))) mNil)))
def qR2 : SM := (sIf (mOrT (mNotT (mTru (mVar 3))) (mT (mBin inTD (mC .non) (mVar 5)))) (sRet (mC .non)) sNil)
def qR3 : SM := (sSetIx (mVar 3) (mUn negD (mC (.int 1))) (mBin addD (mSlW (mBin ixD (mVar 3) (mUn negD (mC (.int 1)))) mNoP (mP (mC (.int 2)))) (mTup (mCons (mBin addD (mBin ixD (mBin ixD (mVar 3) (mUn negD (mC (.int 1)))) (mC (.int 2))) (mTup (mCons (mVar 5) mNil))) mNil))))
def qB : SM := (sSeq qA (sIf qT qH (sSeq qR1 (sSeq qR2 qR3))))
def FLReadB : List D → Store → R D := runT 8 (sSeq (sPar 2 3 (mCons (mTm splD (mVar 0) (mC (.str "\n"))) (mCons (mNewL mNil) mNil)))
    (sSeq (sFor (mIter (mSlW (mVar 2) mNoP (mP (mUn negD (mC (.int 1)))))) (tgN 1) qB)
    (sRet (mIf (mAndT (mT (mBin eqD (mBin ixD (mVar 2) (mUn negD (mC (.int 1)))) (mC (.str "")))) (mTru (mApp 1 Bk.FBk (mCons (mCall tupD (mCons (mVar 3) mNil)) mNil)))) (mCall tupD (mCons (mVar 3) mNil)) (mC .non)))))
abbrev LB (y0 y1 y2 y3 y4 y5 y6 y7 : Option D) : Dv.Env := [y0, y1, y2, y3, y4, y5, y6, y7]
theorem chain_i {S : Store} (r : Dv.Env) (i c : Nat) (h : r[i]? = some (some (chD c))) : mChain leD leD (mC (.str "a")) (mVar i) (mC (.str "z")) r S = .ok (.bl (Nv.chOk c)) S := by
  have l1 : leD (.str "a") (chD c) S = some (.bl (!decide ([c] < [97]))) := rfl
  have l2 : leD (chD c) (.str "z") S = some (.bl (!decide ([122] < [c]))) := rfl
  rw [mChain_ap, mC_ap, rb_ok]
  simp only [mVar_ap, h, rb_ok, l1, ofO_some]
  unfold Nv.chOk
  cases hq : (!decide ([c] < [97])) with
  | false => rfl
  | true =>
    show (R.ok (D.str "z") S).bind _ = _
    rw [rb_ok, l2]
    rfl
theorem cut_most {α : Type} (xs : List α) (x : α) : cutL (xs ++ [x]) none (some (-1)) = xs := by
  have e : HT.sIx (xs ++ [x]).length (xs ++ [x]).length (some (-1)) = xs.length := by
    show ((-1 : Int) + ((xs ++ [x]).length : Int)).toNat = _
    rw [List.length_append, List.length_singleton]
    omega
  unfold cutL
  rw [e, HT.sIx_none, List.drop_zero, Nat.sub_zero]
  exact List.take_left
theorem numD_n (x : Str) : TmN (numD x) := by
  unfold numD
  cases q : numV x with
  | none => exact .inr rfl
  | some n =>
    obtain ⟨a, b⟩ := numV4 q
    exact .inl (tmP_int a b)
theorem numD_non {x : Str} : numD x = .non ↔ numV x = none := by
  unfold numD
  cases numV x with
  | none => exact ⟨fun _ => rfl, fun _ => rfl⟩
  | some n => exact ⟨(fun h => nomatch h), fun h => nomatch h⟩
theorem nums_some : ∀ {ws : List Str} {r : List Int}, allO numV ws = some r → ws.map numD = r.map D.int
  | [], r, h => by cases h; rfl
  | w :: ws, r, h => by
    rw [allO_cons] at h
    cases q : numV w with
    | none => rw [q] at h; cases h
    | some n =>
      rw [q, Option.bind_some] at h
      cases q2 : allO numV ws with
      | none => rw [q2] at h; cases h
      | some zs =>
        rw [q2] at h
        cases h
        rw [List.map_cons, nums_some q2]
        unfold numD
        rw [q]
        rfl
theorem nums_none : ∀ {ws : List Str}, allO numV ws = none → D.non ∈ ws.map numD
  | [], h => nomatch h
  | w :: ws, h => by
    rw [allO_cons] at h
    cases q : numV w with
    | none => exact List.mem_map.mpr ⟨w, List.mem_cons_self, numD_non.mpr q⟩
    | some n =>
      rw [q, Option.bind_some] at h
      cases q2 : allO numV ws with
      | none => exact List.mem_cons_of_mem _ (nums_none q2)
      | some zs => rw [q2] at h; cases h
section
variable {S : Store} {x : Str}
theorem letT_ok {w : Str} {rest : List Str} (hw : Asc w) {y0 y1 y2 y3 y5 y6 y7 : Option D} : qT (LB y0 y1 y2 y3 (some (.lst ((w :: rest).map D.str))) y5 y6 y7) S = .ok (letB w) S := by
  have i0 : mBin ixD (mVar 4) (mC (.int 0)) (LB y0 y1 y2 y3 (some (.lst ((w :: rest).map D.str))) y5 y6 y7) S = .ok (.str w) S := bin_of (var_of rfl) rfl (atI_zero _ _)
  have lc := lc_src (S := S) (gm := tgN 6) (tt := mNotT (mT (mChain leD leD (mC (.str "a")) (mVar 6) (mC (.str "z"))))) (te := mVar 6) (r0 := LB y0 y1 y2 y3 (some (.lst ((w :: rest).map D.str))) y5 none y7) chD (fun c => !Nv.chOk c) chD w.cps.toList fun c hc => ⟨LB y0 y1 y2 y3 (some (.lst ((w :: rest).map D.str))) y5 (some (chD c)) y7, rfl, not_of (t_of (chain_i _ 6 c rfl)), fun _ => var_of rfl⟩
  have l1 := lc_of (vs := [6]) (iter_of i0 hw.seq) lc
  have e1 : mT (mBin eqD (mLc (mIter (mBin ixD (mVar 4) (mC (.int 0)))) [6] (tgN 6) (mNotT (mT (mChain leD leD (mC (.str "a")) (mVar 6) (mC (.str "z"))))) (mVar 6)) (mLst mNil)) (LB y0 y1 y2 y3 (some (.lst ((w :: rest).map D.str))) y5 y6 y7) S = .ok ((tl w).all Nv.chOk) S := by
    refine t_of (bin_of l1 (lst_of nil_of (by simp)) ?_)
    have hpl : pl 1 (.lst ((w.cps.toList.filter fun c => !Nv.chOk c).map chD)) = true := List.all_eq_true.mpr fun d hd => by
      obtain ⟨c, hc, rfl⟩ := List.mem_map.mp hd
      exact pl_chD (pl_iff.mp hw.ok c (List.mem_filter.mp hc).1)
    have e := eqD_pl (S := S) (k := 1) (a := .lst ((w.cps.toList.filter fun c => !Nv.chOk c).map chD)) (b := .lst []) hpl rfl (by decide)
    refine e.trans ?_
    congr 2
    rw [Bool.eq_iff_iff, decide_eq_true_eq]
    show D.lst _ = D.lst [] ↔ _
    rw [D.lst.injEq, List.map_eq_nil_iff]
    exact filt_all
  unfold letB qT
  cases q : (tl w).all Nv.chOk with
  | false =>
    rw [q] at e1
    rw [and_f e1, Bool.and_false]
  | true =>
    rw [q] at e1
    have e2 : mT (mBin neD (mBin ixD (mVar 4) (mC (.int 0))) (mC (.str ""))) (LB y0 y1 y2 y3 (some (.lst ((w :: rest).map D.str))) y5 y6 y7) S = .ok (!decide (w = ("" : Str))) S := t_of (bin_of i0 rfl (ne_of_asc hw asc_nil))
    rw [and_t e1 e2, Bool.and_true]
    congr 2
    refine decide_eq_decide.mpr ⟨fun h => by rw [h]; rfl, fun h => ext_tl h⟩
theorem qB_ok {line : Str} {f : List Tb3} (h : Asc line) (hl : line.length ≤ 900) (hf : f.length < 90000) (hr : ∀ t ∈ f, t.2.2.length < 90000) (y0 y2 y4 y5 y6 y7 : Option D) :
    ∃ z4 z5 z6 z7, qB (LB y0 (some (.str line)) y2 (some (.loc S.length)) y4 y5 y6 y7) (S ++ [.lst (f.map tD3)]) = (match stepB letB f line with
      | some g => .ok .next (LB y0 (some (.str line)) y2 (some (.loc S.length)) z4 z5 z6 z7) (S ++ [.lst (g.map tD3)])
      | none => .ok (.ret .non) (LB y0 (some (.str line)) y2 (some (.loc S.length)) z4 z5 z6 z7) (S ++ [.lst (f.map tD3)])) := by
  obtain ⟨T, hT⟩ : ∃ T, T = S ++ [O.lst (f.map tD3)] := ⟨_, rfl⟩
  have hTL : T[S.length]? = some (.lst (f.map tD3)) := by rw [hT]; exact Nv.last_at _
  have hTs : ∀ o, T.set S.length o = S ++ [o] := fun o => by rw [hT]; exact Nv.last_set _ o
  have hp : ∀ p ∈ Txt.split line " ", Asc p := fun p hp => h.part sep_bl hp
  have hn : (Txt.split line " ").length ≤ 1000 := by have := split_len (x := line) (y := " "); omega
  have ne := split_ne (x := line) sep_bl.ne sep_bl.low
  have sA : qA (LB y0 (some (.str line)) y2 (some (.loc S.length)) y4 y5 y6 y7) T = .ok .next (LB y0 (some (.str line)) y2 (some (.loc S.length)) (some (.lst ((Txt.split line " ").map D.str))) y5 y6 y7) T := (set_of (tm_of (var_of rfl) rfl (h.split sep_bl))).trans rfl
  rw [← hT]
  unfold qB
  rw [seq_ok sA]
  unfold stepB
  generalize Txt.split line " " = ws at *
  match ws, ne with
  | w :: rest, _ =>
    have hw : Asc w := hp w List.mem_cons_self
    have i0 : mBin ixD (mVar 4) (mC (.int 0)) (LB y0 (some (.str line)) y2 (some (.loc S.length)) (some (.lst ((w :: rest).map D.str))) y5 y6 y7) T = .ok (.str w) T := bin_of (var_of rfl) rfl (atI_zero _ _)
    have en := letT_ok (S := T) (w := w) (rest := rest) hw (y0 := y0) (y1 := some (.str line)) (y2 := y2) (y3 := some (.loc S.length)) (y5 := y5) (y6 := y6) (y7 := y7)
    show ∃ z4 z5 z6 z7, _ = (match (if letB w = true then headB f w rest else (allO numV (w :: rest)).bind (addR f)) with
      | some g => Z.ok .next (LB y0 (some (.str line)) y2 (some (.loc S.length)) z4 z5 z6 z7) (S ++ [O.lst (g.map tD3)])
      | none => .ok (.ret .non) (LB y0 (some (.str line)) y2 (some (.loc S.length)) z4 z5 z6 z7) T)
    cases q : letB w with
    | true =>
      rw [q] at en
      rw [if_yes en, if_pos rfl]
      refine ⟨some (.lst ((w :: rest).map D.str)), y5, y6, y7, ?_⟩
      unfold qH
      have el : mT (mBin neD (mCall lenD (mCons (mVar 4) mNil)) (mC (.int 2))) (LB y0 (some (.str line)) y2 (some (.loc S.length)) (some (.lst ((w :: rest).map D.str))) y5 y6 y7) T = .ok (!decide (rest.length = 1)) T := by
        have : decide ((((w :: rest).map D.str).length : Int) = 2) = decide (rest.length = 1) := decide_eq_decide.mpr (by rw [List.length_map, List.length_cons]; omega)
        rw [← this]
        exact t_of (bin_of (call_of (cons_of (var_of rfl) rfl) rfl) rfl rfl)
      by_cases c : rest.length = 1
      · rw [decide_eq_true c] at el
        obtain ⟨v, rfl⟩ : ∃ v, rest = [v] := by
          match rest, c with
          | [v], _ => exact ⟨v, rfl⟩
        have hv : Asc v := hp v (List.mem_cons_of_mem _ List.mem_cons_self)
        have i1 : mCons (mBin ixD (mVar 4) (mC (.int 1))) mNil (LB y0 (some (.str line)) y2 (some (.loc S.length)) (some (.lst ([w, v].map D.str))) y5 y6 y7) T = .ok [.str v] T := cons_of (bin_of (var_of rfl) rfl rfl) rfl
        have ev : mApp 1 FLNum (mCons (mBin ixD (mVar 4) (mC (.int 1))) mNil) (LB y0 (some (.str line)) y2 (some (.loc S.length)) (some (.lst ([w, v].map D.str))) y5 y6 y7) T = .ok (numD v) T := run_app i1 rfl (lnum_ok hv)
        show _ = (match (numV v).map (fun n => f ++ [(w, n, [])]) with
          | some g => Z.ok .next (LB y0 (some (.str line)) y2 (some (.loc S.length)) (some (.lst ([w, v].map D.str))) y5 y6 y7) (S ++ [O.lst (g.map tD3)])
          | none => .ok (.ret .non) (LB y0 (some (.str line)) y2 (some (.loc S.length)) (some (.lst ([w, v].map D.str))) y5 y6 y7) T)
        unfold numD at ev
        cases qn : numV v with
        | none =>
          rw [qn] at ev
          have et : mT (mBin isND (mApp 1 FLNum (mCons (mBin ixD (mVar 4) (mC (.int 1))) mNil)) (mC .non)) (LB y0 (some (.str line)) y2 (some (.loc S.length)) (some (.lst ([w, v].map D.str))) y5 y6 y7) T = .ok true T := t_of (bin_of ev rfl rfl)
          exact seq_ret ((if_yes (or_f el et)).trans (ret_of rfl))
        | some n =>
          rw [qn] at ev
          have et : mT (mBin isND (mApp 1 FLNum (mCons (mBin ixD (mVar 4) (mC (.int 1))) mNil)) (mC .non)) (LB y0 (some (.str line)) y2 (some (.loc S.length)) (some (.lst ([w, v].map D.str))) y5 y6 y7) T = .ok false T := t_of (bin_of ev rfl rfl)
          rw [seq_no (or_f el et)]
          refine (drop_of (append_of (k := 3) rfl hTL (tup_of (cons_of i0 (cons_of ev (cons_of (tup_of nil_of (by simp)) rfl))) (by simp)) (by rw [List.length_map]; omega))).trans ?_
          rw [hTs]
          show _ = Z.ok .next _ (S ++ [O.lst ((f ++ [(w, n, [])]).map tD3)])
          rw [List.map_append]
          rfl
      · rw [decide_eq_false c] at el
        have : headB f w rest = none := by
          match rest, c with
          | [], _ => rfl
          | [_], c => exact absurd rfl c
          | _ :: _ :: _, _ => rfl
        rw [this]
        exact seq_ret ((if_yes (or_t el)).trans (ret_of rfl))
    | false =>
      rw [q] at en
      rw [if_no en, if_neg Bool.false_ne_true]
      have lc := lc_all (S := T) (gm := tgN 7) (te := mApp 1 FLNum (mCons (mVar 7) mNil)) (r0 := LB y0 (some (.str line)) y2 (some (.loc S.length)) (some (.lst ((w :: rest).map D.str))) y5 y6 none) D.str numD (w :: rest) fun p hp' => ⟨LB y0 (some (.str line)) y2 (some (.loc S.length)) (some (.lst ((w :: rest).map D.str))) y5 y6 (some (.str p)), rfl, run_app (cons_of (var_of rfl) rfl) rfl (lnum_ok (hp p hp'))⟩
      have s1 : qR1 (LB y0 (some (.str line)) y2 (some (.loc S.length)) (some (.lst ((w :: rest).map D.str))) y5 y6 y7) T = .ok .next (LB y0 (some (.str line)) y2 (some (.loc S.length)) (some (.lst ((w :: rest).map D.str))) (some (.tup ((w :: rest).map numD))) y6 y7) T := (set_of (call_of (cons_of (lc_of (vs := [7]) (iter_of (var_of rfl) rfl) lc) rfl) rfl)).trans rfl
      rw [seq_ok s1]
      have et : mTru (mVar 3) (LB y0 (some (.str line)) y2 (some (.loc S.length)) (some (.lst ((w :: rest).map D.str))) (some (.tup ((w :: rest).map numD))) y6 y7) T = .ok (!(f.map tD3).isEmpty) T := tru_of (var_of rfl) (by simp [hTL])
      have eN : mT (mBin inTD (mC .non) (mVar 5)) (LB y0 (some (.str line)) y2 (some (.loc S.length)) (some (.lst ((w :: rest).map D.str))) (some (.tup ((w :: rest).map numD))) y6 y7) T = .ok (decide (D.non ∈ (w :: rest).map numD)) T := t_of (bin_of rfl (var_of rfl) (non_in (S := T) fun t ht => by
        obtain ⟨p, _, rfl⟩ := List.mem_map.mp ht
        exact numD_n p))
      refine ⟨some (.lst ((w :: rest).map D.str)), some (.tup ((w :: rest).map numD)), y6, y7, ?_⟩
      unfold qR2
      rcases List.eq_nil_or_concat f with rfl | ⟨f0, t, rfl⟩
      · have : ((allO numV (w :: rest)).bind (addR [])) = none := by cases allO numV (w :: rest) <;> rfl
        rw [this]
        exact seq_ret ((if_yes (or_t (not_of et))).trans (ret_of rfl))
      · rw [List.concat_eq_append] at *
        have et : mTru (mVar 3) (LB y0 (some (.str line)) y2 (some (.loc S.length)) (some (.lst ((w :: rest).map D.str))) (some (.tup ((w :: rest).map numD))) y6 y7) T = .ok true T := by
          rw [et, List.map_append]
          congr 1
          cases f0 <;> rfl
        cases qr : allO numV (w :: rest) with
        | none =>
          rw [decide_eq_true (nums_none qr)] at eN
          exact seq_ret ((if_yes (or_f (not_of et) eN)).trans (ret_of rfl))
        | some rr =>
          have en2 := nums_some qr
          rw [en2] at eN ⊢
          rw [decide_eq_false (by
            intro z
            obtain ⟨i, _, e⟩ := List.mem_map.mp z
            cases e)] at eN
          rw [en2] at et
          rw [seq_no (or_f (not_of et) eN)]
          have ht : t.2.2.length < 90000 := hr t (List.mem_append_right _ (List.mem_singleton.mpr rfl))
          have at1 : atI ((f0 ++ [t]).map tD3) (-1) = some (tD3 t) := by
            rw [List.map_append]
            exact atI_neg1 _ _
          have e1 : mBin ixD (mVar 3) (mUn negD (mC (.int 1))) (LB y0 (some (.str line)) y2 (some (.loc S.length)) (some (.lst ((w :: rest).map D.str))) (some (.tup (rr.map D.int))) y6 y7) T = .ok (tD3 t) T := by
            refine bin_of (var_of rfl) (un_of rfl rfl) ?_
            show (match T[S.length]? with
              | some (.lst xs) => atI xs (-1)
              | _ => none) = _
            rw [hTL]
            exact at1
          have e2 : mSlW (mBin ixD (mVar 3) (mUn negD (mC (.int 1)))) mNoP (mP (mC (.int 2))) (LB y0 (some (.str line)) y2 (some (.loc S.length)) (some (.lst ((w :: rest).map D.str))) (some (.tup (rr.map D.int))) y6 y7) T = .ok (.tup [.str t.1, .int t.2.1]) T := by
            show ((mBin ixD (mVar 3) (mUn negD (mC (.int 1)))) _ T).bind _ = _
            rw [e1, rb_ok]
            show ofO (some (D.tup (cutL [.str t.1, .int t.2.1, .tup (t.2.2.map rowD)] none (some ((2 : Nat) : Int))))) T = _
            rw [cut_take]
            rfl
          have e3 : mBin ixD (mBin ixD (mVar 3) (mUn negD (mC (.int 1)))) (mC (.int 2)) (LB y0 (some (.str line)) y2 (some (.loc S.length)) (some (.lst ((w :: rest).map D.str))) (some (.tup (rr.map D.int))) y6 y7) T = .ok (.tup (t.2.2.map rowD)) T := bin_of e1 rfl rfl
          have e4 : mBin addD (mBin ixD (mBin ixD (mVar 3) (mUn negD (mC (.int 1)))) (mC (.int 2))) (mTup (mCons (mVar 5) mNil)) (LB y0 (some (.str line)) y2 (some (.loc S.length)) (some (.lst ((w :: rest).map D.str))) (some (.tup (rr.map D.int))) y6 y7) T = .ok (.tup ((t.2.2 ++ [rr]).map rowD)) T := by
            refine bin_of e3 (tup_of (cons_of (var_of rfl) rfl) (by simp)) ((if_pos (by rw [List.length_map]; simp; omega)).trans ?_)
            rw [List.map_append]
            rfl
          have ev : mBin addD (mSlW (mBin ixD (mVar 3) (mUn negD (mC (.int 1)))) mNoP (mP (mC (.int 2)))) (mTup (mCons (mBin addD (mBin ixD (mBin ixD (mVar 3) (mUn negD (mC (.int 1)))) (mC (.int 2))) (mTup (mCons (mVar 5) mNil))) mNil)) (LB y0 (some (.str line)) y2 (some (.loc S.length)) (some (.lst ((w :: rest).map D.str))) (some (.tup (rr.map D.int))) y6 y7) T = .ok (tD3 (t.1, t.2.1, t.2.2 ++ [rr])) T := bin_of e2 (tup_of (cons_of e4 rfl) (by simp)) rfl
          have ix : ixN ((f0 ++ [t]).map tD3).length (-1) = some f0.length := by
            rw [List.length_map, List.length_append, List.length_singleton]
            unfold ixN
            simp
            omega
          unfold qR3
          rw [sSetIx_ap, ev, bs_ok, var_of (v := .loc S.length) rfl, bs_ok, un_of (v := .int (-1)) (d := .int 1) rfl rfl, bs_ok, putD_ap, hTL]
          simp only [ix]
          rw [hTs]
          show _ = (match addR (f0 ++ [t]) rr with
            | some g => Z.ok .next _ (S ++ [O.lst (g.map tD3)])
            | none => .ok (.ret .non) _ T)
          rw [addR_snoc]
          have : ((f0 ++ [t]).map tD3).set f0.length (tD3 (t.1, t.2.1, t.2.2 ++ [rr])) = (f0 ++ [(t.1, t.2.1, t.2.2 ++ [rr])]).map tD3 := by
            rw [List.map_append, List.map_append, List.set_append_right _ _ (by rw [List.length_map]; exact Nat.le_refl _), List.length_map, Nat.sub_self]
            rfl
          rw [this]
theorem qB_loop {y0 y2 : Option D} : ∀ (ls : List Str) (m : Nat) (f : List Tb3) (y1 y4 y5 y6 y7 : Option D), FbOk m f → m + ls.length ≤ 80000 → (∀ l ∈ ls, Asc l ∧ l.length ≤ 900) →
    (∀ g, foldB letB ls f = some g → ∃ z1 z4 z5 z6 z7, sLoop (tgN 1) qB (ls.map D.str) (LB y0 y1 y2 (some (.loc S.length)) y4 y5 y6 y7) (S ++ [.lst (f.map tD3)]) = .ok .next (LB y0 z1 y2 (some (.loc S.length)) z4 z5 z6 z7) (S ++ [.lst (g.map tD3)])) ∧
    (foldB letB ls f = none → ∃ rho E, sLoop (tgN 1) qB (ls.map D.str) (LB y0 y1 y2 (some (.loc S.length)) y4 y5 y6 y7) (S ++ [.lst (f.map tD3)]) = .ok (.ret .non) rho (S ++ E))
  | [], m, f, y1, y4, y5, y6, y7, _, _, _ => ⟨fun g h => by cases h; exact ⟨y1, y4, y5, y6, y7, rfl⟩, fun h => nomatch h⟩
  | l :: ls, m, f, y1, y4, y5, y6, y7, hf, hm, ha => by
    obtain ⟨a1, a2⟩ := ha l List.mem_cons_self
    rw [List.length_cons] at hm
    have fl := hf.len
    obtain ⟨z4, z5, z6, z7, e⟩ := qB_ok (S := S) (f := f) a1 a2 (by omega) (fun t ht => by have := hf.rows t ht; omega) y0 y2 y4 y5 y6 y7
    have g1 : tgN 1 (.str l) (LB y0 y1 y2 (some (.loc S.length)) y4 y5 y6 y7) = some (LB y0 (some (.str l)) y2 (some (.loc S.length)) y4 y5 y6 y7) := rfl
    have ef : foldB letB (l :: ls) f = (stepB letB f l).bind (foldB letB ls) := rfl
    rw [ef, List.map_cons]
    cases q : stepB letB f l with
    | none =>
      rw [q] at e
      exact ⟨(fun _ h => nomatch h), fun _ => ⟨_, [.lst (f.map tD3)], loop_out g1 e⟩⟩
    | some k =>
      rw [q] at e
      have ih := qB_loop (y0 := y0) (y2 := y2) ls (m + 1) k (some (.str l)) z4 z5 z6 z7 (hf.step a1 a2 q) (by omega) fun z hz => ha z (List.mem_cons_of_mem _ hz)
      rw [loop_step g1 e]
      exact ih
theorem lreadB_ok (h : Asc x) (hl : x.length ≤ 800) : (∀ g, ToldB x g → FLReadB [.str x] S = .ok (.tup (g.map tD3)) S) ∧ ((∀ g, ¬ ToldB x g) → FLReadB [.str x] S = .ok .non S) := by
  obtain ⟨ini, l, e⟩ : ∃ ini l, Txt.split x "\n" = ini ++ [l] := by
    rcases List.eq_nil_or_concat (Txt.split x "\n") with e | ⟨a, b, e⟩
    · exact absurd e (split_ne sep_nl.ne sep_nl.low)
    · exact ⟨a, b, by rw [e, List.concat_eq_append]⟩
  have hlA : Asc l := h.part sep_nl (by rw [e]; exact List.mem_append_right _ (List.mem_singleton.mpr rfl))
  have hn : ini.length ≤ 900 := by
    have := split_len (x := x) (y := "\n")
    rw [e, List.length_append, List.length_singleton] at this
    omega
  have ha : ∀ z ∈ ini, Asc z ∧ z.length ≤ 900 := fun z hz => by
    have hm : z ∈ Txt.split x "\n" := by rw [e]; exact List.mem_append_left _ hz
    exact ⟨h.part sep_nl hm, by have := part_len sep_nl hm; omega⟩
  have s1 : (sPar 2 3 (mCons (mTm splD (mVar 0) (mC (.str "\n"))) (mCons (mNewL mNil) mNil))) (LB (some (.str x)) none none none none none none none) S = .ok .next (LB (some (.str x)) none (some (.lst ((ini ++ [l]).map D.str))) (some (.loc S.length)) none none none none) (S ++ [.lst ([].map tD3)]) := by
    have e1 : mTm splD (mVar 0) (mC (.str "\n")) (LB (some (.str x)) none none none none none none none) S = .ok (.lst ((ini ++ [l]).map D.str)) S := by
      rw [← e]
      exact tm_of (var_of rfl) rfl (h.split sep_nl)
    have e2 : mNewL mNil (LB (some (.str x)) none none none none none none none) S = .ok (.loc S.length) (S ++ [.lst ([].map tD3)]) := by simp
    exact (par_of (cons_of e1 (cons_of e2 rfl))).trans rfl
  have i1 : mIter (mSlW (mVar 2) mNoP (mP (mUn negD (mC (.int 1))))) (LB (some (.str x)) none (some (.lst ((ini ++ [l]).map D.str))) (some (.loc S.length)) none none none none) (S ++ [.lst ([].map tD3)]) = .ok (ini.map D.str) (S ++ [.lst ([].map tD3)]) := by
    refine iter_of (d := .lst (ini.map D.str)) ?_ rfl
    show ofO (some (D.lst (cutL ((ini ++ [l]).map D.str) none (some (-1))))) _ = _
    rw [List.map_append]
    show ofO (some (D.lst (cutL (ini.map D.str ++ [D.str l]) none (some (-1))))) _ = _
    rw [cut_most]
    rfl
  obtain ⟨k1, k2⟩ := qB_loop (S := S) (y0 := some (.str x)) (y2 := some (.lst ((ini ++ [l]).map D.str))) ini 0 [] none none none none none FbOk.nil (by omega) ha
  have start : FLReadB [.str x] S = finT S (sSeq (sFor (mIter (mSlW (mVar 2) mNoP (mP (mUn negD (mC (.int 1)))))) (tgN 1) qB) (sRet (mIf (mAndT (mT (mBin eqD (mBin ixD (mVar 2) (mUn negD (mC (.int 1)))) (mC (.str "")))) (mTru (mApp 1 Bk.FBk (mCons (mCall tupD (mCons (mVar 3) mNil)) mNil)))) (mCall tupD (mCons (mVar 3) mNil)) (mC .non))) (LB (some (.str x)) none (some (.lst ((ini ++ [l]).map D.str))) (some (.loc S.length)) none none none none) (S ++ [.lst ([].map tD3)])) := by
    show finT S (sSeq (sPar 2 3 _) _ (LB (some (.str x)) none none none none none none none) S) = _
    rw [seq_ok s1]
  rw [start]
  have up : ∀ {g}, foldB nameS ini [] = some g → foldB letB ini [] = some g := fun hg => fold_to (fun z hz => (ha z hz).1) hg
  cases q : foldB letB ini [] with
  | none =>
    refine ⟨fun g t => ?_, fun _ => ?_⟩
    · obtain ⟨ini', f1, f2, f3⟩ := t
      rw [e] at f1
      obtain rfl := (List.append_inj' f1 rfl).1
      rw [up f2] at q
      cases q
    · obtain ⟨rho, E, e3⟩ := k2 q
      have e4 : (sFor (mIter (mSlW (mVar 2) mNoP (mP (mUn negD (mC (.int 1)))))) (tgN 1) qB) (LB (some (.str x)) none (some (.lst ((ini ++ [l]).map D.str))) (some (.loc S.length)) none none none none) (S ++ [.lst ([].map tD3)]) = .ok (.ret .non) rho (S ++ E) := (for_of i1).trans e3
      rw [seq_ret e4]
      exact fin_ret_app _ (fz_clo rfl)
  | some g =>
    obtain ⟨z1, z4, z5, z6, z7, e3⟩ := k1 g q
    have e4 : (sFor (mIter (mSlW (mVar 2) mNoP (mP (mUn negD (mC (.int 1)))))) (tgN 1) qB) (LB (some (.str x)) none (some (.lst ((ini ++ [l]).map D.str))) (some (.loc S.length)) none none none none) (S ++ [.lst ([].map tD3)]) = .ok .next (LB (some (.str x)) z1 (some (.lst ((ini ++ [l]).map D.str))) (some (.loc S.length)) z4 z5 z6 z7) (S ++ [.lst (g.map tD3)]) := (for_of i1).trans e3
    have fb := FbOk.fold FbOk.nil ha q
    have et : mCall tupD (mCons (mVar 3) mNil) (LB (some (.str x)) z1 (some (.lst ((ini ++ [l]).map D.str))) (some (.loc S.length)) z4 z5 z6 z7) (S ++ [.lst (g.map tD3)]) = .ok (.tup (g.map tD3)) (S ++ [.lst (g.map tD3)]) := call_of (cons_of (var_of rfl) rfl) (by
      have := Nv.last_at (S := S) (.lst (g.map tD3))
      simp [this])
    have eb := tru_of (run_app (n := 1) (ms := mCons (mCall tupD (mCons (mVar 3) mNil)) mNil) (cons_of et rfl) rfl (book_a (S := S ++ [.lst (g.map tD3)]) fun t ht => ⟨fb.asc t ht, fb.row t ht⟩)) rfl
    have el : mT (mBin eqD (mBin ixD (mVar 2) (mUn negD (mC (.int 1)))) (mC (.str ""))) (LB (some (.str x)) z1 (some (.lst ((ini ++ [l]).map D.str))) (some (.loc S.length)) z4 z5 z6 z7) (S ++ [.lst (g.map tD3)]) = .ok (decide (l = ("" : Str))) (S ++ [.lst (g.map tD3)]) := by
      refine t_of (bin_of (bin_of (z := .str l) (var_of rfl) (un_of rfl rfl) ?_) rfl (eq_of_asc hlA asc_nil))
      show atI ((ini ++ [l]).map D.str) (-1) = _
      rw [List.map_append]
      exact atI_neg1 _ _
    rw [seq_ok e4]
    have no : ∀ {b : BM}, b (LB (some (.str x)) z1 (some (.lst ((ini ++ [l]).map D.str))) (some (.loc S.length)) z4 z5 z6 z7) (S ++ [.lst (g.map tD3)]) = .ok false (S ++ [.lst (g.map tD3)]) → finT S (sRet (mIf b (mCall tupD (mCons (mVar 3) mNil)) (mC .non)) (LB (some (.str x)) z1 (some (.lst ((ini ++ [l]).map D.str))) (some (.loc S.length)) z4 z5 z6 z7) (S ++ [.lst (g.map tD3)])) = .ok .non S := fun eb' => by
      rw [ret_of (ife_f eb' rfl)]
      exact fin_ret_app _ (fz_clo rfl)
    have hT : ∀ g', ToldB x g' → l = ("" : Str) ∧ bookK g = true ∧ g' = g := fun g' t => by
      obtain ⟨ini', f1, f2, f3⟩ := t
      rw [e] at f1
      obtain ⟨a, b⟩ := List.append_inj' f1 rfl
      obtain rfl := a
      rw [up f2] at q
      cases q
      exact ⟨by simpa using b, f3, rfl⟩
    by_cases c : l = ("" : Str)
    · rw [decide_eq_true c] at el
      cases q2 : bookK g with
      | true =>
        rw [q2] at eb
        refine ⟨fun g' t => ?_, fun t => absurd ⟨ini, by rw [e, c], fold_from q (bookK_names q2), q2⟩ (t g)⟩
        obtain ⟨_, _, rfl⟩ := hT g' t
        rw [ret_of (ife_t (and_t el eb) et)]
        exact fin_ret_app _ (fz_clo (clo_f3 _ g'))
      | false =>
        rw [q2] at eb
        refine ⟨fun g' t => ?_, fun _ => no (and_t el eb)⟩
        have := (hT g' t).2.1
        rw [q2] at this
        cases this
    · rw [decide_eq_false c] at el
      exact ⟨fun g' t => absurd (hT g' t).1 c, fun _ => no (and_f el)⟩
end
end Tq
namespace Tq
open PySem L2 Dv Sx TL
section
variable {S : Store} {ns : List Int} {t n : Nat} {most : Nat} {far : Nat}
theorem pqrs_up : pqrs.Pairwise fun a b => ltS a b = true := by decide +kernel
theorem book_up (h63 : ns.length ≤ 63) (hf : 0 < far) (hm : most ≤ 20) (tw : Twn t n S) (hn : n ≤ 10000) : ∃ (tb : List Bt) (S' : Store), FBook [.scr ns, .loc t, .int most, .int far] S = .ok (.tup (tb.map tabD)) S' ∧ BookOk most far tb ∧ ((tb.map (·.w)).Pairwise fun a b => ltS a b = true) ∧ Twn t (n + 500) S' ∧ Dif t S S' := by
  have ht := twn_lt tw
  obtain ⟨S1, y5, y6, tb, e1, htb, hl, tw1, hS1, sl, ot⟩ := book_loop h63 hf hm (L := S.length) (by omega) pqrs [] none none (fun w h => h) (twn_app (E := [.lst []]) tw) (by simp; omega) (by simp) (by simp) (by simp)
  have hl : tb.map (·.w) = pqrs := by simpa using hl
  have hl4 : tb.length = 4 := by
    have := congrArg List.length hl
    simpa using this
  obtain ⟨j, S2, hj, tw2, d2, e2⟩ := draw_tw (many := 2) h63 tw1 (by simp; omega) (by decide)
  have hS2 : S2[S.length]? = some (.lst (tb.map tabD)) := by rw [d2.other (by omega)]; exact hS1
  have sl2 : slD (.loc S.length) (some (j : Int)) none S2 = some (.lst ((tb.drop j).map tabD)) := by
    unfold slD
    simp only [hS2]
    rw [cut_drop _ _ (by rw [List.length_map]; omega), List.map_drop]
  have eb : mBook [some (.scr ns), some (.loc t), some (.int most), some (.int far), none, none, none] S = .ok (.ret (.tup ((tb.drop j).map tabD))) [some (.scr ns), some (.loc t), some (.int most), some (.int far), some (.loc S.length), y5, y6] S2 := by
    unfold mBook
    have e1' : sLoop (tgN 5) mBookB [.str "p", .str "q", .str "r", .str "s"] [some (.scr ns), some (.loc t), some (.int most), some (.int far), some (.loc S.length), none, none] (S ++ [.lst []]) = _ := e1
    simp [e1', e2, sl2]
  obtain ⟨S', ef, tw', d'⟩ := fin_dif (S := S) (S1 := S2) (n := n + 500) (rho := [some (.scr ns), some (.loc t), some (.int most), some (.int far), some (.loc S.length), y5, y6]) (d := .tup ((tb.drop j).map tabD)) ht (by rw [d2.len, sl]; simp) (tw2.mono (by simp)) (fun i hi hne => by
    rw [d2.other hne, ot i hne (by omega), List.getElem?_append_left hi]) (cloL_tabs _ _)
  refine ⟨tb.drop j, S', ?_, ⟨fun x hx => htb x (List.mem_of_mem_drop hx), ?_, by rw [List.length_drop]; omega, ?_⟩, ?_, tw', d'⟩
  · show finT S (mBook (frame 7 _) S) = _
    have efr : frame 7 [.scr ns, .loc t, .int most, .int far] = [some (.scr ns), some (.loc t), some (.int most), some (.int far), none, none, none] := rfl
    rw [efr, eb]
    exact ef
  · intro q
    have := congrArg List.length q
    rw [List.length_drop, List.length_nil] at this
    omega
  · rw [List.map_drop, hl]
    exact List.Nodup.sublist (List.drop_sublist _ _) (by decide)
  · rw [List.map_drop, hl]
    exact pqrs_up.sublist (List.drop_sublist _ _)
end
def rowTx (r : List Int) : Str := Txt.join " " (r.map numT)
def headTx (x : Bt) : Str := (x.w ++ " ") ++ numT x.n
def lnsT (tb : List Bt) : List Str := tb.flatMap fun x => headTx x :: x.rows.map rowTx
def nlT (l : Str) : Str := l ++ "\n"
def bkT (tb : List Bt) : Str := Txt.join "" ((lnsT tb).map nlT)
structure DBook (tb : List Bt) : Prop where
  w : ∀ x ∈ tb, x.w ∈ pqrs
  n : ∀ x ∈ tb, 1 ≤ x.n ∧ x.n ≤ 3
  len : ∀ x ∈ tb, x.rows.length ≤ 4
  row : ∀ x ∈ tb, ∀ r ∈ x.rows, r.length = x.n ∧ ∀ v ∈ r, 0 ≤ v ∧ v < 3
  rup : ∀ x ∈ tb, x.rows.Pairwise fun a b => ltR a b = true
  up : (tb.map (·.w)).Pairwise fun a b => ltS a b = true
  ne : tb ≠ []
  cnt : tb.length ≤ 4
theorem dbook {tb : List Bt} (h : BookOk 4 3 tb) (hu : (tb.map (·.w)).Pairwise fun a b => ltS a b = true) : DBook tb :=
  ⟨fun x hx => (h.tab x hx).w, fun x hx => ⟨(h.tab x hx).lo, (h.tab x hx).hi⟩, fun x hx => (h.tab x hx).len, fun x hx r hr => (h.tab x hx).row r hr, fun x hx => (h.tab x hx).up, hu, h.ne, h.len⟩
theorem num_one {v : Int} (h : 0 ≤ v ∧ v < 10) : (numT v).length = 1 ∧ ∀ c ∈ tl (numT v), 48 ≤ c ∧ c ≤ 57 := by
  obtain ⟨m, rfl⟩ : ∃ m : Nat, v = m := ⟨v.toNat, by omega⟩
  have : m = 0 ∨ m = 1 ∨ m = 2 ∨ m = 3 ∨ m = 4 ∨ m = 5 ∨ m = 6 ∨ m = 7 ∨ m = 8 ∨ m = 9 := by omega
  refine ⟨by rcases this with rfl | rfl | rfl | rfl | rfl | rfl | rfl | rfl | rfl | rfl <;> decide +kernel, fun c hc => ?_⟩
  have et : tl (numT m) = numL m := tl_num m
  rw [et] at hc
  exact numL_digits m c hc
theorem num_back {v : Int} (h : 0 ≤ v ∧ v < 10) : numV (numT v) = some v := by
  obtain ⟨m, rfl⟩ : ∃ m : Nat, v = m := ⟨v.toNat, by omega⟩
  exact numV_nat (by omega)
theorem num_asc {v : Int} (h : 0 ≤ v ∧ v < 10) : Asc (numT v) := numT_asc (by omega) (by omega)
section
variable {tb : List Bt}
theorem row_clean {r : List Int} (h : ∀ v ∈ r, 0 ≤ v ∧ v < 3) : (∀ c ∈ tl (rowTx r), c = 32 ∨ (48 ≤ c ∧ c ≤ 57)) ∧ Txt.split (rowTx r) " " = (if r = [] then [("" : Str)] else r.map numT) ∧ (rowTx r).length ≤ 2 * r.length := by
  have hc : ∀ p ∈ r.map numT, ∀ c ∈ tl p, 48 ≤ c ∧ c ≤ 57 := fun p hp c hc => by
    obtain ⟨v, hv, rfl⟩ := List.mem_map.mp hp
    exact (num_one (by have := h v hv; omega)).2 c hc
  refine ⟨fun c hm => ?_, ?_, ?_⟩
  · unfold rowTx at hm
    rw [join_eq, tl_join] at hm
    rcases joinL_mem hm with q | ⟨p, hp, q⟩
    · exact .inl (List.mem_singleton.mp q)
    · obtain ⟨z, hz, rfl⟩ := List.mem_map.mp hp
      exact .inr (hc z hz c q)
  · by_cases e : r = []
    · subst e
      rw [if_pos rfl]
      decide +kernel
    · rw [if_neg e]
      exact split_join (y := " ") (s := 32) (S := []) rfl sep_bl.low (fun z => e (List.map_eq_nil_iff.mp z)) fun p hp z => by
        have := hc p hp 32 z
        omega
  · have s := sum_bound (m := 1) (ws := r.map numT) fun w hw => by
      obtain ⟨v, hv, rfl⟩ := List.mem_map.mp hw
      exact Nat.le_of_eq (num_one (by have := h v hv; omega)).1
    have j := join_le (r.map numT)
    rw [List.length_map] at s j
    unfold rowTx
    omega
theorem row_asc {r : List Int} (h : ∀ v ∈ r, 0 ≤ v ∧ v < 3) (hl : r.length ≤ 100) : Asc (rowTx r) := ⟨pl_iff.mpr fun c hc => by
  rcases (row_clean h).1 c hc with q | q <;> omega, by have := (row_clean h).2.2; omega⟩
theorem w_one {w : Str} (h : w ∈ pqrs) : w.length = 1 ∧ Asc w ∧ (∀ c ∈ tl w, 97 ≤ c ∧ c ≤ 122) ∧ nameS w = true := by
  have hn := Nv.name_pqrs h
  simp only [pqrs, List.mem_cons, List.not_mem_nil, or_false] at h
  refine ⟨?_, ?_, ?_, hn⟩
  · rcases h with rfl | rfl | rfl | rfl <;> rfl
  · rcases h with rfl | rfl | rfl | rfl <;> exact asc_c _
  · rcases h with rfl | rfl | rfl | rfl <;> decide +kernel
theorem head_clean {x : Bt} (hw : x.w ∈ pqrs) (hn : 1 ≤ x.n ∧ x.n ≤ 3) : (∀ c ∈ tl (headTx x), c = 32 ∨ (48 ≤ c ∧ c ≤ 122)) ∧ Txt.split (headTx x) " " = [x.w, numT x.n] ∧ (headTx x).length = 3 ∧ Asc (headTx x) := by
  obtain ⟨w1, w2, w3, w4⟩ := w_one hw
  obtain ⟨n1, n2⟩ := num_one (v := x.n) (by omega)
  have l1 : (" " : Str).length = 1 := rfl
  have hl : (headTx x).length = 3 := by
    unfold headTx
    rw [len_app, len_app, w1, n1, l1]
  have hc : ∀ c ∈ tl (headTx x), c = 32 ∨ (48 ≤ c ∧ c ≤ 122) := fun c hm => by
    unfold headTx at hm
    rw [tl_append, tl_append] at hm
    rcases List.mem_append.mp hm with q | q
    · rcases List.mem_append.mp q with q | q
      · have := w3 c q
        exact .inr (by omega)
      · exact .inl (List.mem_singleton.mp q)
    · have := n2 c q
      exact .inr (by omega)
  refine ⟨hc, ?_, hl, ⟨pl_iff.mpr fun c hm => by rcases hc c hm with q | q <;> omega, by omega⟩⟩
  unfold headTx
  rw [← join_two]
  refine split_join (y := " ") (s := 32) (S := []) rfl sep_bl.low (by simp) fun p hp z => ?_
  rcases List.mem_cons.mp hp with rfl | hp
  · have := w3 32 z
    omega
  · rcases List.mem_singleton.mp hp with rfl
    have := n2 32 z
    omega
theorem DBook.line (h : DBook tb) : ∀ l ∈ lnsT tb, (∀ c ∈ tl l, c = 32 ∨ (48 ≤ c ∧ c ≤ 122)) ∧ l.length ≤ 6 ∧ Asc l := fun l hl => by
  obtain ⟨x, hx, hl⟩ := List.mem_flatMap.mp hl
  have hn := h.n x hx
  rcases List.mem_cons.mp hl with rfl | hl
  · obtain ⟨a, _, c, d⟩ := head_clean (h.w x hx) hn
    exact ⟨a, by omega, d⟩
  · obtain ⟨r, hr, rfl⟩ := List.mem_map.mp hl
    obtain ⟨r1, r2⟩ := h.row x hx r hr
    obtain ⟨a, _, c⟩ := row_clean r2
    exact ⟨fun z hz => (a z hz).imp id fun q => by omega, by omega, row_asc r2 (by omega)⟩
theorem DBook.lines (h : DBook tb) : (lnsT tb).length ≤ 20 := by
  have := flat_le (f := fun x : Bt => headTx x :: x.rows.map rowTx) (k := 5) (l := tb) fun x hx => by
    rw [List.length_cons, List.length_map]
    have := h.len x hx
    omega
  have := h.cnt
  unfold lnsT
  omega
theorem tl_bkT (tb : List Bt) : tl (bkT tb) = (lnsT tb).flatMap fun l => tl l ++ [10] := by
  unfold bkT
  rw [join_eq, tl_join]
  have e : tl ("" : Str) = [] := rfl
  rw [e, List.map_map]
  generalize lnsT tb = L
  induction L with
  | nil => rfl
  | cons l L ih =>
    rw [List.flatMap_cons, ← ih, List.map_cons]
    have e2 : (tl ∘ nlT) l = tl l ++ [10] := by
      show tl (l ++ "\n") = _
      rw [tl_append]
      rfl
    rw [e2]
    cases L with
    | nil => simp [joinL]
    | cons m L => rfl
theorem bkT_join (tb : List Bt) : bkT tb = Txt.join "\n" (lnsT tb ++ [("" : Str)]) := ext_tl (by
  rw [tl_bkT, join_eq, tl_join, List.map_append]
  have e : tl ("\n" : Str) = [10] := rfl
  have e0 : [("" : Str)].map tl = [[]] := rfl
  rw [e, e0]
  generalize lnsT tb = L
  induction L with
  | nil => rfl
  | cons l L ih =>
    rw [List.flatMap_cons, ih, List.map_cons, List.cons_append, joinL_cons [10] (tl l) (by simp)]
    rw [List.append_assoc])
theorem DBook.split (h : DBook tb) : Txt.split (bkT tb) "\n" = lnsT tb ++ [("" : Str)] := by
  rw [bkT_join]
  refine split_join (y := "\n") (s := 10) (S := []) rfl sep_nl.low (by simp) fun p hp z => ?_
  rcases List.mem_append.mp hp with hp | hp
  · have := (h.line p hp).1 10 z
    omega
  · rcases List.mem_singleton.mp hp with rfl
    cases z
theorem DBook.text (h : DBook tb) : Asc (bkT tb) ∧ (bkT tb).length ≤ 140 := by
  have hl : (bkT tb).length ≤ 140 := by
    have s := sum_bound (m := 7) (ws := (lnsT tb).map nlT) fun w hw => by
      obtain ⟨l, hl, rfl⟩ := List.mem_map.mp hw
      have := (h.line l hl).2.1
      have e : (nlT l).length = l.length + 1 := len_app _ _
      omega
    have j := join_len "" ((lnsT tb).map nlT)
    have l0 : ("" : Str).length = 0 := rfl
    have := h.lines
    rw [List.length_map] at s
    rw [l0, Nat.mul_zero, Nat.add_zero] at j
    have j : (bkT tb).length ≤ sumS ((lnsT tb).map nlT) := j
    omega
  refine ⟨⟨pl_iff.mpr fun c hc => ?_, by omega⟩, hl⟩
  rw [tl_bkT] at hc
  obtain ⟨l, hl', hc⟩ := List.mem_flatMap.mp hc
  rcases List.mem_append.mp hc with hc | hc
  · rcases (h.line l hl').1 c hc with q | q <;> omega
  · rw [List.mem_singleton.mp hc]
    decide
def b3 (x : Bt) : Tb3 := (x.w, (x.n : Int), x.rows)
theorem b3_map (tb : List Bt) : (tb.map b3).map tD3 = tb.map tabD := by
  rw [List.map_map]
  rfl
theorem fold_app {nm : Str → Bool} : ∀ (a b : List Str) (f : List Tb3), foldB nm (a ++ b) f = (foldB nm a f).bind (foldB nm b)
  | [], b, f => rfl
  | l :: a, b, f => by
    show (stepB nm f l).bind (foldB nm (a ++ b)) = ((stepB nm f l).bind (foldB nm a)).bind (foldB nm b)
    cases stepB nm f l with
    | none => rfl
    | some k => exact fold_app a b k
theorem rows_fold {f : List Tb3} {w : Str} {n : Int} {k : Nat} (hk : 1 ≤ k) : ∀ (rs done : List (List Int)), (∀ r ∈ rs, r.length = k ∧ ∀ v ∈ r, 0 ≤ v ∧ v < 3) → foldB nameS (rs.map rowTx) (f ++ [(w, n, done)]) = some (f ++ [(w, n, done ++ rs)])
  | [], done, _ => by rw [List.append_nil]; rfl
  | r :: rs, done, h => by
    obtain ⟨r1, r2⟩ := h r List.mem_cons_self
    have hne : r ≠ [] := fun z => by rw [z] at r1; simp at r1; omega
    have st : stepB nameS (f ++ [(w, n, done)]) (rowTx r) = some (f ++ [(w, n, done ++ [r])]) := by
      unfold stepB
      rw [(row_clean r2).2.1, if_neg hne]
      have hall : allO numV (r.map numT) = some r := by
        have : ∀ l : List Int, (∀ v ∈ l, 0 ≤ v ∧ v < 3) → allO numV (l.map numT) = some l := by
          intro l
          induction l with
          | nil => exact fun _ => rfl
          | cons v l ih =>
            intro hv
            rw [List.map_cons, allO_cons, num_back (by have := hv v List.mem_cons_self; omega), Option.bind_some, ih fun z hz => hv z (List.mem_cons_of_mem _ hz)]
            rfl
        exact this r r2
      match r, hne, hall, r2 with
      | v :: r, _, hall, r2 =>
        have hv := r2 v List.mem_cons_self
        show (if nameS (numT v) = true then headB (f ++ [(w, n, done)]) (numT v) (r.map numT) else (allO numV ((v :: r).map numT)).bind (addR (f ++ [(w, n, done)]))) = _
        rw [if_neg (fun z => by
          have := name_let z
          rw [num_let (num_back (by omega : 0 ≤ v ∧ v < 10)) (num_asc (by omega))] at this
          cases this), hall]
        show addR (f ++ [(w, n, done)]) (v :: r) = _
        rw [addR_snoc]
    show (stepB nameS (f ++ [(w, n, done)]) (rowTx r)).bind (foldB nameS (rs.map rowTx)) = _
    rw [st]
    show foldB nameS (rs.map rowTx) (f ++ [(w, n, done ++ [r])]) = _
    rw [rows_fold hk rs (done ++ [r]) fun z hz => h z (List.mem_cons_of_mem _ hz), List.append_assoc]
    rfl
theorem book_fold : ∀ (tb : List Bt) (f : List Tb3), (∀ x ∈ tb, x.w ∈ pqrs ∧ (1 ≤ x.n ∧ x.n ≤ 3) ∧ ∀ r ∈ x.rows, r.length = x.n ∧ ∀ v ∈ r, 0 ≤ v ∧ v < 3) → foldB nameS (lnsT tb) f = some (f ++ tb.map b3)
  | [], f, _ => by
    rw [List.map_nil, List.append_nil]
    rfl
  | x :: tb, f, h => by
    obtain ⟨h1, h2, h3⟩ := h x List.mem_cons_self
    have e : lnsT (x :: tb) = headTx x :: (x.rows.map rowTx ++ lnsT tb) := by
      unfold lnsT
      rw [List.flatMap_cons, List.cons_append]
    have st : stepB nameS f (headTx x) = some (f ++ [(x.w, (x.n : Int), [])]) := by
      unfold stepB
      rw [(head_clean h1 h2).2.1]
      show (if nameS x.w = true then (numV (numT x.n)).map (fun n => f ++ [(x.w, n, [])]) else _) = _
      rw [if_pos (w_one h1).2.2.2, num_back (v := x.n) (by omega)]
      rfl
    rw [e]
    show (stepB nameS f (headTx x)).bind (foldB nameS (x.rows.map rowTx ++ lnsT tb)) = _
    rw [st, Option.bind_some, fold_app, rows_fold (k := x.n) h2.1 x.rows [] h3, Option.bind_some, book_fold tb _ fun y hy => h y (List.mem_cons_of_mem _ hy), List.nil_append, List.append_assoc]
    rfl
theorem DBook.told (h : DBook tb) : ToldB (bkT tb) (tb.map b3) := by
  refine ⟨lnsT tb, h.split, ?_, ?_⟩
  · rw [book_fold tb [] fun x hx => ⟨h.w x hx, h.n x hx, h.row x hx⟩]
    rfl
  · unfold bookK
    rw [Bool.and_eq_true]
    constructor
    · rw [List.all_map, List.all_eq_true]
      intro x hx
      have hn := h.n x hx
      show (Nv.nameB (.str x.w) && ((decide (1 ≤ (x.n : Int)) && decide ((x.n : Int) ≤ 5)) && ((x.rows.map rowD).all (Bk.rowB x.n) && Bk.upB ltR ((x.rows.map rowD).map Bk.intsD)))) = true
      have e1 : Nv.nameB (.str x.w) = true := (w_one (h.w x hx)).2.2.2
      have e2 : (x.rows.map rowD).all (Bk.rowB x.n) = true := by
        rw [List.all_map, List.all_eq_true]
        intro r hr
        obtain ⟨r1, r2⟩ := h.row x hx r hr
        show (decide (((r.map D.int).length : Int) = x.n) && (r.map D.int).all Nv.valB) = true
        rw [List.length_map, r1, decide_eq_true rfl, Bool.true_and, List.all_map, List.all_eq_true]
        intro v hv
        have := r2 v hv
        show (decide (-9999 ≤ v) && decide (v ≤ 9999)) = true
        rw [decide_eq_true (by omega), decide_eq_true (by omega)]
        rfl
      have ei : (x.rows.map rowD).map Bk.intsD = x.rows := by
        rw [List.map_map]
        conv => rhs; rw [← List.map_id x.rows]
        refine List.map_congr_left fun r _ => ?_
        show (intsOf (r.map D.int)).getD [] = r
        rw [intsOf_map]
        rfl
      rw [e1, e2, ei, up_of (h.rup x hx), decide_eq_true (by omega), decide_eq_true (by omega)]
      rfl
    · rw [List.map_map]
      exact up_of h.up
end
def FRowT : List D → Store → R D := runT 2 (sRet (mTm joiD (mC (.str " ")) (mLc (mIter (mVar 0)) [1] (tgN 1) mYes (mCall strSD (mCons (mVar 1) mNil)))))
def blB : SM := (sSet 1 (mBin addD (mBin addD (mVar 1) (mLst (mCons (mJs [(mFmt (mVar 2)), (mC (.str " ")), (mFmt (mVar 3))]) mNil))) (mLc (mIter (mVar 4)) [5] (tgN 5) mYes (mApp 1 FRowT (mCons (mVar 5) mNil)))))
def FBkL : List D → Store → R D := runT 6 (sSeq (sSet 1 (mLst mNil)) (sSeq (sFor (mIter (mVar 0)) (tgT 3 (tgsCons (tgN 2) (tgsCons (tgN 3) (tgsCons (tgN 4) tgsNil)))) blB) (sRet (mVar 1))))
def FJoined : List D → Store → R D := runT 2 (sRet (mTm joiD (mC (.str "")) (mLc (mIter (mVar 0)) [1] (tgN 1) mYes (mBin addD (mVar 1) (mC (.str "\n"))))))
def FBkT : List D → Store → R D := runT 1 (sRet (mApp 1 FJoined (mCons (mApp 1 FBkL (mCons (mVar 0) mNil)) mNil)))
section
variable {S : Store} {tb : List Bt}
theorem rowE_ok {rv : Dv.Env} {i j : Nat} {r : List Int} (hi : rv[i]? = some (some (rowD r))) (hj : j < rv.length) (h : ∀ v ∈ r, 0 ≤ v ∧ v < 3) (hl : r.length ≤ 100) : mTm joiD (mC (.str " ")) (mLc (mIter (mVar i)) [j] (tgN j) mYes (mCall strSD (mCons (mVar j) mNil))) rv S = .ok (.str (rowTx r)) S := by
  have hw : (wipeE rv [j]).length = rv.length := by
    show (rv.set j none).length = _
    exact List.length_set
  have lc := lc_all (S := S) (gm := tgN j) (te := mCall strSD (mCons (mVar j) mNil)) (r0 := wipeE rv [j]) D.int (fun v => D.str (numT v)) r fun v hv => ⟨(wipeE rv [j]).set j (some (.int v)), rfl, call_of (cons_of (var_of (by rw [List.getElem?_set_self (by rw [hw]; exact hj)])) rfl) (show Trm1 (.int v) from .inr ⟨v, rfl, by have := h v hv; omega, by have := h v hv; omega⟩).txt⟩
  have e1 : mLc (mIter (mVar i)) [j] (tgN j) mYes (mCall strSD (mCons (mVar j) mNil)) rv S = .ok (.lst ((r.map numT).map D.str)) S := by
    rw [List.map_map]
    exact lc_of (iter_of (var_of hi) rfl) lc
  refine tm_of rfl e1 (join_bl2 ?_)
  have s := sum_bound (m := 1) (ws := r.map numT) fun w hw => by
    obtain ⟨v, hv, rfl⟩ := List.mem_map.mp hw
    exact Nat.le_of_eq (num_one (by have := h v hv; omega)).1
  rw [List.length_map] at s ⊢
  omega
theorem rowt_ok {r : List Int} (h : ∀ v ∈ r, 0 ≤ v ∧ v < 3) (hl : r.length ≤ 100) : FRowT [rowD r] S = .ok (.str (rowTx r)) S := fn_ret rfl ⟨[some (rowD r), none], ret_of (rowE_ok (rv := [some (rowD r), none]) (i := 0) (j := 1) rfl (by simp) h hl)⟩
theorem blB_ok {x : Bt} {ls : List Str} (hw : x.w ∈ pqrs) (hn : 1 ≤ x.n ∧ x.n ≤ 3) (hr : ∀ r ∈ x.rows, r.length = x.n ∧ ∀ v ∈ r, 0 ≤ v ∧ v < 3) (hl : x.rows.length ≤ 1000) (hls : ls.length ≤ 10000) (y0 y5 : Option D) : blB [y0, some (.lst (ls.map D.str)), some (.str x.w), some (.int x.n), some (.tup (x.rows.map rowD)), y5] S = .ok .next [y0, some (.lst ((ls ++ headTx x :: x.rows.map rowTx).map D.str)), some (.str x.w), some (.int x.n), some (.tup (x.rows.map rowD)), y5] S := by
  have tw : Trm1 (.str x.w) := .inl ⟨_, rfl, by have := (w_one hw).1; omega⟩
  have tn : Trm1 (.int x.n) := .inr ⟨_, rfl, by omega, by omega⟩
  have e1 := fmt_ok (S := S) (r := [y0, some (.lst (ls.map D.str)), some (.str x.w), some (.int x.n), some (.tup (x.rows.map rowD)), y5]) (i := 2) rfl tw
  have e2 := fmt_ok (S := S) (r := [y0, some (.lst (ls.map D.str)), some (.str x.w), some (.int x.n), some (.tup (x.rows.map rowD)), y5]) (i := 3) rfl tn
  have lw := (w_one hw).1
  have ln := (num_one (v := x.n) (by omega)).1
  have l0 : Str.empty.length = 0 := rfl
  have l1 : (" " : Str).length = 1 := rfl
  have ej : mJs [(mFmt (mVar 2)), (mC (.str " ")), (mFmt (mVar 3))] [y0, some (.lst (ls.map D.str)), some (.str x.w), some (.int x.n), some (.tup (x.rows.map rowD)), y5] S = .ok (.str (headTx x)) S := by
    rw [mJs_ap, jsL_cons, e1, rb_ok]
    show (if (Str.empty ++ x.w).length ≤ 100000 then _ else R.bad) = _
    rw [if_pos (by rw [len_app, l0]; omega), jsL_cons, mC_ap, rb_ok]
    show (if ((Str.empty ++ x.w) ++ " ").length ≤ 100000 then _ else R.bad) = _
    rw [if_pos (by rw [len_app, len_app, l0, l1]; omega), jsL_cons, e2, rb_ok]
    show (if (((Str.empty ++ x.w) ++ " ") ++ numT x.n).length ≤ 100000 then _ else R.bad) = _
    rw [if_pos (by rw [len_app, len_app, len_app, l0, l1]; omega), jsL_nil]
    have : ((Str.empty ++ x.w) ++ " ") ++ numT x.n = headTx x := ext_tl (by
      unfold headTx
      rw [tl_append, tl_append, tl_append, tl_append, tl_append]
      rfl)
    show R.ok (D.str (((Str.empty ++ x.w) ++ " ") ++ numT x.n)) S = _
    rw [this]
  have lc := lc_all (S := S) (gm := tgN 5) (te := mApp 1 FRowT (mCons (mVar 5) mNil)) (r0 := [y0, some (.lst (ls.map D.str)), some (.str x.w), some (.int x.n), some (.tup (x.rows.map rowD)), none]) rowD (fun r => D.str (rowTx r)) x.rows fun r hr' => ⟨[y0, some (.lst (ls.map D.str)), some (.str x.w), some (.int x.n), some (.tup (x.rows.map rowD)), some (rowD r)], rfl, run_app (cons_of (var_of rfl) rfl) rfl (rowt_ok (hr r hr').2 (by rw [(hr r hr').1]; omega))⟩
  have e3 : mBin addD (mVar 1) (mLst (mCons (mJs [(mFmt (mVar 2)), (mC (.str " ")), (mFmt (mVar 3))]) mNil)) [y0, some (.lst (ls.map D.str)), some (.str x.w), some (.int x.n), some (.tup (x.rows.map rowD)), y5] S = .ok (.lst ((ls ++ [headTx x]).map D.str)) S := by
    refine bin_of (var_of rfl) (lst_of (cons_of ej rfl) (by simp)) ((if_pos (by rw [List.length_map]; simp; omega)).trans ?_)
    rw [List.map_append]
    rfl
  refine (set_of (bin_of (z := .lst ((ls ++ headTx x :: x.rows.map rowTx).map D.str)) e3 (lc_of (vs := [5]) (iter_of (var_of rfl) rfl) lc) ?_)).trans rfl
  refine (if_pos (by rw [List.length_map, List.length_map, List.length_append]; simp; omega)).trans ?_
  show some (D.lst (List.map D.str (ls ++ [headTx x]) ++ List.map (fun r => D.str (rowTx r)) x.rows)) = _
  rw [List.map_append, List.map_append, List.map_cons, List.map_cons, List.map_map, List.append_assoc]
  rfl
theorem bl_loop {y0 y5 : Option D} : ∀ (tb : List Bt) (ls : List Str) (y2 y3 y4 : Option D), (∀ x ∈ tb, x.w ∈ pqrs ∧ (1 ≤ x.n ∧ x.n ≤ 3) ∧ (∀ r ∈ x.rows, r.length = x.n ∧ ∀ v ∈ r, 0 ≤ v ∧ v < 3) ∧ x.rows.length ≤ 4) → ls.length + 5 * tb.length ≤ 9000 →
    ∃ z2 z3 z4, sLoop (tgT 3 (tgsCons (tgN 2) (tgsCons (tgN 3) (tgsCons (tgN 4) tgsNil)))) blB (tb.map tabD) [y0, some (.lst (ls.map D.str)), y2, y3, y4, y5] S = .ok .next [y0, some (.lst ((ls ++ lnsT tb).map D.str)), z2, z3, z4, y5] S
  | [], ls, y2, y3, y4, _, _ => ⟨y2, y3, y4, by
    have : lnsT [] = [] := rfl
    rw [this, List.append_nil]
    rfl⟩
  | x :: tb, ls, y2, y3, y4, h, hl => by
    obtain ⟨h1, h2, h3, h4⟩ := h x List.mem_cons_self
    rw [List.length_cons] at hl
    have e := blB_ok (S := S) (ls := ls) h1 h2 h3 (by omega) (by omega) y0 y5
    obtain ⟨z2, z3, z4, e2⟩ := bl_loop (y0 := y0) (y5 := y5) tb (ls ++ headTx x :: x.rows.map rowTx) (some (.str x.w)) (some (.int x.n)) (some (.tup (x.rows.map rowD))) (fun y hy => h y (List.mem_cons_of_mem _ hy)) (by rw [List.length_append, List.length_cons, List.length_map]; omega)
    refine ⟨z2, z3, z4, ?_⟩
    have el : lnsT (x :: tb) = (headTx x :: x.rows.map rowTx) ++ lnsT tb := by
      unfold lnsT
      rw [List.flatMap_cons]
    rw [List.map_cons, loop_step (r1 := [y0, some (.lst (ls.map D.str)), some (.str x.w), some (.int x.n), some (.tup (x.rows.map rowD)), y5]) rfl e, e2, el, List.append_assoc]
theorem bkt_ok (h : DBook tb) : FBkT [.tup (tb.map tabD)] S = .ok (.str (bkT tb)) S := by
  have hn := h.lines
  obtain ⟨z2, z3, z4, e⟩ := bl_loop (S := S) (y0 := some (.tup (tb.map tabD))) (y5 := none) tb [] none none none (fun x hx => ⟨h.w x hx, h.n x hx, h.row x hx, h.len x hx⟩) (by have := h.cnt; simp; omega)
  have e1 : FBkL [.tup (tb.map tabD)] S = .ok (.lst ((lnsT tb).map D.str)) S := by
    refine fn_ret (show clo _ (.lst _) = true from cloL_strs _ _) ⟨[some (.tup (tb.map tabD)), some (.lst ((lnsT tb).map D.str)), z2, z3, z4, none], ?_⟩
    show (sSeq (sSet 1 (mLst mNil)) _) [some (.tup (tb.map tabD)), none, none, none, none, none] S = _
    have s1 : (sSet 1 (mLst mNil)) [some (.tup (tb.map tabD)), none, none, none, none, none] S = .ok .next [some (.tup (tb.map tabD)), some (.lst ([].map D.str)), none, none, none, none] S := (set_of (lst_of nil_of (by simp))).trans rfl
    have s2 : (sFor (mIter (mVar 0)) (tgT 3 (tgsCons (tgN 2) (tgsCons (tgN 3) (tgsCons (tgN 4) tgsNil)))) blB) [some (.tup (tb.map tabD)), some (.lst ([].map D.str)), none, none, none, none] S = .ok .next [some (.tup (tb.map tabD)), some (.lst ((lnsT tb).map D.str)), z2, z3, z4, none] S := (for_of (iter_of (var_of rfl) rfl)).trans e
    rw [seq_ok s1, seq_ok s2]
    exact ret_of (var_of rfl)
  have lc := lc_all (S := S) (gm := tgN 1) (te := mBin addD (mVar 1) (mC (.str "\n"))) (r0 := [some (.lst ((lnsT tb).map D.str)), none]) D.str (fun l => D.str (nlT l)) (lnsT tb) fun l hl => ⟨[some (.lst ((lnsT tb).map D.str)), some (.str l)], rfl, bin_of (var_of rfl) rfl (if_pos (by
    have := (h.line l hl).2.1
    have l1 : ("\n" : Str).length = 1 := rfl
    rw [l1]
    omega))⟩
  have e2 : FJoined [.lst ((lnsT tb).map D.str)] S = .ok (.str (bkT tb)) S := by
    refine fn_ret rfl ⟨[some (.lst ((lnsT tb).map D.str)), none], ret_of (tm_of (d := .lst (((lnsT tb).map nlT).map D.str)) rfl ?_ ?_)⟩
    · rw [List.map_map]
      exact lc_of (vs := [1]) (iter_of (var_of rfl) rfl) lc
    · show (match strsOf (((lnsT tb).map nlT).map D.str) with
        | some ys => if (ys.map Str.length).sum + ys.length * ("" : Str).length ≤ 100000 then some (D.str (Txt.join "" ys)) else none
        | none => none) = _
      rw [strsOf_map]
      refine if_pos ?_
      have l0 : ("" : Str).length = 0 := rfl
      have s := sum_bound (m := 7) (ws := (lnsT tb).map nlT) fun w hw => by
        obtain ⟨l, hl, rfl⟩ := List.mem_map.mp hw
        have := (h.line l hl).2.1
        have e : (nlT l).length = l.length + 1 := len_app _ _
        omega
      have s : (((lnsT tb).map nlT).map Str.length).sum ≤ 7 * ((lnsT tb).map nlT).length := s
      rw [l0, Nat.mul_zero]
      rw [List.length_map] at s
      omega
  exact fn_ret rfl ⟨[some (.tup (tb.map tabD))], ret_of (run_app (cons_of (run_app (cons_of (var_of rfl) rfl) rfl e1) rfl) rfl e2)⟩
end
end Tq
namespace Tq
open PySem L2 Dv Sx TL
def z1 : SM := (sSet 4 (mTmN splN (mVar 2) (mC (.str "\n"))))
def z2 : SM := (sPar 5 6 (mCons (mApp 3 FDraw (mCons (mVar 0) (mCons (mVar 1) (mCons (mCall lenD (mCons (mVar 4) mNil)) mNil)))) (mCons (mApp 3 FDraw (mCons (mVar 0) (mCons (mVar 1) (mCons (mC (.int 6)) mNil)))) mNil)))
def z30 : SM := (sSetSlz (mVar 4) (mP (mVar 5)) (mP (mBin addD (mVar 5) (mC (.int 1)))) (mLst mNil))
def z31 : SM := (sDrop (mInsert (mVar 4) (mVar 5) (mBin ixD (mVar 4) (mVar 5))))
def z32 : SM := (sSetSlz (mVar 4) (mP (mVar 5)) (mP (mBin addD (mVar 5) (mC (.int 2)))) (mUn revLD (mSlW (mVar 4) (mP (mVar 5)) (mP (mBin addD (mVar 5) (mC (.int 2)))))))
def z33 : SM := (sSetIx (mVar 4) (mVar 5) (mApp 4 FSp (mCons (mVar 0) (mCons (mVar 1) (mCons (mBin ixD (mVar 4) (mVar 5)) (mCons (mVar 3) mNil))))))
def z3 : SM := (sIf (mT (mBin eqD (mVar 6) (mC (.int 0)))) z30 (sIf (mT (mBin eqD (mVar 6) (mC (.int 1)))) z31 (sIf (mT (mBin eqD (mVar 6) (mC (.int 2)))) z32 z33)))
def FRs : List D → Store → R D := runT 7 (sSeq z1 (sSeq z2 (sSeq z3 (sRet (mTm joiD (mC (.str "\n")) (mVar 4))))))
theorem cut_two {α : Type} {l : List α} {k : Nat} (h : k < l.length) : cutL l (some (k : Int)) (some ((k : Int) + 2)) = (l.drop k).take 2 := by
  unfold cutL
  rw [show ((k : Int) + 2) = ((k + 2 : Nat) : Int) from rfl, HT.sIx_nat, HT.sIx_nat, Nat.min_eq_left (Nat.le_of_lt h)]
  by_cases c : k + 2 ≤ l.length
  · rw [Nat.min_eq_left c, Nat.add_sub_cancel_left]
  · rw [Nat.min_eq_right (by omega), List.take_of_length_le (by rw [List.length_drop]; exact Nat.le_refl _), List.take_of_length_le (by rw [List.length_drop]; omega)]
section
variable {S : Store} {ns : List Int} {t n : Nat} {x : Str} {sg : List Str}
abbrev PE7 (ns : List Int) (t : Nat) (x : Str) (sg : List Str) (y4 y5 y6 : Option D) : Dv.Env := [some (.scr ns), some (.loc t), some (.str x), some (.lst (sg.map D.str)), y4, y5, y6]
theorem join_nl {T : Store} {L : Nat} {ws : List Str} (hT : T[L]? = some (.lst (ws.map D.str))) (h : sumS ws + ws.length ≤ 100000) : joiD (.str "\n") (.loc L) T = some (.str (Txt.join "\n" ws)) := by
  show (match T[L]? with
    | some (.lst ds) => match strsOf ds with
      | some ys => if (ys.map Str.length).sum + ys.length * ("\n" : Str).length ≤ 100000 then some (D.str (Txt.join "\n" ys)) else none
      | none => none
    | _ => none) = _
  rw [hT]
  show (match strsOf (ws.map D.str) with
    | some ys => if (ys.map Str.length).sum + ys.length * ("\n" : Str).length ≤ 100000 then some (D.str (Txt.join "\n" ys)) else none
    | none => none) = _
  rw [strsOf_map]
  refine if_pos ?_
  have l1 : ("\n" : Str).length = 1 := rfl
  rw [l1, Nat.mul_one]
  exact h
theorem joinnl_le (ws : List Str) : (Txt.join "\n" ws).length ≤ sumS ws + ws.length := by
  have := join_len "\n" ws
  have l1 : ("\n" : Str).length = 1 := rfl
  rw [l1, Nat.mul_one] at this
  exact this
theorem asc_nl : Asc "\n" := asc_c _
theorem slz_of {i L : Nat} {xs ys : List D} {ml mh : OM} {m : EM} {r : Dv.Env} {a c : Nat} (hi : r[i]? = some (some (.loc L))) (e : m r S = .ok (.lst ys) S) (e1 : ml r S = .ok (some (a : Int)) S) (e2 : mh r S = .ok (some (c : Int)) S) (hS : S[L]? = some (.lst xs)) (h1 : a ≤ c) (h2 : a ≤ xs.length) (h3 : xs.length + ys.length ≤ 100000) : sSetSlz (mVar i) ml mh m r S = .ok .next r (S.set L (.lst (xs.take a ++ ys ++ xs.drop c))) := by
  unfold sSetSlz
  rw [e, bs_ok, var_of hi, bs_ok, e1, bs_ok, e2, bs_ok]
  simp only [hS]
  rw [if_pos ⟨by omega, by omega, by omega, h3⟩, Int.toNat_natCast, Int.toNat_natCast]
theorem ix_loc {i j L k : Nat} {ws : List Str} {r : Dv.Env} (hi : r[i]? = some (some (.loc L))) (hj : r[j]? = some (some (.int (k : Nat)))) (hS : S[L]? = some (.lst (ws.map D.str))) (hk : k < ws.length) : mBin ixD (mVar i) (mVar j) r S = .ok (.str ws[k]) S := by
  refine bin_of (var_of hi) (var_of hj) ?_
  show (match S[L]? with
    | some (.lst xs) => atI xs (k : Int)
    | _ => none) = _
  rw [hS]
  show atI (ws.map D.str) (k : Int) = _
  exact atI_nat (by rw [List.getElem?_map, List.getElem?_eq_getElem hk]; rfl)
theorem z3_ok (h63 : ns.length ≤ 63) {ws : List Str} {L k tn : Nat} (hk : k < ws.length) (hL : S[L]? = some (.lst (ws.map D.str))) (hLt : L ≠ t) (tw : Twn t n S) (hn : n ≤ 90000) (hws : ∀ w ∈ ws, Asc w ∧ w.length ≤ 140) (hlen : ws.length ≤ 1000) (hs : ∀ s ∈ sg, Asc s ∧ s.length ≤ 6) (hne : sg ≠ []) :
    ∃ (vs : List Str) (S1 : Store), (∀ v ∈ vs, Asc v) ∧ sumS vs + vs.length ≤ 2 * (sumS ws + ws.length) + 20 ∧ Twn t (n + 10) S1 ∧ S1.length = S.length ∧ (∀ i, i ≠ t → i ≠ L → S1[i]? = S[i]?) ∧ S1[L]? = some (.lst (vs.map D.str)) ∧ z3 (PE7 ns t x sg (some (.loc L)) (some (.int (k : Nat))) (some (.int (tn : Nat)))) S = .ok .next (PE7 ns t x sg (some (.loc L)) (some (.int (k : Nat))) (some (.int (tn : Nat)))) S1 := by
  have lt : L < S.length := (List.getElem?_eq_some_iff.mp hL).1
  have q0 := eqI (S := S) (r := PE7 ns t x sg (some (.loc L)) (some (.int (k : Nat))) (some (.int (tn : Nat)))) (i := 6) (k := tn) (m := 0) rfl
  have q1 := eqI (S := S) (r := PE7 ns t x sg (some (.loc L)) (some (.int (k : Nat))) (some (.int (tn : Nat)))) (i := 6) (k := tn) (m := 1) rfl
  have q2 := eqI (S := S) (r := PE7 ns t x sg (some (.loc L)) (some (.int (k : Nat))) (some (.int (tn : Nat)))) (i := 6) (k := tn) (m := 2) rfl
  have a1 := sumS_cut ws k
  rw [List.drop_eq_getElem_cons hk, sumS_cons] at a1
  have hwk : ws[k] ∈ ws := List.getElem_mem hk
  have m5 : mP (mVar 5) (PE7 ns t x sg (some (.loc L)) (some (.int (k : Nat))) (some (.int (tn : Nat)))) S = .ok (some ((k : Nat) : Int)) S := mp_of rfl
  have m51 : mP (mBin addD (mVar 5) (mC (.int 1))) (PE7 ns t x sg (some (.loc L)) (some (.int (k : Nat))) (some (.int (tn : Nat)))) S = .ok (some ((k + 1 : Nat) : Int)) S := mp_of rfl
  have m52 : mP (mBin addD (mVar 5) (mC (.int 2))) (PE7 ns t x sg (some (.loc L)) (some (.int (k : Nat))) (some (.int (tn : Nat)))) S = .ok (some ((k + 2 : Nat) : Int)) S := mp_of rfl
  have same : ∀ (vs : List Str), ∃ S1 : Store, S1 = S.set L (.lst (vs.map D.str)) ∧ Twn t (n + 10) S1 ∧ S1.length = S.length ∧ (∀ i, i ≠ t → i ≠ L → S1[i]? = S[i]?) ∧ S1[L]? = some (.lst (vs.map D.str)) := fun vs => ⟨_, rfl, twn_set hLt (tw.mono (by omega)), List.length_set, fun i _ h2 => List.getElem?_set_ne fun z => h2 z.symm, List.getElem?_set_self lt⟩
  unfold z3
  by_cases t0 : tn = 0
  · rw [decide_eq_true (by omega)] at q0
    obtain ⟨S1, e, b1, b2, b3, b4⟩ := same (ws.take k ++ [] ++ ws.drop (k + 1))
    refine ⟨ws.take k ++ [] ++ ws.drop (k + 1), S1, fun v hv => ?_, ?_, b1, b2, b3, b4, ?_⟩
    · rcases List.mem_append.mp hv with hv | hv
      · rw [List.append_nil] at hv
        exact (hws v (List.mem_of_mem_take hv)).1
      · exact (hws v (List.mem_of_mem_drop hv)).1
    · rw [List.append_nil, sumS_app, List.length_append, List.length_take, List.length_drop]
      omega
    · rw [if_yes q0, e]
      refine (slz_of (i := 4) rfl (lst_of nil_of (by simp)) m5 m51 hL (by omega) (by rw [List.length_map]; omega) (by rw [List.length_map]; simp; omega)).trans ?_
      rw [List.append_nil, List.append_nil, List.map_append, List.map_take, List.map_drop]
  rw [decide_eq_false (by omega)] at q0
  rw [if_no q0]
  by_cases t1 : tn = 1
  · rw [decide_eq_true (by omega)] at q1
    obtain ⟨S1, e, b1, b2, b3, b4⟩ := same (ws.take k ++ [ws[k]] ++ ws.drop k)
    refine ⟨ws.take k ++ [ws[k]] ++ ws.drop k, S1, fun v hv => ?_, ?_, b1, b2, b3, b4, ?_⟩
    · rcases List.mem_append.mp hv with hv | hv
      · rcases List.mem_append.mp hv with hv | hv
        · exact (hws v (List.mem_of_mem_take hv)).1
        · rw [List.mem_singleton.mp hv]
          exact (hws _ hwk).1
      · exact (hws v (List.mem_of_mem_drop hv)).1
    · have a2 := sumS_cut ws k
      have e1 : sumS [ws[k]] = ws[k].length := by simp [sumS]
      rw [sumS_app, sumS_app, List.length_append, List.length_append, List.length_take, List.length_drop, List.length_singleton, e1]
      omega
    · rw [if_yes q1, e]
      unfold z31
      have ei := ix_loc (S := S) (i := 4) (j := 5) (r := PE7 ns t x sg (some (.loc L)) (some (.int (k : Nat))) (some (.int (tn : Nat)))) rfl rfl hL hk
      have il : isLoc (.loc L) S = true := by rw [isLoc_ap, hL]
      refine (drop_of (v := .non) (S' := S.set L (.lst ((ws.take k ++ [ws[k]] ++ ws.drop k).map D.str))) ?_)
      rw [mInsert_ap, var_of (v := .loc L) rfl, rb_ok, if_pos il, var_of (v := .int (k : Nat)) rfl, rb_ok, ei, rb_ok]
      unfold insD
      simp only [hL]
      rw [if_pos ⟨by omega, by omega, by rw [List.length_map]; omega⟩, Int.toNat_natCast, List.map_append, List.map_append, List.map_take, List.map_drop]
      rfl
  rw [decide_eq_false (by omega)] at q1
  rw [if_no q1]
  by_cases t2 : tn = 2
  · rw [decide_eq_true (by omega)] at q2
    obtain ⟨S1, e, b1, b2, b3, b4⟩ := same (ws.take k ++ ((ws.drop k).take 2).reverse ++ ws.drop (k + 2))
    refine ⟨ws.take k ++ ((ws.drop k).take 2).reverse ++ ws.drop (k + 2), S1, fun v hv => ?_, ?_, b1, b2, b3, b4, ?_⟩
    · rcases List.mem_append.mp hv with hv | hv
      · rcases List.mem_append.mp hv with hv | hv
        · exact (hws v (List.mem_of_mem_take hv)).1
        · exact (hws v (List.mem_of_mem_drop (List.mem_of_mem_take (List.mem_reverse.mp hv)))).1
      · exact (hws v (List.mem_of_mem_drop hv)).1
    · have a2 := sumS_cut ws k
      have a3 := sumS_cut (ws.drop k) 2
      rw [List.drop_drop] at a3
      rw [sumS_app, sumS_app, sumS_rev, List.length_append, List.length_append, List.length_reverse, List.length_take, List.length_take, List.length_drop, List.length_drop]
      omega
    · rw [if_yes q2, e]
      have er : mUn revLD (mSlW (mVar 4) (mP (mVar 5)) (mP (mBin addD (mVar 5) (mC (.int 2))))) (PE7 ns t x sg (some (.loc L)) (some (.int (k : Nat))) (some (.int (tn : Nat)))) S = .ok (.lst ((((ws.drop k).take 2).reverse).map D.str)) S := by
        have e0 := sl_loc (S := S) (i := 4) (r := PE7 ns t x sg (some (.loc L)) (some (.int (k : Nat))) (some (.int (tn : Nat)))) rfl hL m5 m52
        have c := cut_two (l := ws.map D.str) (k := k) (by rw [List.length_map]; exact hk)
        have c : cutL (ws.map D.str) (some (k : Int)) (some ((k + 2 : Nat) : Int)) = _ := c
        rw [c] at e0
        rw [List.map_reverse, List.map_take, List.map_drop]
        exact rev_loc e0
      refine (slz_of (i := 4) rfl er m5 m52 hL (by omega) (by rw [List.length_map]; omega) (by rw [List.length_map, List.length_map, List.length_reverse, List.length_take, List.length_drop]; omega)).trans ?_
      rw [List.map_append, List.map_append, List.map_take, List.map_drop]
  rw [decide_eq_false (by omega)] at q2
  rw [if_no q2]
  obtain ⟨y, S2, e, ya, yl, tw2, d2⟩ := spoilt_ok (x := ws[k]) h63 (hws _ hwk).1 (hws _ hwk).2 hs hne tw hn
  have hL2 : S2[L]? = some (.lst (ws.map D.str)) := by rw [d2.other hLt]; exact hL
  have es : sumS (ws.set k y) + ws[k].length = sumS ws + y.length := by
    have e1 : ws.set k y = ws.take k ++ y :: ws.drop (k + 1) := List.set_eq_take_append_cons_drop.trans (if_pos hk)
    rw [e1, sumS_app, sumS_cons]
    omega
  refine ⟨ws.set k y, S2.set L (.lst ((ws.set k y).map D.str)), fun v hv => ?_, ?_, twn_set hLt tw2, by rw [List.length_set, d2.len], fun i h1 h2 => by rw [List.getElem?_set_ne fun z => h2 z.symm, d2.other h1], List.getElem?_set_self (by rw [d2.len]; exact lt), ?_⟩
  · rcases List.mem_or_eq_of_mem_set hv with hv | hv
    · exact (hws v hv).1
    · rw [hv]
      exact ya
  · rw [List.length_set]
    omega
  · have ei := ix_loc (S := S) (i := 4) (j := 5) (r := PE7 ns t x sg (some (.loc L)) (some (.int (k : Nat))) (some (.int (tn : Nat)))) rfl rfl hL hk
    have ev : mApp 4 FSp (mCons (mVar 0) (mCons (mVar 1) (mCons (mBin ixD (mVar 4) (mVar 5)) (mCons (mVar 3) mNil)))) (PE7 ns t x sg (some (.loc L)) (some (.int (k : Nat))) (some (.int (tn : Nat)))) S = .ok (.str y) S2 := run_app (cons_of (var_of rfl) (cons_of (var_of rfl) (cons_of ei (cons_of (var_of rfl) rfl)))) rfl e
    have ix : ixN (ws.map D.str).length (k : Int) = some k := by
      rw [List.length_map]
      unfold ixN
      simp
      omega
    unfold z33
    rw [sSetIx_ap, ev, bs_ok, var_of (v := .loc L) rfl, bs_ok, var_of (v := .int (k : Nat)) rfl, bs_ok, putD_ap, hL2]
    simp only [ix]
    rw [List.map_set]
theorem rs_ok (h63 : ns.length ≤ 63) (hx : Asc x) (hl : x.length ≤ 140) (hs : ∀ s ∈ sg, Asc s ∧ s.length ≤ 6) (hne : sg ≠ []) (tw : Twn t n S) (hn : n ≤ 80000) : ∃ y S', FRs [.scr ns, .loc t, .str x, .lst (sg.map D.str)] S = .ok (.str y) S' ∧ Asc y ∧ y.length ≤ 2 * x.length + 22 ∧ Twn t (n + 20) S' ∧ Dif t S S' := by
  have ht := twn_lt tw
  have l1 : ("\n" : Str).length = 1 := rfl
  have sw := split_sum (x := x) sep_nl
  rw [l1, Nat.mul_one] at sw
  have hp : ∀ p ∈ Txt.split x "\n", Asc p ∧ p.length ≤ 140 := fun p hp => ⟨hx.part sep_nl hp, Nat.le_trans (part_len sep_nl hp) hl⟩
  have ne : 0 < (Txt.split x "\n").length := List.length_pos_iff.mpr (split_ne sep_nl.ne sep_nl.low)
  have e0 : mTmN splN (mVar 2) (mC (.str "\n")) (PE7 ns t x sg none none none) S = .ok (.loc S.length) (S ++ [.lst ((Txt.split x "\n").map D.str)]) := by
    show (mVar 2 (PE7 ns t x sg none none none) S).bind _ = _
    rw [var_of (v := .str x) rfl, rb_ok]
    show newO (splN (.str x) (.str "\n") S) S = _
    have c : splP x "\n" = some (Txt.split x "\n") := by
      unfold splP
      refine if_pos ⟨?_, by have := hx.len; omega⟩
      rfl
    have : splN (.str x) (.str "\n") S = some ((Txt.split x "\n").map D.str) := by
      show (splP x "\n").map (fun ys => ys.map D.str) = _
      rw [c]
      rfl
    rw [this]
    rfl
  have s1 : z1 (PE7 ns t x sg none none none) S = .ok .next (PE7 ns t x sg (some (.loc S.length)) none none) (S ++ [.lst ((Txt.split x "\n").map D.str)]) := (set_of e0).trans rfl
  obtain ⟨k, S1, hk, tw1, d1, e1⟩ := draw_tw (many := ((Txt.split x "\n").length : Int)) h63 (twn_app (E := [.lst ((Txt.split x "\n").map D.str)]) tw) (by omega) (by omega)
  obtain ⟨tn, S2, htn, tw2, d2, e2⟩ := draw_tw (many := 6) h63 tw1 (by omega) (by omega)
  have el : mCall lenD (mCons (mVar 4) mNil) (PE7 ns t x sg (some (.loc S.length)) none none) (S ++ [.lst ((Txt.split x "\n").map D.str)]) = .ok (.int ((Txt.split x "\n").length : Nat)) (S ++ [.lst ((Txt.split x "\n").map D.str)]) := by
    refine call_of (cons_of (var_of rfl) rfl) ?_
    have := Nv.last_at (S := S) (.lst ((Txt.split x "\n").map D.str))
    simp [this]
  have s2 : z2 (PE7 ns t x sg (some (.loc S.length)) none none) (S ++ [.lst ((Txt.split x "\n").map D.str)]) = .ok .next (PE7 ns t x sg (some (.loc S.length)) (some (.int (k : Nat))) (some (.int (tn : Nat)))) S2 := (par_of (cons_of (run_app (cons_of (var_of rfl) (cons_of (var_of rfl) (cons_of el rfl))) rfl e1) (cons_of (run_app (cons_of (var_of rfl) (cons_of (var_of rfl) (cons_of rfl rfl))) rfl e2) rfl))).trans rfl
  have d12 := d1.trans d2
  have hL : S2[S.length]? = some (.lst ((Txt.split x "\n").map D.str)) := by rw [d12.other (by omega)]; exact Nv.last_at _
  obtain ⟨vs, S3, va, vl, tw3, len3, ot3, hL3, e3⟩ := z3_ok (x := x) (sg := sg) (k := k) (tn := tn) h63 (by omega) hL (by omega) tw2 (by omega) hp (by omega) hs hne
  have e4 : (sRet (mTm joiD (mC (.str "\n")) (mVar 4))) (PE7 ns t x sg (some (.loc S.length)) (some (.int (k : Nat))) (some (.int (tn : Nat)))) S3 = .ok (.ret (.str (Txt.join "\n" vs))) (PE7 ns t x sg (some (.loc S.length)) (some (.int (k : Nat))) (some (.int (tn : Nat)))) S3 := ret_of (tm_of rfl (var_of rfl) (join_nl hL3 (by omega)))
  have start : FRs [.scr ns, .loc t, .str x, .lst (sg.map D.str)] S = finT S (.ok (.ret (.str (Txt.join "\n" vs))) (PE7 ns t x sg (some (.loc S.length)) (some (.int (k : Nat))) (some (.int (tn : Nat)))) S3) := by
    show finT S (sSeq z1 _ (PE7 ns t x sg none none none) S) = _
    rw [seq_ok s1, seq_ok s2]
    have := (seq_ok (b := sRet (mTm joiD (mC (.str "\n")) (mVar 4))) e3).trans e4
    rw [this]
  rw [start]
  obtain ⟨S', f1, f2, f3⟩ := fin_dif (S := S) (S1 := S3) (t := t) (n := n + 20) (rho := PE7 ns t x sg (some (.loc S.length)) (some (.int (k : Nat))) (some (.int (tn : Nat)))) (d := .str (Txt.join "\n" vs)) ht (by rw [len3, d12.len, List.length_append]; omega) (tw3.mono (by omega)) (fun i hi h1 => by
    rw [ot3 i h1 (by omega), d12.other h1, List.getElem?_append_left hi]) rfl
  exact ⟨_, S', f1, asc_nl.join va (Nat.le_trans (joinnl_le vs) (by omega)), Nat.le_trans (joinnl_le vs) (by omega), f2, f3⟩
end
def FToldB : List D → Store → R D := runT 2 (sSeq (sSet 1 (mC .non)) (sSeq (sTry "NoText" (sSet 1 (mApp 1 FReadB (mCons (mVar 0) mNil))) (sSet 1 (mC (.str "NoText")))) (sRet (mVar 1))))
section
variable {S : Store} {x : Str}
theorem toldB_yes {d : D} (hc : clo S.length d = true) (e : FReadB [.str x] S = .ok d S) : FToldB [.str x] S = .ok d S := by
  refine fn_ret hc ⟨[some (.str x), some d], ?_⟩
  show (sSeq (sSet 1 (mC .non)) (sSeq (sTry "NoText" (sSet 1 (mApp 1 FReadB (mCons (mVar 0) mNil))) (sSet 1 (mC (.str "NoText")))) (sRet (mVar 1)))) [some (.str x), none] S = _
  have s1 : (sSet 1 (mC .non)) [some (.str x), none] S = .ok .next [some (.str x), some .non] S := rfl
  have s2 : (sSet 1 (mApp 1 FReadB (mCons (mVar 0) mNil))) [some (.str x), some .non] S = .ok .next [some (.str x), some d] S := (set_of (run_app (cons_of (var_of rfl) rfl) rfl e)).trans rfl
  have s3 : (sTry "NoText" (sSet 1 (mApp 1 FReadB (mCons (mVar 0) mNil))) (sSet 1 (mC (.str "NoText")))) [some (.str x), some .non] S = .ok .next [some (.str x), some d] S := by
    rw [sTry_ap, s2]
  rw [seq_ok s1, seq_ok s3]
  exact ret_of (var_of rfl)
theorem toldB_no (e : FReadB [.str x] S = .exc "NoText" S) : FToldB [.str x] S = .ok (.str "NoText") S := by
  refine fn_ret rfl ⟨[some (.str x), some (.str "NoText")], ?_⟩
  show (sSeq (sSet 1 (mC .non)) (sSeq (sTry "NoText" (sSet 1 (mApp 1 FReadB (mCons (mVar 0) mNil))) (sSet 1 (mC (.str "NoText")))) (sRet (mVar 1)))) [some (.str x), none] S = _
  have s1 : (sSet 1 (mC .non)) [some (.str x), none] S = .ok .next [some (.str x), some .non] S := rfl
  have s2 : (sSet 1 (mApp 1 FReadB (mCons (mVar 0) mNil))) [some (.str x), some .non] S = .exc "NoText" [some (.str x), some .non] S := by
    have := app_exc (ms := mCons (mVar 0) mNil) (r := [some (.str x), some .non]) (S1 := S) (S2 := S) (n := 1) (cons_of (var_of rfl) rfl) rfl e
    rw [sSet_ap, this]
    rfl
  have s3 : (sTry "NoText" (sSet 1 (mApp 1 FReadB (mCons (mVar 0) mNil))) (sSet 1 (mC (.str "NoText")))) [some (.str x), some .non] S = .ok .next [some (.str x), some (.str "NoText")] S := by
    rw [sTry_ap, s2]
    rfl
  rw [seq_ok s1, seq_ok s3]
  exact ret_of (var_of rfl)
theorem pt_book (g : List Tb3) : pt 4 (.tup (g.map tD3)) = true := by
  refine List.all_eq_true.mpr fun d hd => ?_
  obtain ⟨t, _, rfl⟩ := List.mem_map.mp hd
  have : (t.2.2.map rowD).all (pt 1) = true := List.all_eq_true.mpr fun d hd => by
    obtain ⟨r, _, rfl⟩ := List.mem_map.mp hd
    refine List.all_eq_true.mpr fun z hz => ?_
    obtain ⟨i, _, rfl⟩ := List.mem_map.mp hz
    rfl
  show (true && (true && ((t.2.2.map rowD).all (pt 1) && true))) = true
  rw [this]
  rfl
theorem agreeB (ha : Asc x) (hl : x.length ≤ 800) : ∃ v u, pt 4 v = true ∧ (∀ S, FToldB [.str x] S = .ok v S) ∧ (∀ S, FLReadB [.str x] S = .ok u S) ∧ ∀ S, FOr [u] S = .ok v S := by
  by_cases c : ∃ g, ToldB x g
  · obtain ⟨g, t⟩ := c
    exact ⟨_, _, pt_book g, fun S => toldB_yes (clo_f3 _ g) ((readB_ok ha hl).1 g t), fun S => (lreadB_ok ha hl).1 g t, fun S => or_tup (clo_f3 _ g)⟩
  · exact ⟨.str "NoText", .non, rfl, fun S => toldB_no ((readB_ok ha hl).2 fun g t => c ⟨g, t⟩), fun S => (lreadB_ok ha hl).2 fun g t => c ⟨g, t⟩, fun S => or_non⟩
end
def jn (ls : List Str) : Str := Txt.join "" (ls.map nlT)
theorem tl_jn (L : List Str) : tl (jn L) = L.flatMap fun l => tl l ++ [10] := by
  unfold jn
  rw [join_eq, tl_join]
  have e : tl ("" : Str) = [] := rfl
  rw [e, List.map_map]
  induction L with
  | nil => rfl
  | cons l L ih =>
    rw [List.flatMap_cons, ← ih, List.map_cons]
    have e2 : (tl ∘ nlT) l = tl l ++ [10] := by
      show tl (l ++ "\n") = _
      rw [tl_append]
      rfl
    rw [e2]
    cases L with
    | nil => simp [joinL]
    | cons m L => rfl
theorem jn_len {ls : List Str} (h : ∀ l ∈ ls, l.length ≤ 6) : (jn ls).length ≤ 7 * ls.length := by
  have s := sum_bound (m := 7) (ws := ls.map nlT) fun w hw => by
    obtain ⟨l, hl, rfl⟩ := List.mem_map.mp hw
    have := h l hl
    have e : (nlT l).length = l.length + 1 := len_app _ _
    omega
  have j := join_len "" (ls.map nlT)
  have l0 : ("" : Str).length = 0 := rfl
  rw [l0, Nat.mul_zero, Nat.add_zero] at j
  have j : (jn ls).length ≤ sumS (ls.map nlT) := j
  rw [List.length_map] at s
  omega
theorem jn_head (ls : List Str) (x : Bt) : (((jn ls ++ x.w) ++ " ") ++ numT x.n) ++ "\n" = jn (ls ++ [headTx x]) := ext_tl (by
  have e : tl ("\n" : Str) = [10] := rfl
  rw [tl_jn, List.flatMap_append, ← tl_jn, tl_append, tl_append, tl_append, tl_append, e]
  unfold headTx
  simp [tl_append, List.flatMap_cons])
theorem jn_row (ls : List Str) (r : List Int) : (jn ls ++ rowTx r) ++ "\n" = jn (ls ++ [rowTx r]) := ext_tl (by
  have e : tl ("\n" : Str) = [10] := rfl
  rw [tl_jn, List.flatMap_append, ← tl_jn, tl_append, tl_append, e]
  simp [List.flatMap_cons])
end Tq
namespace Law
open PySem L2 Dv Sx Tq
theorem fbook_eq (fu : Nat) : F__law_drawn_book fu = FBook := rfl
theorem fsame_eq (fu : Nat) : F__law_same fu 5 = FSame 5 := rfl
theorem frs_eq (fu : Nat) : F__law_row_spoilt fu = FRs := rfl
theorem fbkt_eq (fu : Nat) : F_book_text fu = FBkT := rfl
theorem ftold_eq (fu : Nat) : F__law_told fu = FToldB := rfl
theorem for_eq (fu : Nat) : F__law_or_refused fu = FOr := rfl
theorem fread_eq (fu : Nat) : F__law_read fu = FLReadB := rfl
def mStrs : List Str → AM
  | [] => mNil
  | s :: l => mCons (mC (.str s)) (mStrs l)
theorem mStrs_ok {r : Dv.Env} {S : Store} : ∀ l : List Str, mStrs l r S = .ok (l.map D.str) S
  | [] => rfl
  | s :: l => cons_of rfl (mStrs_ok l)
def sg : List Str := ["p", "q", "0", "1", "2", "-1", "01", "9999", "10000", "", " ", "\n", "A", "pp", "5", "6", "-0"]
def o1 : List Str := ["a 1\n", "a 6\n", "a 5\n", "a 1\n1 2\n", "a\n", "1\na 1\n", "a 1\nb 1\n"]
def o2 : List Str := ["b 1\na 1\n", "a 1 \n"]
def o3 : List Str := ["abcdefg 1\n", "a 1\n-9999\n9999\n", "a 1\n1\n1\n"]
def b1 : SM := (sSet 4 (mApp 4 FBook (mCons (mVar 0) (mCons (mVar 1) (mCons (mC (.int 4)) (mCons (mC (.int 3)) mNil))))))
def b2 : SM := (sSet 5 (mC (.str "")))
def b3a : SM := (sSet 5 (mBin addD (mBin addD (mBin addD (mBin addD (mVar 5) (mVar 8)) (mC (.str " "))) (mCall strSD (mCons (mVar 9) mNil))) (mC (.str "\n"))))
def b3b : SM := (sSet 5 (mBin addD (mBin addD (mVar 5) (mTm joiD (mC (.str " ")) (mLc (mIter (mVar 11)) [13] (tgN 13) mYes (mCall strSD (mCons (mVar 13) mNil))))) (mC (.str "\n"))))
def b3T : SM := (sSeq b3a (sFor (mIter (mVar 10)) (tgN 11) b3b))
def b3 : SM := (sFor (mIter (mVar 4)) (tgT 3 (tgsCons (tgN 8) (tgsCons (tgN 9) (tgsCons (tgN 10) tgsNil)))) b3T)
def b4 : SM := (sIf (mOrT (mNotT (mTru (mApp 2 (FSame 5) (mCons (mApp 1 FBkT (mCons (mVar 4) mNil)) (mCons (mVar 5) mNil))))) (mNotT (mTru (mApp 2 (FSame 5) (mCons (mApp 1 FToldB (mCons (mVar 5) mNil)) (mCons (mVar 4) mNil)))))) (sRet (mC (.bl false))) sNil)
def eN : EM := (mLst (mCons (mC (.str "")) (mCons (mC (.str "\n")) (mCons (mSlW (mVar 5) mNoP (mP (mUn negD (mC (.int 1))))) (mCons (mBin addD (mVar 5) (mC (.str "\n"))) mNil)))))
def b5 : SM := (sSet 6 (mBinN catN (mLc (mRng1 (mCons (mC (.int 14)) mNil)) [12] (tgN 12) mYes (mApp 4 FRs (mCons (mVar 0) (mCons (mVar 1) (mCons (mVar 5) (mCons (mVar 2) mNil)))))) eN))
def bC (l : List Str) : SM := (sSet 6 (mBinN catN (mVar 6) (mLst (mStrs l))))
def bT' : SM := (sIf (mNotT (mTru (mApp 2 (FSame 5) (mCons (mApp 1 FToldB (mCons (mVar 7) mNil)) (mCons (mApp 1 FOr (mCons (mApp 1 FLReadB (mCons (mVar 7) mNil)) mNil)) mNil))))) (sRet (mC (.bl false))) sNil)
def eL : EM := (mLst (mCons (mC (.str "abcdefg 1\n")) (mCons (mC (.str "a 1\n-9999\n9999\n")) (mCons (mC (.str "a 1\n1\n1\n")) (mCons (mBin addD (mVar 5) (mVar 5)) mNil)))))
def b8 : SM := (sFor (mIter (mBin addL (mVar 6) eL)) (tgN 7) bT')
def lawB : SM := (sSeq b1 (sSeq b2 (sSeq b3 (sSeq b4 (sSeq b5 (sSeq (bC o1) (sSeq (bC o2) b8)))))))
theorem law_eq (fu : Nat) : m_law fu = (sSeq (sSet 1 (mNewL mNil)) (sSeq (sSet 2 (mLst (mStrs sg))) (sSeq (sFor (mRng1 (mCons (mC (.int 6)) mNil)) (tgN 3) lawB) (sRet (mC (.bl true)))))) := by
  unfold m_law
  rw [fbook_eq, fsame_eq, frs_eq, fbkt_eq, ftold_eq, for_eq, fread_eq]
  rfl
def OkW (w : Str) : Prop := Asc w ∧ w.length ≤ 800
def OkWs (l : List Str) : Prop := ∀ w ∈ l, OkW w
theorem okws {l : List Str} (h : (l.all fun w => pl 0 (.str w) && decide (w.length ≤ 800)) = true) : OkWs l := fun w hw => by
  have := List.all_eq_true.mp h w hw
  rw [Bool.and_eq_true, decide_eq_true_eq] at this
  exact ⟨⟨this.1, by omega⟩, this.2⟩
theorem o1_ok : OkWs o1 := okws (by decide +kernel)
theorem o2_ok : OkWs o2 := okws (by decide +kernel)
theorem o3_ok : OkWs o3 := okws (by decide +kernel)
theorem sg_ok : ∀ s ∈ sg, Asc s ∧ s.length ≤ 6 := by
  have h : (sg.all fun w => pl 0 (.str w) && decide (w.length ≤ 6)) = true := by decide +kernel
  intro s hs
  have := List.all_eq_true.mp h s hs
  rw [Bool.and_eq_true, decide_eq_true_eq] at this
  exact ⟨⟨this.1, by omega⟩, this.2⟩
section
variable {S : Store} {ns : List Int} {n : Nat}
abbrev LE (ns : List Int) (y3 y4 y5 y6 y7 y8 y9 y10 y11 y12 y13 : Option D) : Dv.Env := [some (.scr ns), some (.loc 0), some (.lst (sg.map D.str)), y3, y4, y5, y6, y7, y8, y9, y10, y11, y12, y13]
theorem cat_ok {l ws : List Str} {L : Nat} (hL : S[L]? = some (.lst (ws.map D.str))) (hl : ws.length + l.length ≤ 1000) {y3 y4 y5 y7 y8 y9 y10 y11 y12 y13 : Option D} : bC l (LE ns y3 y4 y5 (some (.loc L)) y7 y8 y9 y10 y11 y12 y13) S = .ok .next (LE ns y3 y4 y5 (some (.loc S.length)) y7 y8 y9 y10 y11 y12 y13) (S ++ [.lst ((ws ++ l).map D.str)]) := by
  have e1 : mLst (mStrs l) (LE ns y3 y4 y5 (some (.loc L)) y7 y8 y9 y10 y11 y12 y13) S = .ok (.lst (l.map D.str)) S := lst_of (mStrs_ok l) (by rw [List.length_map]; omega)
  have e2 : catN (.loc L) (.lst (l.map D.str)) S = some ((ws ++ l).map D.str) := by
    have a : lstAt (.loc L) S = some (ws.map D.str) := by
      show (match S[L]? with
        | some (.lst xs) => some xs
        | _ => none) = _
      rw [hL]
    have b : lstAt (.lst (l.map D.str)) S = some (l.map D.str) := rfl
    unfold catN
    rw [a, b]
    refine (if_pos ?_).trans (by rw [List.map_append])
    rw [List.length_map, List.length_map]
    omega
  have e3 : mBinN catN (mVar 6) (mLst (mStrs l)) (LE ns y3 y4 y5 (some (.loc L)) y7 y8 y9 y10 y11 y12 y13) S = .ok (.loc S.length) (S ++ [.lst ((ws ++ l).map D.str)]) := by
    rw [mBinN_ap, var_of (v := .loc L) rfl, rb_ok, e1, rb_ok, e2]
    rfl
  exact (set_of e3).trans rfl
theorem test_ok {w : Str} (h : OkW w) {y3 y4 y5 y6 y8 y9 y10 y11 y12 y13 : Option D} : bT' (LE ns y3 y4 y5 y6 (some (.str w)) y8 y9 y10 y11 y12 y13) S = .ok .next (LE ns y3 y4 y5 y6 (some (.str w)) y8 y9 y10 y11 y12 y13) S := by
  obtain ⟨v, u, hv, e1, e2, e3⟩ := agreeB h.1 h.2
  exact if_no (not_of (b := true) (tru_of (run_app (cons_of (run_app (cons_of (var_of rfl) rfl) rfl (e1 S)) (cons_of (run_app (cons_of (run_app (cons_of (var_of rfl) rfl) rfl (e2 S)) rfl) rfl (e3 S)) rfl)) rfl (same5 hv)) rfl))
theorem tests_ok {y3 y4 y5 y6 y8 y9 y10 y11 y12 y13 : Option D} : ∀ (l : List Str) (y7 : Option D), OkWs l → ∃ z7, sLoop (tgN 7) bT' (l.map D.str) (LE ns y3 y4 y5 y6 y7 y8 y9 y10 y11 y12 y13) S = .ok .next (LE ns y3 y4 y5 y6 z7 y8 y9 y10 y11 y12 y13) S
  | [], y7, _ => ⟨y7, rfl⟩
  | w :: l, y7, h => by
    obtain ⟨z7, e⟩ := tests_ok (y3 := y3) (y4 := y4) (y5 := y5) (y6 := y6) (y8 := y8) (y9 := y9) (y10 := y10) (y11 := y11) (y12 := y12) (y13 := y13) l (some (.str w)) fun z hz => h z (List.mem_cons_of_mem _ hz)
    refine ⟨z7, ?_⟩
    rw [List.map_cons, loop_step (r1 := LE ns y3 y4 y5 y6 (some (.str w)) y8 y9 y10 y11 y12 y13) rfl (test_ok (h w List.mem_cons_self))]
    exact e
theorem rowsT_ok {y3 y4 y6 y7 y8 y9 y10 y12 y13 : Option D} : ∀ (rs : List (List Int)) (ls : List Str) (y11 : Option D), (∀ r ∈ rs, r.length ≤ 3 ∧ ∀ v ∈ r, 0 ≤ v ∧ v < 3) → (∀ l ∈ ls, l.length ≤ 6) → ls.length + rs.length ≤ 1000 →
    ∃ z11, sLoop (tgN 11) b3b (rs.map rowD) (LE ns y3 y4 (some (.str (jn ls))) y6 y7 y8 y9 y10 y11 y12 y13) S = .ok .next (LE ns y3 y4 (some (.str (jn (ls ++ rs.map rowTx)))) y6 y7 y8 y9 y10 z11 y12 y13) S
  | [], ls, y11, _, _, _ => ⟨y11, by rw [List.map_nil, List.map_nil, List.append_nil]; rfl⟩
  | r :: rs, ls, y11, h, hl, hn => by
    obtain ⟨r1, r2⟩ := h r List.mem_cons_self
    rw [List.length_cons] at hn
    have rl := (row_clean r2).2.2
    have jl := jn_len hl
    have lnl : ("\n" : Str).length = 1 := rfl
    have er := rowE_ok (S := S) (rv := LE ns y3 y4 (some (.str (jn ls))) y6 y7 y8 y9 y10 (some (rowD r)) y12 y13) (i := 11) (j := 13) rfl (by simp) r2 (by omega)
    have e1 : b3b (LE ns y3 y4 (some (.str (jn ls))) y6 y7 y8 y9 y10 (some (rowD r)) y12 y13) S = .ok .next (LE ns y3 y4 (some (.str (jn (ls ++ [rowTx r])))) y6 y7 y8 y9 y10 (some (rowD r)) y12 y13) S := by
      rw [← jn_row]
      exact (set_of (add_txt (add_txt (var_of rfl) er (by omega)) rfl (by rw [len_app, lnl]; omega))).trans rfl
    obtain ⟨z11, e⟩ := rowsT_ok (y3 := y3) (y4 := y4) (y6 := y6) (y7 := y7) (y8 := y8) (y9 := y9) (y10 := y10) (y12 := y12) (y13 := y13) rs (ls ++ [rowTx r]) (some (rowD r)) (fun q hq => h q (List.mem_cons_of_mem _ hq)) (fun l hl' => by
      rcases List.mem_append.mp hl' with hl' | hl'
      · exact hl l hl'
      · rw [List.mem_singleton.mp hl']
        omega) (by rw [List.length_append, List.length_singleton]; omega)
    refine ⟨z11, ?_⟩
    rw [List.map_cons, loop_step (r1 := LE ns y3 y4 (some (.str (jn ls))) y6 y7 y8 y9 y10 (some (rowD r)) y12 y13) rfl e1, e, List.append_assoc]
    rfl
theorem textT_ok {y3 y4 y6 y7 y12 y13 : Option D} : ∀ (tb : List Bt) (ls : List Str) (y8 y9 y10 y11 : Option D), (∀ x ∈ tb, x.w ∈ pqrs ∧ (1 ≤ x.n ∧ x.n ≤ 3) ∧ (∀ r ∈ x.rows, r.length = x.n ∧ ∀ v ∈ r, 0 ≤ v ∧ v < 3) ∧ x.rows.length ≤ 4) → (∀ l ∈ ls, l.length ≤ 6) → ls.length + 5 * tb.length ≤ 900 →
    ∃ z8 z9 z10 z11, sLoop (tgT 3 (tgsCons (tgN 8) (tgsCons (tgN 9) (tgsCons (tgN 10) tgsNil)))) b3T (tb.map tabD) (LE ns y3 y4 (some (.str (jn ls))) y6 y7 y8 y9 y10 y11 y12 y13) S = .ok .next (LE ns y3 y4 (some (.str (jn (ls ++ lnsT tb)))) y6 y7 z8 z9 z10 z11 y12 y13) S
  | [], ls, y8, y9, y10, y11, _, _, _ => ⟨y8, y9, y10, y11, by
    have : lnsT [] = [] := rfl
    rw [this, List.append_nil]
    rfl⟩
  | x :: tb, ls, y8, y9, y10, y11, h, hl, hn => by
    obtain ⟨h1, h2, h3, h4⟩ := h x List.mem_cons_self
    rw [List.length_cons] at hn
    have jl := jn_len hl
    have lnl : ("\n" : Str).length = 1 := rfl
    have lbl : (" " : Str).length = 1 := rfl
    have lw := (w_one h1).1
    have lnn := (num_one (v := x.n) (by omega)).1
    have hd := (head_clean h1 h2).2.2.1
    have e1 : b3a (LE ns y3 y4 (some (.str (jn ls))) y6 y7 (some (.str x.w)) (some (.int x.n)) (some (.tup (x.rows.map rowD))) y11 y12 y13) S = .ok .next (LE ns y3 y4 (some (.str (jn (ls ++ [headTx x])))) y6 y7 (some (.str x.w)) (some (.int x.n)) (some (.tup (x.rows.map rowD))) y11 y12 y13) S := by
      rw [← jn_head]
      exact (set_of (add_txt (add_txt (add_txt (add_txt (var_of rfl) (var_of rfl) (by omega)) rfl (by rw [len_app, lbl]; omega)) (call_of (cons_of (var_of rfl) rfl) (show Trm1 (.int x.n) from .inr ⟨_, rfl, by omega, by omega⟩).txt) (by rw [len_app, len_app, lbl]; show _ + (numT x.n).length ≤ _; omega)) rfl (by rw [len_app, len_app, len_app, lbl, lnl]; show _ + (numT x.n).length + 1 ≤ _; omega))).trans rfl
    have hl2 : ∀ l ∈ ls ++ [headTx x], l.length ≤ 6 := fun l hl' => by
      rcases List.mem_append.mp hl' with hl' | hl'
      · exact hl l hl'
      · rw [List.mem_singleton.mp hl']
        omega
    obtain ⟨z11, e2⟩ := rowsT_ok (S := S) (ns := ns) (y3 := y3) (y4 := y4) (y6 := y6) (y7 := y7) (y8 := some (.str x.w)) (y9 := some (.int x.n)) (y10 := some (.tup (x.rows.map rowD))) (y12 := y12) (y13 := y13) x.rows (ls ++ [headTx x]) y11 (fun r hr => ⟨by rw [(h3 r hr).1]; omega, (h3 r hr).2⟩) hl2 (by rw [List.length_append, List.length_singleton]; omega)
    have e3 : b3T (LE ns y3 y4 (some (.str (jn ls))) y6 y7 (some (.str x.w)) (some (.int x.n)) (some (.tup (x.rows.map rowD))) y11 y12 y13) S = .ok .next (LE ns y3 y4 (some (.str (jn (ls ++ [headTx x] ++ x.rows.map rowTx)))) y6 y7 (some (.str x.w)) (some (.int x.n)) (some (.tup (x.rows.map rowD))) z11 y12 y13) S := (seq_ok e1).trans ((for_of (iter_of (var_of rfl) rfl)).trans e2)
    obtain ⟨z8, z9, z10, z11', e⟩ := textT_ok (y3 := y3) (y4 := y4) (y6 := y6) (y7 := y7) (y12 := y12) (y13 := y13) tb (ls ++ [headTx x] ++ x.rows.map rowTx) (some (.str x.w)) (some (.int x.n)) (some (.tup (x.rows.map rowD))) z11 (fun y hy => h y (List.mem_cons_of_mem _ hy)) (fun l hl' => by
      rcases List.mem_append.mp hl' with hl' | hl'
      · exact hl2 l hl'
      · obtain ⟨r, hr, rfl⟩ := List.mem_map.mp hl'
        have := (row_clean (h3 r hr).2).2.2
        have := (h3 r hr).1
        omega) (by rw [List.length_append, List.length_append, List.length_singleton, List.length_map]; omega)
    refine ⟨z8, z9, z10, z11', ?_⟩
    have el : lnsT (x :: tb) = (headTx x :: x.rows.map rowTx) ++ lnsT tb := by
      unfold lnsT
      rw [List.flatMap_cons]
    rw [List.map_cons, loop_step (r1 := LE ns y3 y4 (some (.str (jn ls))) y6 y7 (some (.str x.w)) (some (.int x.n)) (some (.tup (x.rows.map rowD))) y11 y12 y13) rfl e3, e, el]
    simp
theorem lawB_ok (h63 : ns.length ≤ 63) (tw : Twn 0 n S) (hn : n ≤ 9000) {y3 y4 y5 y6 y7 y8 y9 y10 y11 y12 y13 : Option D} : ∃ S' z4 z5 z6 z7 z8 z9 z10 z11 z12 z13, lawB (LE ns y3 y4 y5 y6 y7 y8 y9 y10 y11 y12 y13) S = .ok .next (LE ns y3 z4 z5 z6 z7 z8 z9 z10 z11 z12 z13) S' ∧ Twn 0 (n + 1000) S' := by
  obtain ⟨tb, S2, e1, bk, bu, tw2, d2⟩ := book_up (most := 4) (far := 3) h63 (by omega) (by omega) tw (by omega)
  have e1 : FBook [.scr ns, .loc 0, .int 4, .int 3] S = .ok (.tup (tb.map tabD)) S2 := e1
  have db := dbook bk bu
  obtain ⟨hA, hl⟩ := db.text
  have hT := db.told
  obtain ⟨x, hx⟩ : ∃ x, x = bkT tb := ⟨_, rfl⟩
  have t2 := bkt_ok (S := S2) db
  have w1 : b1 (LE ns y3 y4 y5 y6 y7 y8 y9 y10 y11 y12 y13) S = .ok .next (LE ns y3 (some (.tup (tb.map tabD))) y5 y6 y7 y8 y9 y10 y11 y12 y13) S2 := (set_of (run_app (cons_of (var_of rfl) (cons_of (var_of rfl) (cons_of rfl (cons_of rfl rfl)))) rfl e1)).trans rfl
  have w2 : b2 (LE ns y3 (some (.tup (tb.map tabD))) y5 y6 y7 y8 y9 y10 y11 y12 y13) S2 = .ok .next (LE ns y3 (some (.tup (tb.map tabD))) (some (.str (jn []))) y6 y7 y8 y9 y10 y11 y12 y13) S2 := (set_of rfl).trans rfl
  obtain ⟨u8, u9, u10, u11, e3⟩ := textT_ok (S := S2) (ns := ns) (y3 := y3) (y4 := some (.tup (tb.map tabD))) (y6 := y6) (y7 := y7) (y12 := y12) (y13 := y13) tb [] y8 y9 y10 y11 (fun z hz => ⟨db.w z hz, db.n z hz, db.row z hz, db.len z hz⟩) (fun _ h => nomatch h) (by have := db.cnt; simp; omega)
  have w3 : b3 (LE ns y3 (some (.tup (tb.map tabD))) (some (.str (jn []))) y6 y7 y8 y9 y10 y11 y12 y13) S2 = .ok .next (LE ns y3 (some (.tup (tb.map tabD))) (some (.str (bkT tb))) y6 y7 u8 u9 u10 u11 y12 y13) S2 := (for_of (iter_of (var_of rfl) rfl)).trans e3
  have t3 : FToldB [.str (bkT tb)] S2 = .ok (.tup (tb.map tabD)) S2 := by
    rw [← b3_map]
    exact toldB_yes (clo_f3 _ _) ((readB_ok hA (by omega)).1 _ hT)
  have p4 : pt 4 (.tup (tb.map tabD)) = true := by
    rw [← b3_map]
    exact pt_book _
  rw [← hx] at hA hl hT t2 w3 t3
  have w4 : b4 (LE ns y3 (some (.tup (tb.map tabD))) (some (.str x)) y6 y7 u8 u9 u10 u11 y12 y13) S2 = .ok .next (LE ns y3 (some (.tup (tb.map tabD))) (some (.str x)) y6 y7 u8 u9 u10 u11 y12 y13) S2 :=
    if_no (or_f (not_of (b := true) (tru_of (run_app (cons_of (run_app (cons_of (var_of rfl) rfl) rfl t2) (cons_of (var_of rfl) rfl)) rfl (same5 (d := .str x) rfl)) rfl)) (not_of (b := true) (tru_of (run_app (cons_of (run_app (cons_of (var_of rfl) rfl) rfl t3) (cons_of (var_of rfl) rfl)) rfl (same5 p4)) rfl)))
  obtain ⟨ys, S3, e4, ws, rfl, hws, hwl, tw3, d3⟩ := lc_inv (gm := tgN 12) (te := mApp 4 FRs (mCons (mVar 0) (mCons (mVar 1) (mCons (mVar 5) (mCons (mVar 2) mNil))))) (r0 := LE ns y3 (some (.tup (tb.map tabD))) (some (.str x)) y6 y7 u8 u9 u10 u11 none y13)
    (fun i zs S' => ∃ ws : List Str, zs = ws.map D.str ∧ OkWs ws ∧ ws.length = i ∧ Twn 0 (n + 500 + 20 * i) S' ∧ Dif 0 S2 S') (rng 0 14) 0 [] S2 (fun i d zs T hd hi => by
      obtain ⟨hi2, rfl⟩ := rng0_get hd
      obtain ⟨ws, rfl, hws, hwl, tw', d'⟩ := hi
      obtain ⟨y, T', e, a, b, c, f⟩ := rs_ok (sg := sg) h63 hA hl sg_ok (by simp [sg]) tw' (by omega)
      refine ⟨LE ns y3 (some (.tup (tb.map tabD))) (some (.str x)) y6 y7 u8 u9 u10 u11 (some (.int i)) y13, .str y, T', rfl, run_app (cons_of (var_of rfl) (cons_of (var_of rfl) (cons_of (var_of rfl) (cons_of (var_of rfl) rfl)))) rfl e, ws ++ [y], by simp, fun w hw => ?_, by simp [hwl], c.mono (by omega), d'.trans f⟩
      rcases List.mem_append.mp hw with hw | hw
      · exact hws w hw
      · rw [List.mem_singleton.mp hw]
        exact ⟨a, by omega⟩) ⟨[], rfl, (fun _ h => nomatch h), rfl, tw2.mono (by omega), tw2.dif⟩
  have e4 : lcL (tgN 12) mYes (mApp 4 FRs (mCons (mVar 0) (mCons (mVar 1) (mCons (mVar 5) (mCons (mVar 2) mNil))))) (LE ns y3 (some (.tup (tb.map tabD))) (some (.str x)) y6 y7 u8 u9 u10 u11 none y13) (rng 0 14) S2 = .ok (ws.map D.str) S3 := e4
  have hwl : ws.length = 14 := by rw [hwl, rng_len]
  have lnl : ("\n" : Str).length = 1 := rfl
  have cA := hA.cut none (some (-1))
  have cL := cut_len x none (some (-1))
  obtain ⟨N, hN⟩ : ∃ N : List Str, N = [("" : Str), ("\n" : Str), cutS x none (some (-1)), x ++ "\n"] := ⟨_, rfl⟩
  have hNo : OkWs N := fun w hw => by
    rw [hN] at hw
    simp only [List.mem_cons, List.not_mem_nil, or_false] at hw
    rcases hw with rfl | rfl | rfl | rfl
    · exact ⟨asc_nil, by decide⟩
    · exact ⟨asc_nl, by decide⟩
    · exact ⟨cA, by omega⟩
    · exact ⟨hA.app asc_nl (by omega), by rw [len_app]; omega⟩
  have hNl : N.length = 4 := by rw [hN]; rfl
  have eNe : eN (LE ns y3 (some (.tup (tb.map tabD))) (some (.str x)) y6 y7 u8 u9 u10 u11 y12 y13) S3 = .ok (.lst (N.map D.str)) S3 := by
    have es : mSlW (mVar 5) mNoP (mP (mUn negD (mC (.int 1)))) (LE ns y3 (some (.tup (tb.map tabD))) (some (.str x)) y6 y7 u8 u9 u10 u11 y12 y13) S3 = .ok (.str (cutS x none (some (-1)))) S3 := by
      show ofO (slWD (.str x) none (some (-1)) S3) S3 = _
      rw [hA.sl]
      rfl
    rw [hN]
    exact lst_of (cons_of rfl (cons_of rfl (cons_of es (cons_of (add_txt (var_of rfl) rfl (by omega)) rfl)))) (by simp)
  have w5 : b5 (LE ns y3 (some (.tup (tb.map tabD))) (some (.str x)) y6 y7 u8 u9 u10 u11 y12 y13) S2 = .ok .next (LE ns y3 (some (.tup (tb.map tabD))) (some (.str x)) (some (.loc S3.length)) y7 u8 u9 u10 u11 y12 y13) (S3 ++ [.lst ((ws ++ N).map D.str)]) := by
    have ea : mLc (mRng1 (mCons (mC (.int 14)) mNil)) [12] (tgN 12) mYes (mApp 4 FRs (mCons (mVar 0) (mCons (mVar 1) (mCons (mVar 5) (mCons (mVar 2) mNil))))) (LE ns y3 (some (.tup (tb.map tabD))) (some (.str x)) y6 y7 u8 u9 u10 u11 y12 y13) S2 = .ok (.lst (ws.map D.str)) S3 := lc_of (vs := [12]) (rfl : mRng1 (mCons (mC (.int 14)) mNil) _ S2 = .ok (rng 0 14) S2) e4
    have ec : catN (.lst (ws.map D.str)) (.lst (N.map D.str)) S3 = some ((ws ++ N).map D.str) := by
      have a : lstAt (.lst (ws.map D.str)) S3 = some (ws.map D.str) := rfl
      have b : lstAt (.lst (N.map D.str)) S3 = some (N.map D.str) := rfl
      unfold catN
      rw [a, b]
      refine (if_pos ?_).trans (by rw [List.map_append])
      rw [List.length_map, List.length_map]
      omega
    have eb : mBinN catN (mLc (mRng1 (mCons (mC (.int 14)) mNil)) [12] (tgN 12) mYes (mApp 4 FRs (mCons (mVar 0) (mCons (mVar 1) (mCons (mVar 5) (mCons (mVar 2) mNil)))))) eN (LE ns y3 (some (.tup (tb.map tabD))) (some (.str x)) y6 y7 u8 u9 u10 u11 y12 y13) S2 = .ok (.loc S3.length) (S3 ++ [.lst ((ws ++ N).map D.str)]) := by
      rw [mBinN_ap, ea, rb_ok, eNe, rb_ok, ec]
      rfl
    exact (set_of eb).trans rfl
  obtain ⟨S4, hS4⟩ : ∃ S4, S4 = S3 ++ [O.lst ((ws ++ N).map D.str)] := ⟨_, rfl⟩
  have h4 : S4[S3.length]? = some (.lst ((ws ++ N).map D.str)) := by rw [hS4]; exact Nv.last_at _
  have tw4 : Twn 0 (n + 1000) S4 := by rw [hS4]; exact twn_app (tw3.mono (by rw [rng_len]; omega))
  rw [← hS4] at w5
  have l1 : o1.length = 7 := rfl
  have l2 : o2.length = 2 := rfl
  have w6 := cat_ok (ns := ns) (S := S4) (l := o1) h4 (by rw [List.length_append]; omega) (y3 := y3) (y4 := some (.tup (tb.map tabD))) (y5 := some (.str x)) (y7 := y7) (y8 := u8) (y9 := u9) (y10 := u10) (y11 := u11) (y12 := y12) (y13 := y13)
  obtain ⟨S5, hS5⟩ : ∃ S5, S5 = S4 ++ [O.lst ((ws ++ N ++ o1).map D.str)] := ⟨_, rfl⟩
  have h5 : S5[S4.length]? = some (.lst ((ws ++ N ++ o1).map D.str)) := by rw [hS5]; exact Nv.last_at _
  have tw5 : Twn 0 (n + 1000) S5 := by rw [hS5]; exact twn_app tw4
  rw [← hS5] at w6
  have w7 := cat_ok (ns := ns) (S := S5) (l := o2) h5 (by rw [List.length_append, List.length_append]; omega) (y3 := y3) (y4 := some (.tup (tb.map tabD))) (y5 := some (.str x)) (y7 := y7) (y8 := u8) (y9 := u9) (y10 := u10) (y11 := u11) (y12 := y12) (y13 := y13)
  obtain ⟨W, hW⟩ : ∃ W, W = ws ++ N ++ o1 ++ o2 := ⟨_, rfl⟩
  have hWo : OkWs W := fun w hw => by
    rw [hW] at hw
    rcases List.mem_append.mp hw with hw | hw
    · rcases List.mem_append.mp hw with hw | hw
      · rcases List.mem_append.mp hw with hw | hw
        · exact hws w hw
        · exact hNo w hw
      · exact o1_ok w hw
    · exact o2_ok w hw
  have hWl : W.length = 27 := by rw [hW]; simp only [List.length_append]; omega
  rw [← hW] at w7
  obtain ⟨S6, hS6⟩ : ∃ S6, S6 = S5 ++ [O.lst (W.map D.str)] := ⟨_, rfl⟩
  have h6 : S6[S5.length]? = some (.lst (W.map D.str)) := by rw [hS6]; exact Nv.last_at _
  have tw6 : Twn 0 (n + 1000) S6 := by rw [hS6]; exact twn_app tw5
  rw [← hS6] at w7
  obtain ⟨M, hM⟩ : ∃ M, M = o3 ++ [x ++ x] := ⟨_, rfl⟩
  have hMo : OkWs M := fun w hw => by
    rw [hM] at hw
    rcases List.mem_append.mp hw with hw | hw
    · exact o3_ok w hw
    · rw [List.mem_singleton.mp hw]
      exact ⟨hA.app hA (by omega), by rw [len_app]; omega⟩
  have ez : eL (LE ns y3 (some (.tup (tb.map tabD))) (some (.str x)) (some (.loc S5.length)) y7 u8 u9 u10 u11 y12 y13) S6 = .ok (.lst (M.map D.str)) S6 := by
    rw [hM]
    exact lst_of (cons_of rfl (cons_of rfl (cons_of rfl (cons_of (add_txt (var_of rfl) (var_of rfl) (by omega)) rfl)))) (by simp [o3])
  have hMl : M.length = 4 := by rw [hM]; rfl
  have ec : addL (.loc S5.length) (.lst (M.map D.str)) S6 = some (.lst ((W ++ M).map D.str)) := by
    have a : lstAt (.loc S5.length) S6 = some (W.map D.str) := by
      show (match S6[S5.length]? with
        | some (.lst xs) => some xs
        | _ => none) = _
      rw [h6]
    have b : lstAt (.lst (M.map D.str)) S6 = some (M.map D.str) := rfl
    have c : catN (.loc S5.length) (.lst (M.map D.str)) S6 = some ((W ++ M).map D.str) := by
      unfold catN
      rw [a, b]
      refine (if_pos ?_).trans (by rw [List.map_append])
      rw [List.length_map, List.length_map]
      omega
    unfold addL
    rw [c]
    rfl
  obtain ⟨z7, e10⟩ := tests_ok (S := S6) (ns := ns) (y3 := y3) (y4 := some (.tup (tb.map tabD))) (y5 := some (.str x)) (y6 := some (.loc S5.length)) (y8 := u8) (y9 := u9) (y10 := u10) (y11 := u11) (y12 := y12) (y13 := y13) (W ++ M) y7 fun w hw => by
    rcases List.mem_append.mp hw with hw | hw
    · exact hWo w hw
    · exact hMo w hw
  have w8 : b8 (LE ns y3 (some (.tup (tb.map tabD))) (some (.str x)) (some (.loc S5.length)) y7 u8 u9 u10 u11 y12 y13) S6 = .ok .next (LE ns y3 (some (.tup (tb.map tabD))) (some (.str x)) (some (.loc S5.length)) z7 u8 u9 u10 u11 y12 y13) S6 := (for_of (iter_of (bin_of (var_of rfl) ez ec) rfl)).trans e10
  refine ⟨S6, some (.tup (tb.map tabD)), some (.str x), some (.loc S5.length), z7, u8, u9, u10, u11, y12, y13, ?_, tw6⟩
  unfold lawB
  rw [seq_ok w1, seq_ok w2, seq_ok w3, seq_ok w4, seq_ok w5, seq_ok w6, seq_ok w7]
  exact w8
end
theorem law_true (ns : List Int) (h : ns.length ≤ 63) : ∃ fu S, F_law fu [.scr ns] [] = .ok (.bl true) S := by
  refine ⟨50, ?_⟩
  obtain ⟨r', S', e, ⟨z3, z4, z5, z6, z7, z8, z9, z10, z11, z12, z13, rfl⟩, tw⟩ := loop_inv (gm := tgN 3) (b := lawB)
    (fun i r S' => (∃ z3 z4 z5 z6 z7 z8 z9 z10 z11 z12 z13, r = LE ns z3 z4 z5 z6 z7 z8 z9 z10 z11 z12 z13) ∧ Twn 0 (1000 * i) S') (rng 0 6) 0 (LE ns none none none none none none none none none none none) [.lst []] (fun i d r S1 hd hi => by
      obtain ⟨hi2, rfl⟩ := rng0_get hd
      obtain ⟨⟨z3, z4, z5, z6, z7, z8, z9, z10, z11, z12, z13, rfl⟩, tw⟩ := hi
      obtain ⟨S', z4', z5', z6', z7', z8', z9', z10', z11', z12', z13', e, tw'⟩ := lawB_ok (y3 := some (.int i)) (y4 := z4) (y5 := z5) (y6 := z6) (y7 := z7) (y8 := z8) (y9 := z9) (y10 := z10) (y11 := z11) (y12 := z12) (y13 := z13) h tw (by omega)
      exact ⟨_, _, S', rfl, .inl e, ⟨_, _, _, _, _, _, _, _, _, _, _, rfl⟩, tw'.mono (by omega)⟩) ⟨⟨_, _, _, _, _, _, _, _, _, _, _, rfl⟩, [], by simp, rfl⟩
  refine ⟨[], ?_⟩
  show finT [] (m_law 50 (frame 14 _) []) = _
  rw [show frame 14 [.scr ns] = [some (.scr ns), none, none, none, none, none, none, none, none, none, none, none, none, none] from rfl, law_eq]
  have s1 : (sSet 1 (mNewL mNil)) [some (.scr ns), none, none, none, none, none, none, none, none, none, none, none, none, none] [] = .ok .next [some (.scr ns), some (.loc 0), none, none, none, none, none, none, none, none, none, none, none, none] [.lst []] := by simp
  have s2 : (sSet 2 (mLst (mStrs sg))) [some (.scr ns), some (.loc 0), none, none, none, none, none, none, none, none, none, none, none, none] [.lst []] = .ok .next (LE ns none none none none none none none none none none none) [.lst []] := (set_of (lst_of (mStrs_ok sg) (by simp [sg]))).trans rfl
  have s4 : (sFor (mRng1 (mCons (mC (.int 6)) mNil)) (tgN 3) lawB) (LE ns none none none none none none none none none none none) [.lst []] = .ok .next (LE ns z3 z4 z5 z6 z7 z8 z9 z10 z11 z12 z13) S' := (for_of rfl).trans e
  rw [seq_ok s1, seq_ok s2, seq_ok s4]
  exact fin_ret_app S' rfl
end Law
namespace Law
open PySem L2 Dv
set_option maxHeartbeats 0 in
theorem all_mk {l : PySem.W.OpenLaw} {w : World} {K : PySem.W.Frag} {h : Heap} {mg : Str → Option Value} {fa Q0 QS Qc Q9 QT QC Qb Q1h Q0i QF QV Q0I QE Q0g Q0f Q1l Q0K Q0h Q1i Q0J Q0e QW QO Qa QD QR Q5M Q6 Q5 : Addr} (X : K.In h) (G : h.Ns mainGlobals mg) (hfa : mg "law" = some (.ref fa))
    {Qe Qd Qi Qv Q7 Qw Q4D Q3P Q41 Q3H Q1Y Q4u Q26 Q22 Q1Z Q1A QY Q1E Q2e Q2q Q1H Q1M QZ Q1V Q3W Q4C Q4g Q3M Q2a Q45 Q2Z Q35 Q33 Q3b Q1c Q32 Q1x Q1W Q2h Q1D QX Q1U Q6k Q64 Q6c Q6f Q3g Q6d Q5f Q55 Q4E Q4U Q2y Q53 Q3z Q3w Q3m Q3s Q1v Q3n Q4B Q4s Q4l Q3X Q1R Q4z Q5x Q5E Q5R Q5S Q2O Q5C Q3j Q3r Q3q Q3u Q1w Q3p Q4W Q4T Q5i Q4O Q2C Q4P Q5k Q50 Q5h Q5e Q2B Q5o Q68 Q6n Q6h Q6b Q3h Q6a Q5u Q5I Q5q Q5y Q2U Q5P Q4R Q5b Q5c Q4J Q2I Q5n Q6l Q6e Q5X Q61 Q3e Q5U Q5J Q5T Q5t Q5L Q2S Q5v Q4H Q5l Q4K Q51 Q2D Q4X Q3Z Q3L Q49 Q3S Q1K Q43 Q44 Q4h Q3B Q4p Q1F Q4e Q2i Q2k Q2r Q29 Q00 Q1B Q2X Q30 Q36 Q38 Q1d Q2W Q4c Q3Y Q4t Q4k Q1y Q42 Q6w Q6i Q6p Q5W Q3K Q5Y : Value} {Ql Qg Q4q Q4a Q1N Q1J Q28 Q1G Q3N Q3F Q37 Q31 Q2m Q23 Q63 Q6m Q4Y Q4S Q3o Q3y Q3U Q4b Q5K Q5s Q3k Q3l Q54 Q5m Q4I Q5d Q67 Q65 Q5G Q5r Q59 Q4M Q6g Q62 Q5N Q5p Q4N Q56 Q40 Q4m Q4j Q4r Q1C Q2g Q39 Q3a Q3R Q47 Q6v Q5Z : Option Addr} {Qx Q4i Q20 Q2j Q4f Q3c Q1I Q60 Q52 Q3x Q48 Q5z Q3A Q5g Q5j Q5V Q5D Q4Z Q6o Q5B Q4L Q46 Q3J Q1S Q2V Q3V Q6x : Array (Option Value)}
    {Q6u : Tok}
    (Q2t : PySem.W.nsIn K mainGlobals "NoText" = some (some (.ref Q6)))
    (Q1X : PySem.W.excIn K Q6 [.type "ValueError", .type "Exception", .type "BaseException", .type "object"] "ValueError.__new__" = true)
    (Q2f : PySem.W.keepIn K (.ref Q6) = true)
    (Q0L : PySem.W.subIn K (.ref Q6) (.type "BaseException") = some true)
    (Q0H : PySem.W.typeIn K (.ref Q6) = some (.type "type"))
    (Q2l : PySem.W.isClsIn K Q6 = true)
    (Q27 : PySem.W.subIn K (.ref Q6) (.ref Q6) = some true)
    (Q0Y : PySem.W.nsIn K mainGlobals "RowError" = some (some (.ref Q5)))
    (Q14 : PySem.W.excIn K Q5 [.type "ValueError", .type "Exception", .type "BaseException", .type "object"] "ValueError.__new__" = true)
    (Q17 : PySem.W.keepIn K (.ref Q5) = true)
    (QU : PySem.W.subIn K (.ref Q5) (.type "BaseException") = some true)
    (QP : PySem.W.typeIn K (.ref Q5) = some (.type "type"))
    (Q16 : PySem.W.isClsIn K Q5 = true)
    (Q12 : PySem.W.subIn K (.ref Q5) (.ref Q5) = some true)
    (Q1 : PySem.W.nsIn K mainGlobals "_law_draw" = some (some (.ref Q0)))
    (Q4 : K.lookup Q0 = some ⟨Qe, Ql, .func (PySem.W.fnOf "_law_draw" "_law_draw" (defArgs s__law_draw) (defBody s__law_draw) (defScope s__law_draw) .none Qd Qi Qv Qg Q7 Qw), Qx⟩)
    (Q2 : PySem.W.codeIn K Q7 "_law_draw" = true)
    (Q3 : PySem.W.keepIn K (.ref Q0) = true)
    (Q0A : PySem.W.nsIn K mainGlobals "_law_pick" = some (some (.ref QS)))
    (Q0j : K.lookup QS = some ⟨Q4D, Q4q, .func (PySem.W.fnOf "_law_pick" "_law_pick" (defArgs s__law_pick) (defBody s__law_pick) (defScope s__law_pick) .none Q3P Q41 Q3H Q4a Q1Y Q4u), Q4i⟩)
    (Q0k : PySem.W.codeIn K Q1Y "_law_pick" = true)
    (Q0t : PySem.W.keepIn K (.ref QS) = true)
    (Qr : PySem.W.nsIn K mainGlobals "_law_drawn_rows" = some (some (.ref Qc)))
    (Qp : K.lookup Qc = some ⟨Q26, Q1N, .func (PySem.W.fnOf "_law_drawn_rows" "_law_drawn_rows" (defArgs s__law_drawn_rows) (defBody s__law_drawn_rows) (defScope s__law_drawn_rows) .none Q22 Q1Z Q1A Q1J QY Q1E), Q20⟩)
    (Qn : PySem.W.codeIn K QY "_law_drawn_rows" = true)
    (Qu : PySem.W.keepIn K (.ref Qc) = true)
    (QA : PySem.W.nsIn K mainGlobals "_law_drawn_book" = some (some (.ref Q9)))
    (Qf : K.lookup Q9 = some ⟨Q2e, Q28, .func (PySem.W.fnOf "_law_drawn_book" "_law_drawn_book" (defArgs s__law_drawn_book) (defBody s__law_drawn_book) (defScope s__law_drawn_book) .none Q2q Q1H Q1M Q1G QZ Q1V), Q2j⟩)
    (Qs : PySem.W.codeIn K QZ "_law_drawn_book" = true)
    (Qm : PySem.W.keepIn K (.ref Q9) = true)
    (Q0p : PySem.W.nsIn K mainGlobals "_law_same" = some (some (.ref QT)))
    (Q0y : K.lookup QT = some ⟨Q3W, Q3N, .func (PySem.W.fnOf "_law_same" "_law_same" (defArgs s__law_same) (defBody s__law_same) (defScope s__law_same) .none Q4C Q4g Q3M Q3F Q2a Q45), Q4f⟩)
    (Q0u : PySem.W.codeIn K Q2a "_law_same" = true)
    (Q0C : PySem.W.keepIn K (.ref QT) = true)
    (QJ : PySem.W.nsIn K mainGlobals "_law_spoilt" = some (some (.ref QC)))
    (QK : K.lookup QC = some ⟨Q2Z, Q37, .func (PySem.W.fnOf "_law_spoilt" "_law_spoilt" (defArgs s__law_spoilt) (defBody s__law_spoilt) (defScope s__law_spoilt) .none Q35 Q33 Q3b Q31 Q1c Q32), Q3c⟩)
    (QN : PySem.W.codeIn K Q1c "_law_spoilt" = true)
    (QM : PySem.W.keepIn K (.ref QC) = true)
    (Qo : PySem.W.nsIn K mainGlobals "_law_row_spoilt" = some (some (.ref Qb)))
    (Qz : K.lookup Qb = some ⟨Q1x, Q2m, .func (PySem.W.fnOf "_law_row_spoilt" "_law_row_spoilt" (defArgs s__law_row_spoilt) (defBody s__law_row_spoilt) (defScope s__law_row_spoilt) .none Q1W Q2h Q1D Q23 QX Q1U), Q1I⟩)
    (Qj : PySem.W.codeIn K QX "_law_row_spoilt" = true)
    (Qy : PySem.W.keepIn K (.ref Qb) = true)
    (Q2o : PySem.W.nsIn K mainGlobals "joined" = some (some (.ref Q1h)))
    (Q1L : K.lookup Q1h = some ⟨Q6k, Q63, .func (PySem.W.fnOf "joined" "joined" (defArgs s_joined) (defBody s_joined) (defScope s_joined) .none Q64 Q6c Q6f Q6m Q3g Q6d), Q60⟩)
    (Q2s : PySem.W.codeIn K Q3g "joined" = true)
    (Q2n : PySem.W.keepIn K (.ref Q1h) = true)
    (Q1a : PySem.W.nsIn K mainGlobals "row_text" = some (some (.ref Q0i)))
    (Q0U : K.lookup Q0i = some ⟨Q5f, Q4Y, .func (PySem.W.fnOf "row_text" "row_text" (defArgs s_row_text) (defBody s_row_text) (defScope s_row_text) .none Q55 Q4E Q4U Q4S Q2y Q53), Q52⟩)
    (Q0M : PySem.W.codeIn K Q2y "row_text" = true)
    (Q11 : PySem.W.keepIn K (.ref Q0i) = true)
    (Q01 : PySem.W.nsIn K mainGlobals "book_lines" = some (some (.ref QF)))
    (Q02 : K.lookup QF = some ⟨Q3z, Q3o, .func (PySem.W.fnOf "book_lines" "book_lines" (defArgs s_book_lines) (defBody s_book_lines) (defScope s_book_lines) .none Q3w Q3m Q3s Q3y Q1v Q3n), Q3x⟩)
    (Q03 : PySem.W.codeIn K Q1v "book_lines" = true)
    (Q09 : PySem.W.keepIn K (.ref QF) = true)
    (Q0B : PySem.W.nsIn K mainGlobals "book_text" = some (some (.ref QV)))
    (Q0D : K.lookup QV = some ⟨Q4B, Q3U, .func (PySem.W.fnOf "book_text" "book_text" (defArgs s_book_text) (defBody s_book_text) (defScope s_book_text) .none Q4s Q4l Q3X Q4b Q1R Q4z), Q48⟩)
    (Q0l : PySem.W.codeIn K Q1R "book_text" = true)
    (Q0o : PySem.W.keepIn K (.ref QV) = true)
    (Q1r : PySem.W.nsIn K mainGlobals "is_name" = some (some (.ref Q0I)))
    (Q1f : K.lookup Q0I = some ⟨Q5x, Q5K, .func (PySem.W.fnOf "is_name" "is_name" (defArgs s_is_name) (defBody s_is_name) (defScope s_is_name) .none Q5E Q5R Q5S Q5s Q2O Q5C), Q5z⟩)
    (Q1q : PySem.W.codeIn K Q2O "is_name" = true)
    (Q1p : PySem.W.keepIn K (.ref Q0I) = true)
    (Q05 : PySem.W.nsIn K mainGlobals "are_rising" = some (some (.ref QE)))
    (Q06 : K.lookup QE = some ⟨Q3j, Q3k, .func (PySem.W.fnOf "are_rising" "are_rising" (defArgs s_are_rising) (defBody s_are_rising) (defScope s_are_rising) .none Q3r Q3q Q3u Q3l Q1w Q3p), Q3A⟩)
    (Q08 : PySem.W.codeIn K Q1w "are_rising" = true)
    (Q07 : PySem.W.keepIn K (.ref QE) = true)
    (Q18 : PySem.W.nsIn K mainGlobals "is_whole" = some (some (.ref Q0g)))
    (Q0O : K.lookup Q0g = some ⟨Q4W, Q54, .func (PySem.W.fnOf "is_whole" "is_whole" (defArgs s_is_whole) (defBody s_is_whole) (defScope s_is_whole) .none Q4T Q5i Q4O Q5m Q2C Q4P), Q5g⟩)
    (Q0V : PySem.W.codeIn K Q2C "is_whole" = true)
    (Q1b : PySem.W.keepIn K (.ref Q0g) = true)
    (Q0P : PySem.W.nsIn K mainGlobals "is_value" = some (some (.ref Q0f)))
    (Q19 : K.lookup Q0f = some ⟨Q5k, Q4I, .func (PySem.W.fnOf "is_value" "is_value" (defArgs s_is_value) (defBody s_is_value) (defScope s_is_value) .none Q50 Q5h Q5e Q5d Q2B Q5o), Q5j⟩)
    (Q13 : PySem.W.codeIn K Q2B "is_value" = true)
    (Q15 : PySem.W.keepIn K (.ref Q0f) = true)
    (Q1z : PySem.W.nsIn K mainGlobals "is_row" = some (some (.ref Q1l)))
    (Q2d : K.lookup Q1l = some ⟨Q68, Q67, .func (PySem.W.fnOf "is_row" "is_row" (defArgs s_is_row) (defBody s_is_row) (defScope s_is_row) .none Q6n Q6h Q6b Q65 Q3h Q6a), Q5V⟩)
    (Q2b : PySem.W.codeIn K Q3h "is_row" = true)
    (Q21 : PySem.W.keepIn K (.ref Q1l) = true)
    (Q1k : PySem.W.nsIn K mainGlobals "is_book" = some (some (.ref Q0K)))
    (Q1e : K.lookup Q0K = some ⟨Q5u, Q5G, .func (PySem.W.fnOf "is_book" "is_book" (defArgs s_is_book) (defBody s_is_book) (defScope s_is_book) .none Q5I Q5q Q5y Q5r Q2U Q5P), Q5D⟩)
    (Q1j : PySem.W.codeIn K Q2U "is_book" = true)
    (Q1m : PySem.W.keepIn K (.ref Q0K) = true)
    (Q0S : PySem.W.nsIn K mainGlobals "value_in" = some (some (.ref Q0h)))
    (Q0X : K.lookup Q0h = some ⟨Q4R, Q59, .func (PySem.W.fnOf "value_in" "value_in" (defArgs s_value_in) (defBody s_value_in) (defScope s_value_in) .none Q5b Q5c Q4J Q4M Q2I Q5n), Q4Z⟩)
    (Q0T : PySem.W.codeIn K Q2I "value_in" = true)
    (Q0R : PySem.W.keepIn K (.ref Q0h) = true)
    (Q1T : PySem.W.nsIn K mainGlobals "row_in" = some (some (.ref Q1i)))
    (Q1P : K.lookup Q1i = some ⟨Q6l, Q6g, .func (PySem.W.fnOf "row_in" "row_in" (defArgs s_row_in) (defBody s_row_in) (defScope s_row_in) .none Q6e Q5X Q61 Q62 Q3e Q5U), Q6o⟩)
    (Q2p : PySem.W.codeIn K Q3e "row_in" = true)
    (Q24 : PySem.W.keepIn K (.ref Q1i) = true)
    (Q1g : PySem.W.nsIn K mainGlobals "book_in" = some (some (.ref Q0J)))
    (Q1o : K.lookup Q0J = some ⟨Q5J, Q5N, .func (PySem.W.fnOf "book_in" "book_in" (defArgs s_book_in) (defBody s_book_in) (defScope s_book_in) .none Q5T Q5t Q5L Q5p Q2S Q5v), Q5B⟩)
    (Q1s : PySem.W.codeIn K Q2S "book_in" = true)
    (Q1n : PySem.W.keepIn K (.ref Q0J) = true)
    (Q0Z : PySem.W.nsIn K mainGlobals "lines_of" = some (some (.ref Q0e)))
    (Q10 : K.lookup Q0e = some ⟨Q4H, Q4N, .func (PySem.W.fnOf "lines_of" "lines_of" (defArgs s_lines_of) (defBody s_lines_of) (defScope s_lines_of) .none Q5l Q4K Q51 Q56 Q2D Q4X), Q4L⟩)
    (Q0N : PySem.W.codeIn K Q2D "lines_of" = true)
    (Q0W : PySem.W.keepIn K (.ref Q0e) = true)
    (Q0E : PySem.W.nsIn K mainGlobals "read_book" = some (some (.ref QW)))
    (Q0z : K.lookup QW = some ⟨Q3Z, Q40, .func (PySem.W.fnOf "read_book" "read_book" (defArgs s_read_book) (defBody s_read_book) (defScope s_read_book) .none Q3L Q49 Q3S Q4m Q1K Q43), Q46⟩)
    (Q0q : PySem.W.codeIn K Q1K "read_book" = true)
    (Q0n : PySem.W.keepIn K (.ref QW) = true)
    (Q0s : PySem.W.nsIn K mainGlobals "_law_told" = some (some (.ref QO)))
    (Q0r : K.lookup QO = some ⟨Q44, Q4j, .func (PySem.W.fnOf "_law_told" "_law_told" (defArgs s__law_told) (defBody s__law_told) (defScope s__law_told) .none Q4h Q3B Q4p Q4r Q1F Q4e), Q3J⟩)
    (Q0G : PySem.W.codeIn K Q1F "_law_told" = true)
    (Q0F : PySem.W.keepIn K (.ref QO) = true)
    (Qt : PySem.W.nsIn K mainGlobals "_law_or_refused" = some (some (.ref Qa)))
    (Qh : K.lookup Qa = some ⟨Q2i, Q1C, .func (PySem.W.fnOf "_law_or_refused" "_law_or_refused" (defArgs s__law_or_refused) (defBody s__law_or_refused) (defScope s__law_or_refused) .none Q2k Q2r Q29 Q2g Q00 Q1B), Q1S⟩)
    (Qk : PySem.W.codeIn K Q00 "_law_or_refused" = true)
    (Qq : PySem.W.keepIn K (.ref Qa) = true)
    (QI : PySem.W.nsIn K mainGlobals "_law_number" = some (some (.ref QD)))
    (QG : K.lookup QD = some ⟨Q2X, Q39, .func (PySem.W.fnOf "_law_number" "_law_number" (defArgs s__law_number) (defBody s__law_number) (defScope s__law_number) .none Q30 Q36 Q38 Q3a Q1d Q2W), Q2V⟩)
    (QL : PySem.W.codeIn K Q1d "_law_number" = true)
    (QH : PySem.W.keepIn K (.ref QD) = true)
    (Q0w : PySem.W.nsIn K mainGlobals "_law_read" = some (some (.ref QR)))
    (Q0m : K.lookup QR = some ⟨Q4c, Q3R, .func (PySem.W.fnOf "_law_read" "_law_read" (defArgs s__law_read) (defBody s__law_read) (defScope s__law_read) .none Q3Y Q4t Q4k Q47 Q1y Q42), Q3V⟩)
    (Q0v : PySem.W.codeIn K Q1y "_law_read" = true)
    (Q0x : PySem.W.keepIn K (.ref QR) = true)
    (Q2P : PySem.W.nsIn K mainGlobals "law" = some (some (.ref Q5M)))
    (Q4o : K.lookup Q5M = some ⟨Q6w, Q6v, .func (PySem.W.fnOf "law" "law" (defArgs s_law) (defBody s_law) (defScope s_law) .none Q6i Q6p Q5W Q5Z Q3K Q5Y), Q6x⟩)
    (Q4y : PySem.W.codeIn K Q3K "law" = true)
    (Q3O : PySem.W.keepIn K (.ref Q5M) = true)
    (Q34 : PySem.W.nsIn K mainGlobals "MOST" = some (some (.int 9999 Q6u)))
    (Q3I : PySem.W.nsIn K mainGlobals "abs" = some none)
    (Q3E : PySem.W.nsIn K mainGlobals "all" = some none)
    (Q2Y : PySem.W.nsIn K mainGlobals "bool" = some none)
    (Q4v : PySem.W.nsIn K mainGlobals "int" = some none)
    (Q04 : PySem.W.nsIn K mainGlobals "isinstance" = some none)
    (Q4n : PySem.W.nsIn K mainGlobals "len" = some none)
    (Q4w : PySem.W.nsIn K mainGlobals "max" = some none)
    (Q2J : PySem.W.nsIn K mainGlobals "range" = some none)
    (Q1O : PySem.W.nsIn K mainGlobals "sorted" = some none)
    (Q3D : PySem.W.nsIn K mainGlobals "str" = some none)
    (Q2K : PySem.W.nsIn K mainGlobals "tuple" = some none)
    (Q4x : PySem.W.nsIn K mainGlobals "zip" = some none)
    : ∃ fd : FuncData, (∀ (s : Shared) (v : Value), BindsTo s fd ⟨[v], []⟩ [("script", v)]) ∧ ∀ base : Heap, K.In base → base.Ns mainGlobals mg → FnOk l.prog w K mg base (L2.CX l.prog w) 8 fa fd ["script"] (spLaw K) := by
  have e := hfa.symm.trans (PySem.W.mg_of X G Q2P)
  cases e
  have Q8 := fun_mk (st := s__law_draw) Q4 Q2 Q3
  have QB : Binds K _ P__law_draw [] := Q8.binds (ps := P__law_draw) fun _ _ _ _ _ _ us hl => match us, hl with | [_, _, _], _ => rfl
  have Q2G := fun_mk (st := s__law_pick) Q0j Q0k Q0t
  have Q4V : Binds K _ P__law_pick [] := Q2G.binds (ps := P__law_pick) fun _ _ _ _ _ _ us hl => match us, hl with | [_, _, _], _ => rfl
  have Q0c := fun_mk (st := s__law_drawn_rows) Qp Qn Qu
  have Q2v : Binds K _ P__law_drawn_rows [] := Q0c.binds (ps := P__law_drawn_rows) fun _ _ _ _ _ _ us hl => match us, hl with | [_, _, _, _, _], _ => rfl
  have Q0d := fun_mk (st := s__law_drawn_book) Qf Qs Qm
  have Q2x : Binds K _ P__law_drawn_book [] := Q0d.binds (ps := P__law_drawn_book) fun _ _ _ _ _ _ us hl => match us, hl with | [_, _, _, _], _ => rfl
  have Q2z := fun_mk (st := s__law_same) Q0y Q0u Q0C
  have Q57 : Binds K _ P__law_same [] := Q2z.binds (ps := P__law_same) fun _ _ _ _ _ _ us hl => match us, hl with | [_, _], _ => rfl
  have Q1t := fun_mk (st := s__law_spoilt) QK QN QM
  have Q3t : Binds K _ P__law_spoilt [] := Q1t.binds (ps := P__law_spoilt) fun _ _ _ _ _ _ us hl => match us, hl with | [_, _, _, _], _ => rfl
  have Q0b := fun_mk (st := s__law_row_spoilt) Qz Qj Qy
  have Q2u : Binds K _ P__law_row_spoilt [] := Q0b.binds (ps := P__law_row_spoilt) fun _ _ _ _ _ _ us hl => match us, hl with | [_, _, _, _], _ => rfl
  have Q3T := fun_mk (st := s_joined) Q1L Q2s Q2n
  have Q6r : Binds K _ P_joined [] := Q3T.binds (ps := P_joined) fun _ _ _ _ _ _ us hl => match us, hl with | [_], _ => rfl
  have Q2M := fun_mk (st := s_row_text) Q0U Q0M Q11
  have Q5A : Binds K _ P_row_text [] := Q2M.binds (ps := P_row_text) fun _ _ _ _ _ _ us hl => match us, hl with | [_], _ => rfl
  have Q25 := fun_mk (st := s_book_lines) Q02 Q03 Q09
  have Q3G : Binds K _ P_book_lines [] := Q25.binds (ps := P_book_lines) fun _ _ _ _ _ _ us hl => match us, hl with | [_], _ => rfl
  have Q2A := fun_mk (st := s_book_text) Q0D Q0l Q0o
  have Q4F : Binds K _ P_book_text [] := Q2A.binds (ps := P_book_text) fun _ _ _ _ _ _ us hl => match us, hl with | [_], _ => rfl
  have Q3d := fun_mk (st := s_is_name) Q1f Q1q Q1p
  have Q6j : Binds K _ P_is_name [] := Q3d.binds (ps := P_is_name) fun _ _ _ _ _ _ us hl => match us, hl with | [_], _ => rfl
  have Q2c := fun_mk (st := s_are_rising) Q06 Q08 Q07
  have Q3C : Binds K _ P_are_rising [] := Q2c.binds (ps := P_are_rising) fun _ _ _ _ _ _ us hl => match us, hl with | [_], _ => rfl
  have Q2N := fun_mk (st := s_is_whole) Q0O Q0V Q1b
  have Q5F : Binds K _ P_is_whole [] := Q2N.binds (ps := P_is_whole) fun _ _ _ _ _ _ us hl => match us, hl with | [_], _ => rfl
  have Q2L := fun_mk (st := s_is_value) Q19 Q13 Q15
  have Q5O : Binds K _ P_is_value [] := Q2L.binds (ps := P_is_value) fun _ _ _ _ _ _ us hl => match us, hl with | [_], _ => rfl
  have Q4d := fun_mk (st := s_is_row) Q2d Q2b Q21
  have Q6s : Binds K _ P_is_row [] := Q4d.binds (ps := P_is_row) fun _ _ _ _ _ _ us hl => match us, hl with | [_, _], _ => rfl
  have Q3i := fun_mk (st := s_is_book) Q1e Q1j Q1m
  have Q69 : Binds K _ P_is_book [] := Q3i.binds (ps := P_is_book) fun _ _ _ _ _ _ us hl => match us, hl with | [_], _ => rfl
  have Q2R := fun_mk (st := s_value_in) Q0X Q0T Q0R
  have Q5w : Binds K _ P_value_in [] := Q2R.binds (ps := P_value_in) fun _ _ _ _ _ _ us hl => match us, hl with | [_], _ => rfl
  have Q4A := fun_mk (st := s_row_in) Q1P Q2p Q24
  have Q6q : Binds K _ P_row_in [] := Q4A.binds (ps := P_row_in) fun _ _ _ _ _ _ us hl => match us, hl with | [_], _ => rfl
  have Q3f := fun_mk (st := s_book_in) Q1o Q1s Q1n
  have Q66 : Binds K _ P_book_in [] := Q3f.binds (ps := P_book_in) fun _ _ _ _ _ _ us hl => match us, hl with | [_], _ => rfl
  have Q2T := fun_mk (st := s_lines_of) Q10 Q0N Q0W
  have Q5H : Binds K _ P_lines_of [] := Q2T.binds (ps := P_lines_of) fun _ _ _ _ _ _ us hl => match us, hl with | [_], _ => rfl
  have Q2E := fun_mk (st := s_read_book) Q0z Q0q Q0n
  have Q58 : Binds K _ P_read_book [] := Q2E.binds (ps := P_read_book) fun _ _ _ _ _ _ us hl => match us, hl with | [_], _ => rfl
  have Q2F := fun_mk (st := s__law_told) Q0r Q0G Q0F
  have Q5a : Binds K _ P__law_told [] := Q2F.binds (ps := P__law_told) fun _ _ _ _ _ _ us hl => match us, hl with | [_], _ => rfl
  have Q0a := fun_mk (st := s__law_or_refused) Qh Qk Qq
  have Q2w : Binds K _ P__law_or_refused [] := Q0a.binds (ps := P__law_or_refused) fun _ _ _ _ _ _ us hl => match us, hl with | [_], _ => rfl
  have Q1u := fun_mk (st := s__law_number) QG QL QH
  have Q3v : Binds K _ P__law_number [] := Q1u.binds (ps := P__law_number) fun _ _ _ _ _ _ us hl => match us, hl with | [_], _ => rfl
  have Q2H := fun_mk (st := s__law_read) Q0m Q0v Q0x
  have Q4G : Binds K _ P__law_read [] := Q2H.binds (ps := P__law_read) fun _ _ _ _ _ _ us hl => match us, hl with | [_], _ => rfl
  have Q6t := fun_mk (st := s_law) Q4o Q4y Q3O
  have Q6y : Binds K _ P_law [] := Q6t.binds (ps := P_law) fun _ _ _ _ _ _ us hl => match us, hl with | [_], _ => rfl
  have T : Tx K mg Q0 QS Qc Q9 QT QC Qb Q1h Q0i QF QV Q0I QE Q0g Q0f Q1l Q0K Q0h Q1i Q0J Q0e QW QO Qa QD QR fa Q6 Q5 _ _ _ _ _ _ _ _ _ _ _ _ _ _ _ _ _ _ _ _ _ _ _ _ _ _ _ _ := ⟨PySem.W.mg_none_of X G Q3I,
    PySem.W.mg_none_of X G Q3E,
    PySem.W.mg_none_of X G Q2Y,
    PySem.W.mg_none_of X G Q4v,
    PySem.W.mg_none_of X G Q04,
    PySem.W.mg_none_of X G Q4n,
    PySem.W.mg_none_of X G Q4w,
    PySem.W.mg_none_of X G Q2J,
    PySem.W.mg_none_of X G Q1O,
    PySem.W.mg_none_of X G Q3D,
    PySem.W.mg_none_of X G Q2K,
    PySem.W.mg_none_of X G Q4x,
    PySem.W.mg_of X G Q34,
    ⟨PySem.W.mg_of X G Q2t, Q1X, Q2f, Q0L, Q0H, exm_own Q0L Q2l Q0H Q27⟩,
    ⟨PySem.W.mg_of X G Q0Y, Q14, Q17, QU, QP, exm_own QU Q16 QP Q12⟩,
    Q8,
    QB,
    PySem.W.mg_of X G Q1,
    Q2G,
    Q4V,
    PySem.W.mg_of X G Q0A,
    Q0c,
    Q2v,
    PySem.W.mg_of X G Qr,
    Q0d,
    Q2x,
    PySem.W.mg_of X G QA,
    Q2z,
    Q57,
    PySem.W.mg_of X G Q0p,
    Q1t,
    Q3t,
    PySem.W.mg_of X G QJ,
    Q0b,
    Q2u,
    PySem.W.mg_of X G Qo,
    Q3T,
    Q6r,
    PySem.W.mg_of X G Q2o,
    Q2M,
    Q5A,
    PySem.W.mg_of X G Q1a,
    Q25,
    Q3G,
    PySem.W.mg_of X G Q01,
    Q2A,
    Q4F,
    PySem.W.mg_of X G Q0B,
    Q3d,
    Q6j,
    PySem.W.mg_of X G Q1r,
    Q2c,
    Q3C,
    PySem.W.mg_of X G Q05,
    Q2N,
    Q5F,
    PySem.W.mg_of X G Q18,
    Q2L,
    Q5O,
    PySem.W.mg_of X G Q0P,
    Q4d,
    Q6s,
    PySem.W.mg_of X G Q1z,
    Q3i,
    Q69,
    PySem.W.mg_of X G Q1k,
    Q2R,
    Q5w,
    PySem.W.mg_of X G Q0S,
    Q4A,
    Q6q,
    PySem.W.mg_of X G Q1T,
    Q3f,
    Q66,
    PySem.W.mg_of X G Q1g,
    Q2T,
    Q5H,
    PySem.W.mg_of X G Q0Z,
    Q2E,
    Q58,
    PySem.W.mg_of X G Q0E,
    Q2F,
    Q5a,
    PySem.W.mg_of X G Q0s,
    Q0a,
    Q2w,
    PySem.W.mg_of X G Qt,
    Q1u,
    Q3v,
    PySem.W.mg_of X G QI,
    Q2H,
    Q4G,
    PySem.W.mg_of X G Q0w,
    Q6t,
    Q6y,
    PySem.W.mg_of X G Q2P⟩
  refine ⟨PySem.W.fnOf "law" "law" (defArgs s_law) (defBody s_law) (defScope s_law) .none Q6i Q6p Q5W Q5Z Q3K Q5Y, fun s v => .of_eq rfl, fun base _ _ => ?_⟩
  exact law_fn (fun fu => ok_law T fu) law_true
end Law
open PySem PySem.W PyProof.Rows in
set_option maxRecDepth 100000 in
set_option maxHeartbeats 0 in
theorem PySem.Challenge.cw_meetloft_k24_texts_of_books_holds : PySem.Challenge.rw_meetloft_k24_texts_of_books.Holds := by
  w_on; o_law; k_head; (case hw => w_witness2)
  k_fill
  refine L2.walk_of (l := PySem.Challenge.rw_meetloft_k24_texts_of_books) (n := 63) (k := 8) (x := "script") (CX := fun w => L2.CX PySem.Challenge.pw_meetloft_k24_texts_of_books w) (sp := fun w => Dv.spLaw _) rfl (by decide) rfl ⟨rfl, by decide, by decide⟩ (fun w h Y => PySem.W.kIn_of Y) ?F (fun w H a ns hl hO hS => Dv.sp_start hl hS) (fun w H s e s' z => Dv.no_exc z)
  case F =>
    intro w mg fa h KX G hmg
    refine' Law.all_mk KX G hmg ?Q2t ?Q1X ?Q2f ?Q0L ?Q0H ?Q2l ?Q27 ?Q0Y ?Q14 ?Q17 ?QU ?QP ?Q16 ?Q12 ?Q1 ?Q4 ?Q2 ?Q3 ?Q0A ?Q0j ?Q0k ?Q0t ?Qr ?Qp ?Qn ?Qu ?QA ?Qf ?Qs ?Qm ?Q0p ?Q0y ?Q0u ?Q0C ?QJ ?QK ?QN ?QM ?Qo ?Qz ?Qj ?Qy ?Q2o ?Q1L ?Q2s ?Q2n ?Q1a ?Q0U ?Q0M ?Q11 ?Q01 ?Q02 ?Q03 ?Q09 ?Q0B ?Q0D ?Q0l ?Q0o ?Q1r ?Q1f ?Q1q ?Q1p ?Q05 ?Q06 ?Q08 ?Q07 ?Q18 ?Q0O ?Q0V ?Q1b ?Q0P ?Q19 ?Q13 ?Q15 ?Q1z ?Q2d ?Q2b ?Q21 ?Q1k ?Q1e ?Q1j ?Q1m ?Q0S ?Q0X ?Q0T ?Q0R ?Q1T ?Q1P ?Q2p ?Q24 ?Q1g ?Q1o ?Q1s ?Q1n ?Q0Z ?Q10 ?Q0N ?Q0W ?Q0E ?Q0z ?Q0q ?Q0n ?Q0s ?Q0r ?Q0G ?Q0F ?Qt ?Qh ?Qk ?Qq ?QI ?QG ?QL ?QH ?Q0w ?Q0m ?Q0v ?Q0x ?Q2P ?Q4o ?Q4y ?Q3O ?Q34 ?Q3I ?Q3E ?Q2Y ?Q4v ?Q04 ?Q4n ?Q4w ?Q2J ?Q1O ?Q3D ?Q2K ?Q4x
    (case Q2t => k_is)
    (case Q1X => k_exc)
    (case Q2f | Q0L | Q0H | Q2l => k_is)
    (case Q27 => first | rfl | k_is)
    (case Q0Y => k_is)
    (case Q14 => k_exc)
    (case Q17 | QU | QP | Q16 => k_is)
    (case Q12 => first | rfl | k_is)
    (case Q1 | Q4 | Q2 | Q3 | Q0A | Q0j | Q0k | Q0t | Qr | Qp | Qn | Qu | QA | Qf | Qs | Qm | Q0p | Q0y | Q0u | Q0C | QJ | QK | QN | QM | Qo | Qz | Qj | Qy | Q2o | Q1L | Q2s | Q2n | Q1a | Q0U | Q0M | Q11 | Q01 | Q02 | Q03 | Q09 | Q0B | Q0D | Q0l | Q0o | Q1r | Q1f | Q1q | Q1p | Q05 | Q06 | Q08 | Q07 | Q18 | Q0O | Q0V | Q1b | Q0P | Q19 | Q13 | Q15 | Q1z | Q2d | Q2b | Q21 | Q1k | Q1e | Q1j | Q1m | Q0S | Q0X | Q0T | Q0R | Q1T | Q1P | Q2p | Q24 | Q1g | Q1o | Q1s | Q1n | Q0Z | Q10 | Q0N | Q0W | Q0E | Q0z | Q0q | Q0n | Q0s | Q0r | Q0G | Q0F | Qt | Qh | Qk | Qq | QI | QG | QL | QH | Q0w | Q0m | Q0v | Q0x | Q2P | Q4o | Q4y | Q3O | Q34 | Q3I | Q3E | Q2Y | Q4v | Q04 | Q4n | Q4w | Q2J | Q1O | Q3D | Q2K | Q4x => k_is)
