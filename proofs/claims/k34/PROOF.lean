import PyProof.Rows.All
import Wide.All
import OpenK.AllK
import Wide.FinOn
import HandS.ForMost
import HandS.ForExc
import HandS.CallSlots
import HandS.Walk
import HandS.Lambda
import KE.KeyNested
import HandS.TupAny
import HandS.Deep
import HandS.IsInst
import HandS.Zip
import HandS.SortInts
import HandS.TupSets
import HandS.SetFor
import HandS.Strs
import HandS.Dict
import HandS.DictComp
import HandS.Iter
import HandS.Sort
import PyProof.ListRange
import PyProof.ConsumeWalk
import PyProof.Rows.TupMore
import KE.KLam
import KE.SortKeyHeap
import PyProof.Cells
import PyProof.Rows.TupSub
import PyProof.Rows.SeqItemCall
import KE.KSortKey
import KE.KNestM
import HandS.EndTab
import HandS.Style
import KE.GoesSet
import HandS.Comp
import KE.KDictZip
import HandS.TupMul
import HandS.Flow
import KE.GoesEnum
import HandS.ReCall
import PyProof.SeqIndex
import HandS.DictTup
import HandS.Conv
import HandS.DictSubView
import KE.KDictList
import KE.KDictSum
import KE.GoesZip
import KE.GoesMore
import HandS.SetTxt0
import KE.KSortTupAny
import HandS.TupLe
import HandS.MakeKwOnly
import KE.SortData
import KE.KDictWalk
import KE.DataCmp
import KE.KUnpackStar
import PyProof.DictUpdate
import HandS.Zip0
import KE.KDictKeyed
import KE.DataMinKey
import PyProof.WalksMore
import PySem.Challenge.RW_meetloft_k34_amounts_by_hand
set_option Elab.async false
set_option linter.all false
set_option maxRecDepth 100000
noncomputable section
namespace Dv
open PySem L2
abbrev Pr := Str × List Int
def nkP (p : Pr) : NestedKey := .tup [.text p.1, .tup (p.2.map .num)]
inductive D where
  | non : D
  | bl (b : Bool) : D
  | int (i : Int) : D
  | str (x : Str) : D
  | tup (xs : List D) : D
  | lst (xs : List D) : D
  | scr (xs : List Int) : D
  | dct (kvs : List (Key × D)) : D
  | loc (n : Nat) : D
  | ty (n : String) : D
  | tux (xs : List D) : D
  | dtt (kvs : List (List Key × D)) : D
  | dpr (w : World) (kvs : List (Pr × D)) : D
  | adr (a : Addr) : D
inductive O where
  | lst (xs : List D)
  | dct (kvs : List (Key × D))
  | ins (c : Str) (fs : List (Str × D))
  | tbl (x q : Str)
  | dtt (kvs : List (List Key × D))
  | dpr (w : World) (kvs : List (Pr × D))
abbrev Store := List O
abbrev Env := List (Option D)
def KLst (K : PySem.W.Frag) (a : Addr) (xs : List V) : Prop := SqL K (fun _ => none) a xs
theorem rd_none {a : Addr} {u : HO} (h : Rd (fun _ => none) a u) : False := by
  rcases h with h | ⟨o, h⟩
  · cases h
  · cases h
theorem KLst.sq {K : PySem.W.Frag} {a : Addr} {xs : List V} (h : KLst K a xs) (H : Hp) : SqL K H a xs := by
  rcases h with h | h
  · exact (rd_none h).elim
  · exact .inr h
theorem KLst.len {K : PySem.W.Frag} {a : Addr} {xs : List V} (h : KLst K a xs) : xs.length ≤ sizeLine := by
  rcases h with h | ⟨o, its, n, _, _, _, _, hz, r⟩
  · exact (rd_none h).elim
  · rw [r.length, Array.length_toList]
    exact hz
structure Tb where
  loc : List Addr
  hid : List Addr
def Tb.off (T : Tb) (a : Addr) : Prop := a ∉ T.loc ∧ a ∉ T.hid
def LAt (K : PySem.W.Frag) (T : Tb) (H : Hp) (a : Addr) (xs : List V) : Prop := (Rd H a (.lst xs) ∧ T.off a) ∨ KLst K a xs
def DprH (w : World) (a : Addr) (xs : List (Pr × Addr × V)) (h : Heap) : Prop := (a == sysModules) = false ∧ xs.length ≤ sizeLine ∧ (xs.map (·.1)).Nodup ∧ ∃ (ys : List (Pr × Addr × Value)) (ob : Obj) (es : Array DictEntry) (ep : Nat),
  Paired (fun (x : Pr × Addr × V) (y : Pr × Addr × Value) => x.1 = y.1 ∧ x.2.1 = y.2.1 ∧ RelV x.2.2 y.2.2) xs ys ∧ h.get? a = some ob ∧ ob.ExactDict ∧ ob.data = .dict es ep ∧ es.toList = ys.map fun y => ⟨NestedKey.hash w (nkP y.1), .ref y.2.1, y.2.2⟩
def DprO (w : World) (a : Addr) (xs : List (Pr × Addr × V)) : HO := .ext (DprH w a xs)
def prD (p : Pr) : D := .tup [.str p.1, .tup (p.2.map .int)]
mutual
inductive Rep (K : PySem.W.Frag) (T : Tb) (H : Hp) : V → D → Prop
  | non : Rep K T H .non .non
  | bl (b : Bool) : Rep K T H (.bl b) (.bl b)
  | int (i : Int) : Rep K T H (.int i) (.int i)
  | str (x : Str) : Rep K T H (.str x) (.str x)
  | ty (x : String) : Rep K T H (.ty x) (.ty x)
  | tup {a : Addr} {xs : List V} {ds : List D} : H a = some (.tup xs) → T.off a → RepL K T H xs ds → Rep K T H (.ref a) (.tup ds)
  | lst {a : Addr} {xs : List V} {ds : List D} : H a = some (.lst xs) → T.off a → RepL K T H xs ds → Rep K T H (.ref a) (.lst ds)
  | scr {a : Addr} {ns : List Int} : LAt K T H a (ns.map V.int) → Rep K T H (.ref a) (.scr ns)
  | dct {a : Addr} {kvs : List (Key × V)} {kds : List (Key × D)} : Rd H a (.dK kvs) → T.off a → kvs.map (·.1) = kds.map (·.1) → RepL K T H (kvs.map (·.2)) (kds.map (·.2)) → Rep K T H (.ref a) (.dct kds)
  | loc {a : Addr} {n : Nat} : T.loc[n]? = some a → Rep K T H (.ref a) (.loc n)
  | tux {a : Addr} {o : Obj} {xs : List V} {ds : List D} : o.dict = none → H a = some (.frz o (.tup xs)) → T.off a → RepL K T H xs ds → Rep K T H (.ref a) (.tux ds)
  | dtt {a : Addr} {kvs : List (List Key × V)} {kds : List (List Key × D)} : Rd H a (.dT kvs) → T.off a → kvs.map (·.1) = kds.map (·.1) → RepL K T H (kvs.map (·.2)) (kds.map (·.2)) → Rep K T H (.ref a) (.dtt kds)
  | adr (a : Addr) : Rep K T H (.ref a) (.adr a)
  | dpr {a : Addr} {w : World} {xs : List (Pr × Addr × V)} {kds : List (Pr × D)} : H a = some (DprO w a xs) → T.off a → xs.map (·.1) = kds.map (·.1) → RepL K T H (xs.map fun x => V.ref x.2.1) (xs.map fun x => prD x.1) → RepL K T H (xs.map (·.2.2)) (kds.map (·.2)) → Rep K T H (.ref a) (.dpr w kds)
inductive RepL (K : PySem.W.Frag) (T : Tb) (H : Hp) : List V → List D → Prop
  | nil : RepL K T H [] []
  | cons {v : V} {vs : List V} {d : D} {ds : List D} : Rep K T H v d → RepL K T H vs ds → RepL K T H (v :: vs) (d :: ds)
end
structure Step (T : Tb) (H : Hp) (T' : Tb) (H' : Hp) : Prop where
  ext : ∃ more, T'.loc = T.loc ++ more
  hid : T'.hid = T.hid
  hkeep : ∀ b, b ∈ T.hid → H' b = H b
  keep : ∀ b u, T.off b → H b = some u → H' b = some u
  new : ∀ a, a ∈ T'.loc → a ∉ T.loc → H a = none
theorem rd_some {H : Hp} {a : Addr} {u : HO} (h : Rd H a u) : H a ≠ none := by
  rcases h with h | ⟨o, h⟩ <;> rw [h] <;> exact fun e => by cases e
theorem rd_keep {H H' : Hp} {a : Addr} {u : HO} (k : ∀ v, H a = some v → H' a = some v) (h : Rd H a u) : Rd H' a u := by
  rcases h with h | ⟨o, h⟩
  · exact .inl (k _ h)
  · exact .inr ⟨o, k _ h⟩
theorem Step.refl (T : Tb) (H : Hp) : Step T H T H := ⟨⟨[], by simp⟩, rfl, fun _ _ => rfl, fun _ _ _ h => h, fun _ h n => absurd h n⟩
theorem Step.out {T T' : Tb} {H H' : Hp} (s : Step T H T' H') {b : Addr} (h : H b ≠ none) (n : T.off b) : T'.off b := ⟨fun m => h (s.new b m n.1), by rw [s.hid]; exact n.2⟩
theorem Step.rd {T T' : Tb} {H H' : Hp} (s : Step T H T' H') {b : Addr} {u : HO} (h : Rd H b u) (n : T.off b) : Rd H' b u := rd_keep (fun v => s.keep b v n) h
theorem Step.trans {T T1 T2 : Tb} {H H1 H2 : Hp} (a : Step T H T1 H1) (b : Step T1 H1 T2 H2) : Step T H T2 H2 where
  ext := by
    obtain ⟨m1, e1⟩ := a.ext
    obtain ⟨m2, e2⟩ := b.ext
    exact ⟨m1 ++ m2, by rw [e2, e1, List.append_assoc]⟩
  hid := b.hid.trans a.hid
  hkeep := fun c hc => (b.hkeep c (by rw [a.hid]; exact hc)).trans (a.hkeep c hc)
  keep := fun c u n h => b.keep c u (a.out (by rw [h]; exact fun e => by cases e) n) (a.keep c u n h)
  new := fun c m n => by
    by_cases h : c ∈ T1.loc
    · exact a.new c h n
    · cases q : H c with
      | none => rfl
      | some o =>
        have h2 := b.new c m h
        by_cases hc : c ∈ T.hid
        · rw [a.hkeep c hc, q] at h2
          cases h2
        · rw [a.keep c o ⟨n, hc⟩ q] at h2
          cases h2
theorem Step.get {T T' : Tb} {H H' : Hp} (s : Step T H T' H') {n : Nat} {a : Addr} (h : T.loc[n]? = some a) : T'.loc[n]? = some a := by
  obtain ⟨m, e⟩ := s.ext
  rw [e, List.getElem?_append_left (List.getElem?_eq_some_iff.mp h).1]
  exact h
section
variable {K : PySem.W.Frag} {T T' : Tb} {H H' : Hp}
theorem LAt.sq {a : Addr} {xs : List V} (h : LAt K T H a xs) : SqL K H a xs := by
  rcases h with ⟨h, n⟩ | h
  · exact .inl h
  · exact h.sq H
def dO : List (Key × V) ⊕ List (List Key × V) → HO
  | .inl kvs => .dK kvs
  | .inr kvs => .dT kvs
structure Kp (T : Tb) (H : Hp) (T' : Tb) (H' : Hp) : Prop where
  sq : ∀ b u, (∃ xs, u = .tup xs ∨ u = .lst xs ∨ (∃ o, u = .frz o (.lst xs) ∨ u = .frz o (.tup xs)) ∨ ∃ f, u = .ext f) → T.off b → H b = some u → H' b = some u ∧ T'.off b
  dk : ∀ b kvs, T.off b → Rd H b (dO kvs) → Rd H' b (dO kvs) ∧ T'.off b
  get : ∀ (n : Nat) (a : Addr), T.loc[n]? = some a → T'.loc[n]? = some a
theorem some_ne {H : Hp} {a : Addr} {u : HO} (h : H a = some u) : H a ≠ none := by
  rw [h]
  exact fun e => by cases e
theorem Step.kp (s : Step T H T' H') : Kp T H T' H' := ⟨fun b u _ n h => ⟨s.keep b u n h, s.out (some_ne h) n⟩, fun b _ n h => ⟨s.rd h n, s.out (rd_some h) n⟩, fun _ _ h => s.get h⟩
structure Kf (T : Tb) (H : Hp) (T' : Tb) (H' : Hp) : Prop extends Kp T H T' H' where
  frz : ∀ b o u, T.off b → H b = some (.frz o u) → H' b = some (.frz o u) ∧ T'.off b
theorem Step.kf (s : Step T H T' H') : Kf T H T' H' := ⟨s.kp, fun b o u n h => ⟨s.keep b _ n h, s.out (some_ne h) n⟩⟩
theorem Kp.tup (s : Kp T H T' H') {b : Addr} {xs : List V} (n : T.off b) (h : H b = some (.tup xs)) : H' b = some (.tup xs) ∧ T'.off b := s.sq b _ ⟨xs, .inl rfl⟩ n h
theorem Kp.lst (s : Kp T H T' H') {b : Addr} {xs : List V} (n : T.off b) (h : H b = some (.lst xs)) : H' b = some (.lst xs) ∧ T'.off b := s.sq b _ ⟨xs, .inr (.inl rfl)⟩ n h
theorem LAt.kp {a : Addr} {xs : List V} (s : Kp T H T' H') (h : LAt K T H a xs) : LAt K T' H' a xs := by
  rcases h with ⟨h | ⟨o, h⟩, n⟩ | h
  · exact .inl ⟨.inl (s.lst n h).1, (s.lst n h).2⟩
  · have q := s.sq a _ ⟨xs, .inr (.inr (.inl ⟨o, .inl rfl⟩))⟩ n h
    exact .inl ⟨.inr ⟨o, q.1⟩, q.2⟩
  · exact .inr h
mutual
theorem Rep.kp (s : Kp T H T' H') : ∀ {v : V} {d : D}, Rep K T H v d → Rep K T' H' v d
  | _, _, .non => .non
  | _, _, .bl b => .bl b
  | _, _, .int i => .int i
  | _, _, .str x => .str x
  | _, _, .ty x => .ty x
  | _, _, .tup h n r => .tup (s.tup n h).1 (s.tup n h).2 (RepL.kp s r)
  | _, _, .lst h n r => .lst (s.lst n h).1 (s.lst n h).2 (RepL.kp s r)
  | _, _, .scr h => .scr (h.kp s)
  | _, _, .dct h n e r => .dct (s.dk _ (.inl _) n h).1 (s.dk _ (.inl _) n h).2 e (RepL.kp s r)
  | _, _, .loc h => .loc (s.get _ _ h)
  | _, _, .tux d h n r => .tux d (s.sq _ _ ⟨_, .inr (.inr (.inl ⟨_, .inr rfl⟩))⟩ n h).1 (s.sq _ _ ⟨_, .inr (.inr (.inl ⟨_, .inr rfl⟩))⟩ n h).2 (RepL.kp s r)
  | _, _, .dtt h n e r => .dtt (s.dk _ (.inr _) n h).1 (s.dk _ (.inr _) n h).2 e (RepL.kp s r)
  | _, _, .adr a => .adr a
  | _, _, .dpr h n e r q => .dpr (s.sq _ _ ⟨[], .inr (.inr (.inr ⟨_, rfl⟩))⟩ n h).1 (s.sq _ _ ⟨[], .inr (.inr (.inr ⟨_, rfl⟩))⟩ n h).2 e (RepL.kp s r) (RepL.kp s q)
theorem RepL.kp (s : Kp T H T' H') : ∀ {vs : List V} {ds : List D}, RepL K T H vs ds → RepL K T' H' vs ds
  | _, _, .nil => .nil
  | _, _, .cons h r => .cons (Rep.kp s h) (RepL.kp s r)
end
theorem Rep.step (s : Step T H T' H') {v : V} {d : D} (h : Rep K T H v d) : Rep K T' H' v d := h.kp s.kp
theorem RepL.step (s : Step T H T' H') {vs : List V} {ds : List D} (h : RepL K T H vs ds) : RepL K T' H' vs ds := h.kp s.kp
theorem RepL.length : ∀ {vs : List V} {ds : List D}, RepL K T H vs ds → vs.length = ds.length
  | _, _, .nil => rfl
  | _, _, .cons _ r => by rw [List.length_cons, List.length_cons, RepL.length r]
theorem RepL.get : ∀ {vs : List V} {ds : List D} {i : Nat} {d : D}, RepL K T H vs ds → ds[i]? = some d → ∃ v, vs[i]? = some v ∧ Rep K T H v d
  | _, _, i, _, .nil, e => by simp at e
  | _, _, 0, _, .cons r _, e => by simp at e; subst e; exact ⟨_, rfl, r⟩
  | _, _, i + 1, d, .cons _ t, e => by
    obtain ⟨v, h1, h2⟩ := RepL.get (i := i) (d := d) t (by simpa using e)
    exact ⟨v, by simpa using h1, h2⟩
theorem RepL.getV : ∀ {vs : List V} {ds : List D} {i : Nat} {v : V}, RepL K T H vs ds → vs[i]? = some v → ∃ d, ds[i]? = some d ∧ Rep K T H v d
  | _, _, i, _, .nil, e => by simp at e
  | _, _, 0, _, .cons r _, e => by simp at e; subst e; exact ⟨_, rfl, r⟩
  | _, _, i + 1, v, .cons _ t, e => by
    obtain ⟨d, h1, h2⟩ := RepL.getV (i := i) (v := v) t (by simpa using e)
    exact ⟨d, by simpa using h1, h2⟩
theorem RepL.append : ∀ {vs ws : List V} {ds es : List D}, RepL K T H vs ds → RepL K T H ws es → RepL K T H (vs ++ ws) (ds ++ es)
  | _, _, _, _, .nil, s => s
  | _, _, _, _, .cons r t, s => .cons r (RepL.append t s)
theorem RepL.set {v : V} {d : D} (r : Rep K T H v d) : ∀ {vs : List V} {ds : List D} (i : Nat), RepL K T H vs ds → RepL K T H (vs.set i v) (ds.set i d)
  | _, _, _, .nil => .nil
  | _, _, 0, .cons _ t => .cons r t
  | _, _, i + 1, .cons q t => .cons q (RepL.set r i t)
theorem RepL.take : ∀ {vs : List V} {ds : List D} (n : Nat), RepL K T H vs ds → RepL K T H (vs.take n) (ds.take n)
  | _, _, 0, _ => .nil
  | _, _, _ + 1, .nil => .nil
  | _, _, n + 1, .cons r t => .cons r (RepL.take n t)
theorem RepL.drop : ∀ {vs : List V} {ds : List D} (n : Nat), RepL K T H vs ds → RepL K T H (vs.drop n) (ds.drop n)
  | _, _, 0, r => r
  | _, _, _ + 1, .nil => .nil
  | _, _, n + 1, .cons _ t => RepL.drop n t
theorem RepL.rep {vs : List V} {ds : List D} (h : RepL K T H vs ds) : ∀ k : Nat, RepL K T H (List.replicate k vs).flatten (List.replicate k ds).flatten
  | 0 => .nil
  | k + 1 => by
    rw [List.replicate_succ, List.replicate_succ, List.flatten_cons, List.flatten_cons]
    exact RepL.append h (RepL.rep h k)
theorem RepL.ints : ∀ (ns : List Int), RepL K T H (ns.map V.int) (ns.map D.int)
  | [] => .nil
  | n :: ns => .cons (.int n) (RepL.ints ns)
theorem RepL.of_ints : ∀ {vs : List V} {ns : List Int}, RepL K T H vs (ns.map D.int) → vs = ns.map V.int
  | _, [], .nil => rfl
  | _, n :: ns, .cons (.int _) r => by rw [RepL.of_ints r]; rfl
theorem RepL.of_bls : ∀ {vs : List V} {ns : List Bool}, RepL K T H vs (ns.map D.bl) → vs = ns.map V.bl
  | _, [], .nil => rfl
  | _, n :: ns, .cons (.bl _) r => by rw [RepL.of_bls r]; rfl
end
def HLen (H : Hp) : Prop := ∀ a xs, (Rd H a (.lst xs) ∨ Rd H a (.tup xs)) → xs.length ≤ sizeLine
def TblAt (K : PySem.W.Frag) (mg : Str → Option Value) (x : Str) (a : Addr) : Prop :=
  ∃ (f c : Addr) (oc oc2 : Value) (od od2 : Option Addr) (fd : FuncData) (sl sl2 : Array (Option Value)) (vs : Array Value), mg x = some (.ref f) ∧ K.lookup f = some ⟨oc, od, .func fd, sl⟩ ∧ fd.code = .ref c ∧ K.lookup c = some ⟨oc2, od2, .fields vs, sl2⟩ ∧ vs[11]? = some (.ref a)
theorem TblAt.uniq {K : PySem.W.Frag} {mg : Str → Option Value} {x : Str} {a b : Addr} (h1 : TblAt K mg x a) (h2 : TblAt K mg x b) : a = b := by
  obtain ⟨f, c, _, _, _, _, fd, _, _, vs, p1, p2, p3, p4, p5⟩ := h1
  obtain ⟨f', c', _, _, _, _, fd', _, _, vs', q1, q2, q3, q4, q5⟩ := h2
  rw [p1] at q1
  cases q1
  rw [p2] at q2
  cases q2
  rw [p3] at q3
  cases q3
  rw [p4] at q4
  cases q4
  rw [p5] at q5
  cases q5
  rfl
def ORep (K : PySem.W.Frag) (mg : Str → Option Value) (T : Tb) (H : Hp) (a : Addr) : O → Prop
  | .lst ds => ∃ xs, H a = some (.lst xs) ∧ RepL K T H xs ds
  | .dct kds => ∃ kvs, H a = some (.dK kvs) ∧ kvs.map (·.1) = kds.map (·.1) ∧ RepL K T H (kvs.map (·.2)) (kds.map (·.2))
  | .ins c fs => ∃ C dx fvs, mg c = some (.ref C) ∧ H a = some (.ins C dx fvs) ∧ fvs.map (·.1) = fs.map (·.1) ∧ RepL K T H (fvs.map (·.2)) (fs.map (·.2))
  | .dtt kds => ∃ kvs, H a = some (.dT kvs) ∧ kvs.map (·.1) = kds.map (·.1) ∧ RepL K T H (kvs.map (·.2)) (kds.map (·.2))
  | .dpr w kds => ∃ xs, H a = some (DprO w a xs) ∧ xs.map (·.1) = kds.map (·.1) ∧ RepL K T H (xs.map fun x => V.ref x.2.1) (xs.map fun x => prD x.1) ∧ RepL K T H (xs.map (·.2.2)) (kds.map (·.2))
  | .tbl x q => TblAt K mg x a ∧ ∃ ps : Array Value, H a = some (.tbl ps) ∧ TriplesOk ps.toList ∧ ∀ (pos : Pos) (cv : Value), codeAmong pos ps.toList = some cv → ∃ c, cv = .ref c ∧ H c = some (LamX.CodeO c q) ∧ T.off c
structure Sim (K : PySem.W.Frag) (mg : Str → Option Value) (T : Tb) (S : Store) (H : Hp) : Prop where
  len : T.loc.length = S.length
  nd : (T.loc ++ T.hid).Nodup
  obj : ∀ (i : Nat) (a : Addr) (o : O), T.loc[i]? = some a → S[i]? = some o → ORep K mg T H a o
  hid' : ∀ a, a ∈ T.hid → H a ≠ none ∧ ∀ xs, H a ≠ some (.tup xs)
  hl : HLen H
section
variable {K : PySem.W.Frag} {mg : Str → Option Value} {T T' : Tb} {H H' : Hp} {S : Store}
theorem ORep.kp {a : Addr} {o : O} (s : Kp T H T' H') (e : H' a = H a) (h : ORep K mg T H a o) : ORep K mg T' H' a o := by
  cases o with
  | lst ds =>
    obtain ⟨xs, h1, h2⟩ := h
    exact ⟨xs, e.trans h1, h2.kp s⟩
  | dct kds =>
    obtain ⟨kvs, h1, h2, h3⟩ := h
    exact ⟨kvs, e.trans h1, h2, h3.kp s⟩
  | dtt kds =>
    obtain ⟨kvs, h1, h2, h3⟩ := h
    exact ⟨kvs, e.trans h1, h2, h3.kp s⟩
  | dpr w kds =>
    obtain ⟨xs, h1, h2, h3, h4⟩ := h
    exact ⟨xs, e.trans h1, h2, h3.kp s, h4.kp s⟩
  | ins c fs =>
    obtain ⟨C, dx, fvs, h1, h2, h3, h4⟩ := h
    exact ⟨C, dx, fvs, h1, e.trans h2, h3, h4.kp s⟩
  | tbl x q =>
    obtain ⟨hx, ps, h1, h2, h3⟩ := h
    refine ⟨hx, ps, e.trans h1, h2, fun pos cv hc => ?_⟩
    obtain ⟨c, rfl, h4, h5⟩ := h3 pos cv hc
    obtain ⟨h6, h7⟩ := s.sq c _ ⟨[], .inr (.inr (.inr ⟨_, rfl⟩))⟩ h5 h4
    exact ⟨c, rfl, h6, h7⟩
theorem ORep.step {a : Addr} {o : O} (s : Step T H T' H') (e : H' a = H a) (h : ORep K mg T H a o) : ORep K mg T' H' a o := h.kp s.kp e
theorem ORep.some {a : Addr} {o : O} (h : ORep K mg T H a o) : H a ≠ none := by
  cases o with
  | lst ds => obtain ⟨xs, h1, _⟩ := h; rw [h1]; exact fun e => by cases e
  | dct kds => obtain ⟨kvs, h1, _⟩ := h; rw [h1]; exact fun e => by cases e
  | dtt kds => obtain ⟨kvs, h1, _⟩ := h; rw [h1]; exact fun e => by cases e
  | dpr w kds => obtain ⟨kvs, h1, _⟩ := h; rw [h1]; exact fun e => by cases e
  | ins c fs => obtain ⟨C, dx, fvs, _, h2, _⟩ := h; rw [h2]; exact fun e => by cases e
  | tbl x q => obtain ⟨_, ps, h1, _⟩ := h; rw [h1]; exact fun e => by cases e
theorem Sim.hid (s : Sim K mg T S H) (a : Addr) (h : a ∈ T.hid) : H a ≠ none := (s.hid' a h).1
theorem Sim.ndl (s : Sim K mg T S H) : T.loc.Nodup := (List.nodup_append.mp s.nd).1
theorem Sim.apart (s : Sim K mg T S H) {a : Addr} (h : a ∈ T.loc) (h2 : a ∈ T.hid) : False := (List.nodup_append.mp s.nd).2.2 a h a h2 rfl
theorem Sim.there (s : Sim K mg T S H) {a : Addr} (h : a ∈ T.loc) : H a ≠ none := by
  obtain ⟨i, hi, e⟩ := List.mem_iff_getElem.mp h
  have h1 : T.loc[i]? = some a := by rw [List.getElem?_eq_getElem hi, e]
  have hi2 : i < S.length := by rw [← s.len]; exact hi
  exact (s.obj i a S[i] h1 (List.getElem?_eq_getElem hi2)).some
theorem Sim.off (s : Sim K mg T S H) {p : Addr} (hp : H p = none) : T.off p := ⟨fun h => s.there h hp, fun h => s.hid p h hp⟩
theorem Sim.grow (s : Sim K mg T S H) (st : Step T H T H') (e : ∀ a ∈ T.loc, H' a = H a) (hl : HLen H') : Sim K mg T S H' :=
  ⟨s.len, s.nd, fun i a o h1 h2 => (s.obj i a o h1 h2).step st (e a (List.mem_of_getElem? h1)), fun a h => by rw [st.hkeep a h]; exact s.hid' a h, hl⟩
theorem Sim.stepNew {p : Addr} {o : HO} (s : Sim K mg T S H) (hp : H p = none) : Step T H T (upd H p o) :=
  ⟨⟨[], by simp⟩, rfl, fun b hb => upd_ne fun e => s.hid b hb (by rw [e]; exact hp), fun b u _ h => by rw [upd_ne (ne_of_none h hp)]; exact h, fun _ h n => absurd h n⟩
theorem hlen_new {p : Addr} {o : HO} (h : HLen H) (ho : ∀ xs, (o = .lst xs ∨ o = .tup xs ∨ (∃ x, o = .frz x (.lst xs)) ∨ ∃ x, o = .frz x (.tup xs)) → xs.length ≤ sizeLine) : HLen (upd H p o) := fun a xs hr => by
  by_cases e : a = p
  · subst e
    refine ho xs ?_
    rcases hr with (q | ⟨x, q⟩) | (q | ⟨x, q⟩) <;> rw [upd_same] at q <;> cases q
    · exact .inl rfl
    · exact .inr (.inr (.inl ⟨x, rfl⟩))
    · exact .inr (.inl rfl)
    · exact .inr (.inr (.inr ⟨x, rfl⟩))
  · refine h a xs ?_
    rcases hr with (q | ⟨x, q⟩) | (q | ⟨x, q⟩) <;> rw [upd_ne e] at q
    · exact .inl (.inl q)
    · exact .inl (.inr ⟨x, q⟩)
    · exact .inr (.inl q)
    · exact .inr (.inr ⟨x, q⟩)
theorem hlen_lst {p : Addr} {xs : List V} (h : HLen H) (hx : xs.length ≤ sizeLine) : HLen (upd H p (.lst xs)) := hlen_new h fun ys q => by
  rcases q with q | q | ⟨x, q⟩ | ⟨x, q⟩ <;> cases q
  exact hx
theorem hlen_tup {p : Addr} {xs : List V} (h : HLen H) (hx : xs.length ≤ sizeLine) : HLen (upd H p (.tup xs)) := hlen_new h fun ys q => by
  rcases q with q | q | ⟨x, q⟩ | ⟨x, q⟩ <;> cases q
  exact hx
theorem hlen_oth {p : Addr} {o : HO} (h : HLen H) (ho : ∀ xs, o ≠ .lst xs ∧ o ≠ .tup xs ∧ (∀ x, o ≠ .frz x (.lst xs)) ∧ ∀ x, o ≠ .frz x (.tup xs)) : HLen (upd H p o) := hlen_new h fun ys q => by
  obtain ⟨h1, h2, h3, h4⟩ := ho ys
  rcases q with q | q | ⟨x, q⟩ | ⟨x, q⟩
  · exact absurd q h1
  · exact absurd q h2
  · exact absurd q (h3 x)
  · exact absurd q (h4 x)
theorem Sim.new {p : Addr} {o : HO} (s : Sim K mg T S H) (hp : H p = none) (hl : HLen (upd H p o)) : Sim K mg T S (upd H p o) :=
  s.grow (s.stepNew hp) (fun a ha => upd_ne fun e => s.there ha (by rw [e]; exact hp)) hl
theorem Sim.llen (s : Sim K mg T S H) {a : Addr} {xs : List V} (h : LAt K T H a xs) : xs.length ≤ sizeLine := by
  rcases h with ⟨h, _⟩ | h
  · exact s.hl a xs (.inl h)
  · exact h.len
def Tb.add (T : Tb) (p : Addr) : Tb := ⟨T.loc ++ [p], T.hid⟩
theorem Sim.stepAlloc {p : Addr} {o : HO} (s : Sim K mg T S H) (hp : H p = none) : Step T H (T.add p) (upd H p o) := ⟨⟨[p], rfl⟩, rfl, (s.stepNew hp).hkeep, (s.stepNew hp).keep, fun a h n => by
  rcases List.mem_append.mp h with h | h
  · exact absurd h n
  · rw [List.mem_singleton.mp h]; exact hp⟩
theorem Sim.alloc {p : Addr} {u : HO} {o : O} (s : Sim K mg T S H) (hp : H p = none) (hl : HLen (upd H p u)) (ho : ORep K mg (T.add p) (upd H p u) p o) : Sim K mg (T.add p) (S ++ [o]) (upd H p u) where
  len := by
    show (T.loc ++ [p]).length = _
    rw [List.length_append, List.length_append, s.len]; rfl
  nd := by
    have h0 := List.nodup_append.mp s.nd
    refine List.nodup_append.mpr ⟨List.nodup_append.mpr ⟨h0.1, by simp, fun a ha b hb e => (s.off hp).1 (by rw [← List.mem_singleton.mp hb, ← e]; exact ha)⟩, h0.2.1, fun a ha b hb e => ?_⟩
    rcases List.mem_append.mp ha with ha | ha
    · exact h0.2.2 a ha b hb e
    · exact (s.off hp).2 (by rw [← List.mem_singleton.mp ha, e]; exact hb)
  obj := fun i a o' h1 h2 => by
    have h1 : (T.loc ++ [p])[i]? = Option.some a := h1
    by_cases hi : i < T.loc.length
    · rw [List.getElem?_append_left hi] at h1
      rw [List.getElem?_append_left (by rw [← s.len]; exact hi)] at h2
      exact (s.obj i a o' h1 h2).step (s.stepAlloc hp) (upd_ne fun e => (s.off hp).1 (by rw [← e]; exact List.mem_of_getElem? h1))
    · rw [List.getElem?_append_right (by omega)] at h1
      rw [List.getElem?_append_right (by rw [← s.len]; omega)] at h2
      rw [← s.len] at h2
      cases k : i - T.loc.length with
      | zero =>
        rw [k] at h1 h2
        cases h1; cases h2
        exact ho
      | succ j =>
        rw [k] at h1
        cases h1
  hid' := fun a h => by rw [(s.stepNew hp).hkeep a h]; exact s.hid' a h
  hl := hl
theorem Sim.stepSet {p : Addr} {u : HO} (s : Sim K mg T S H) (hp : p ∈ T.loc) : Step T H T (upd H p u) := ⟨⟨[], by simp⟩, rfl, fun b hb => upd_ne fun e => s.apart hp (by rw [← e]; exact hb), fun b v n h => by
  rw [upd_ne fun e => n.1 (by rw [e]; exact hp)]
  exact h, fun _ h n => absurd h n⟩
theorem Sim.set {p : Addr} {u : HO} {o : O} {n : Nat} (s : Sim K mg T S H) (hp : T.loc[n]? = Option.some p) (hl : HLen (upd H p u)) (ho : ORep K mg T (upd H p u) p o) : Sim K mg T (S.set n o) (upd H p u) where
  len := by rw [List.length_set, s.len]
  nd := s.nd
  obj := fun i a o' h1 h2 => by
    by_cases hi : i = n
    · subst hi
      rw [hp] at h1; cases h1
      have hlt : i < S.length := by rw [← s.len]; exact (List.getElem?_eq_some_iff.mp hp).1
      rw [List.getElem?_set_self hlt] at h2
      cases h2
      exact ho
    · rw [List.getElem?_set_ne (Ne.symm hi)] at h2
      refine (s.obj i a o' h1 h2).step (s.stepSet (List.mem_of_getElem? hp)) (upd_ne fun e => hi ?_)
      subst e
      exact nd_ix s.ndl h1 hp
  hid' := fun a h => by rw [(s.stepSet (List.mem_of_getElem? hp)).hkeep a h]; exact s.hid' a h
  hl := hl
end
theorem Sim.tupOff {K : PySem.W.Frag} {mg : Str → Option Value} {T : Tb} {S : Store} {H : Hp} (s : Sim K mg T S H) {a : Addr} {xs : List V} (h : H a = some (.tup xs)) : T.off a := by
  refine ⟨fun z => ?_, fun z => (s.hid' a z).2 xs h⟩
  obtain ⟨i, hi, e⟩ := List.mem_iff_getElem.mp z
  have h1 : T.loc[i]? = some a := by rw [List.getElem?_eq_getElem hi, e]
  have hi2 : i < S.length := by rw [← s.len]; exact hi
  have o := s.obj i a S[i] h1 (List.getElem?_eq_getElem hi2)
  cases c : S[i] with
  | lst ds => rw [c] at o; obtain ⟨_, q, _⟩ := o; rw [h] at q; cases q
  | dct ds => rw [c] at o; obtain ⟨_, q, _⟩ := o; rw [h] at q; cases q
  | dtt ds => rw [c] at o; obtain ⟨_, q, _⟩ := o; rw [h] at q; cases q
  | dpr w ds => rw [c] at o; obtain ⟨_, q, _⟩ := o; rw [h] at q; cases q
  | ins c' fs => rw [c] at o; obtain ⟨_, _, _, _, q, _⟩ := o; rw [h] at q; cases q
  | tbl x q' => rw [c] at o; obtain ⟨_, _, q, _⟩ := o; rw [h] at q; cases q
def RepSt (K : PySem.W.Frag) (T : Tb) (H : Hp) (r : Env) (g : St) : Prop := r.length = g.length ∧ ∀ (i : Nat) (d : D), r[i]? = some (some d) → ∃ v, g[i]? = some (some v) ∧ Rep K T H v d
section
variable {K : PySem.W.Frag} {T T' : Tb} {H H' : Hp} {r : Env} {g : St}
theorem RepSt.kp (s : Kp T H T' H') (h : RepSt K T H r g) : RepSt K T' H' r g := ⟨h.1, fun i d e => by
  obtain ⟨v, h1, h2⟩ := h.2 i d e
  exact ⟨v, h1, h2.kp s⟩⟩
theorem RepSt.step (s : Step T H T' H') (h : RepSt K T H r g) : RepSt K T' H' r g := h.kp s.kp
theorem RepSt.set {i : Nat} {v : V} {d : D} (h : RepSt K T H r g) (hv : Rep K T H v d) : RepSt K T H (r.set i (some d)) (g.set i (some v)) := ⟨by rw [List.length_set, List.length_set, h.1], fun j e q => by
  by_cases hj : j = i
  · subst hj
    by_cases hl : j < r.length
    · rw [List.getElem?_set_self hl] at q
      cases q
      exact ⟨v, by rw [List.getElem?_set_self (by rw [← h.1]; exact hl)], hv⟩
    · rw [List.getElem?_eq_none (by rw [List.length_set]; omega)] at q
      cases q
  · rw [List.getElem?_set_ne (Ne.symm hj)] at q ⊢
    exact h.2 j e q⟩
theorem RepSt.forgetB {i : Nat} (h : RepSt K T H r g) : RepSt K T H (r.set i none) (g.set i none) := ⟨by rw [List.length_set, List.length_set, h.1], fun j e q => by
  by_cases hj : j = i
  · subst hj
    by_cases hl : j < r.length
    · rw [List.getElem?_set_self hl] at q
      cases q
    · rw [List.getElem?_eq_none (by rw [List.length_set]; omega)] at q
      cases q
  · rw [List.getElem?_set_ne (Ne.symm hj)] at q ⊢
    exact h.2 j e q⟩
end
inductive R (α : Type) where
  | ok (a : α) (S : Store) : R α
  | exc (n : Str) (S : Store) : R α
  | bad : R α
def R.bind {α β : Type} (x : R α) (f : α → Store → R β) : R β := match x with
  | .ok a S => f a S
  | .exc n S => .exc n S
  | .bad => .bad
theorem R.bind_ok {α β : Type} (a : α) (S : Store) (f : α → Store → R β) : (R.ok a S).bind f = f a S := rfl
abbrev EM := Env → Store → R D
abbrev AM := Env → Store → R (List D)
abbrev BM := Env → Store → R Bool
inductive Fl where
  | next | ret (d : D) | brk | cont
inductive Z where
  | ok (f : Fl) (r : Env) (S : Store) : Z
  | exc (n : Str) (r : Env) (S : Store) : Z
  | bad : Z
abbrev SM := Env → Store → Z
section
variable (K : PySem.W.Frag) (mg : Str → Option Value) (Wx : WX)
def Wish (n : Str) (g : St) (H : Hp) : Prop := ∀ cls, mg n = some cls → Wx cls none g H
def Out {α β : Type} (rel : Tb → Hp → β → α → Prop) (T : Tb) (g : St) (H : Hp) (x : R α) (Q : β → Hp → Prop) : Prop := match x with
  | .ok d S => ∀ T' H' v, Step T H T' H' → Sim K mg T' S H' → rel T' H' v d → Q v H'
  | .exc n S => ∀ T' H', Step T H T' H' → Sim K mg T' S H' → Wish mg Wx n g H'
  | .bad => False
def tD (m : EM) : TE := fun g H Q => ∃ T r S, RepSt K T H r g ∧ Sim K mg T S H ∧ Out K mg Wx (Rep K) T g H (m r S) Q
def tDA (m : AM) : TA := fun g H Q => ∃ T r S, RepSt K T H r g ∧ Sim K mg T S H ∧ Out K mg Wx (RepL K) T g H (m r S) Q
def tDT (m : BM) : TT := fun g H Q => ∃ T r S, RepSt K T H r g ∧ Sim K mg T S H ∧ Out K mg Wx (fun _ _ v d => v = d) T g H (m r S) Q
def ZOut (T : Tb) (H : Hp) (z : Z) (E : Ends) : Prop := match z with
  | .ok .next r' S' => ∀ T' H' g', Step T H T' H' → Sim K mg T' S' H' → RepSt K T' H' r' g' → E.nx g' H'
  | .ok (.ret d) r' S' => ∀ T' H' v, Step T H T' H' → Sim K mg T' S' H' → Rep K T' H' v d → E.rt v H'
  | .ok .brk r' S' => ∀ T' H' g', Step T H T' H' → Sim K mg T' S' H' → RepSt K T' H' r' g' → E.bk g' H'
  | .ok .cont r' S' => ∀ T' H' g', Step T H T' H' → Sim K mg T' S' H' → RepSt K T' H' r' g' → E.ct g' H'
  | .exc n r' S' => ∀ T' H' g', Step T H T' H' → Sim K mg T' S' H' → RepSt K T' H' r' g' → Wish mg Wx n g' H'
  | .bad => False
def tDS (m : SM) : TS := fun E g H => ∃ T r S, RepSt K T H r g ∧ Sim K mg T S H ∧ ZOut K mg Wx T H (m r S) E
end
end Dv
namespace Dv
open PySem L2
theorem Sim.newGet {K : PySem.W.Frag} {mg : Str → Option Value} {T : Tb} {S : Store} {H : Hp} (s : Sim K mg T S H) {p : Addr} : (T.add p).loc[S.length]? = some p := by
  show (T.loc ++ [p])[S.length]? = some p
  rw [← s.len, List.getElem?_append_right (Nat.le_refl _), Nat.sub_self]
  rfl
section
variable {X : Cx}
theorem pe_imp {e : Expr} {t t' : TE} (h : PE X e t) (i : ∀ g H Q, t' g H Q → t g H Q) : PE X e t' := ⟨fun pins s g H Q I w => h.run pins s g H Q I (i g H Q w)⟩
theorem pt_imp {e : Expr} {t t' : TT} (h : PT X e t) (i : ∀ g H Q, t' g H Q → t g H Q) : PT X e t' := ⟨fun pins s g H Q I w => h.run pins s g H Q I (i g H Q w)⟩
theorem pw_imp {e : Expr} {t t' : TT} (h : PW X e t) (i : ∀ g H Q, t' g H Q → t g H Q) : PW X e t' := ⟨fun wh pins s g H Q I w => h.run wh pins s g H Q I (i g H Q w)⟩
theorem pa_imp {es : List Expr} {t t' : TA} (h : PA X es t) (i : ∀ g H Q, t' g H Q → t g H Q) : PA X es t' := ⟨fun pos pins s g H Q I w => h.run pos pins s g H Q I (i g H Q w)⟩
theorem ps_imp {st : Stmt} {t t' : TS} (h : PS X st t) (i : ∀ E g H, t' E g H → t E g H) : PS X st t' := ⟨fun pins s g H E I w => h.run pins s g H E I (i E g H w)⟩
theorem pss_imp {st : List Stmt} {t t' : TS} (h : PSs X st t) (i : ∀ E g H, t' E g H → t E g H) : PSs X st t' := ⟨fun pins s g H E I w => h.run pins s g H E I (i E g H w)⟩
theorem pi_imp {tg e : Expr} {t t' : TI} (h : PI X tg e t) (i : ∀ g H R, t' g H R → t g H R) : PI X tg e t' := ⟨fun pins s g H R I w => h.run pins s g H R I (i g H R w)⟩
end
def ofO {α : Type} (o : Option α) (S : Store) : R α := match o with
  | some a => .ok a S
  | none => .bad
section
variable {K : PySem.W.Frag} {mg : Str → Option Value} {Wx : WX} {α β γ δ : Type} {relA : Tb → Hp → β → α → Prop} {relB : Tb → Hp → δ → γ → Prop} {T : Tb} {g : St} {H : Hp}
theorem Out.bind {x : R α} {f : α → Store → R γ} {Q : δ → Hp → Prop} {Q1 : β → Hp → Prop} (h : Out K mg Wx relB T g H (x.bind f) Q)
    (k : ∀ a S T1 H1 v, Step T H T1 H1 → Sim K mg T1 S H1 → relA T1 H1 v a → Out K mg Wx relB T1 g H1 (f a S) Q → Q1 v H1) : Out K mg Wx relA T g H x Q1 := by
  cases x with
  | bad => exact h
  | exc n S => exact h
  | ok a S =>
    intro T1 H1 v st sim rel
    refine k a S T1 H1 v st sim rel ?_
    have h : Out K mg Wx relB T g H (f a S) Q := h
    revert h
    cases f a S with
    | bad => exact fun h => h
    | exc n S2 => exact fun h T2 H2 st2 sim2 => h T2 H2 (st.trans st2) sim2
    | ok b S2 => exact fun h T2 H2 w st2 sim2 rel2 => h T2 H2 w (st.trans st2) sim2 rel2
theorem Out.use {o : Option γ} {S : Store} {Q : δ → Hp → Prop} {P : Prop} (h : Out K mg Wx relB T g H (ofO o S) Q)
    (k : ∀ b, o = some b → (∀ T' H' v, Step T H T' H' → Sim K mg T' S H' → relB T' H' v b → Q v H') → P) : P := by
  cases o with
  | none => exact h.elim
  | some b => exact k b rfl h
end
def mVar (i : Nat) : EM := fun r S => match r[i]? with
  | some (some d) => .ok d S
  | _ => .bad
def mC (d : D) : EM := fun _ S => .ok d S
section
variable {X : Cx} {Wx : WX}
theorem jv (i : Nat) {x : Str} {pos : Pos} (hN : X.N[i]? = some x := by rfl) (hv : Vis X.env.scope x := by first | exact Or.inl rfl | exact Or.inr (Or.inl rfl) | exact Or.inr (Or.inr rfl)) (hd : (x == ("__debug__" : Str)) = false := by decide)
    (hcd : (x == ("__classdict__" : Str)) = false := by decide) : PE X (.Name x pos) (tD X.K X.mg Wx (mVar i)) := by
  refine pe_imp (pe_var hN hv hd hcd) fun g H Q h => ?_
  obtain ⟨T, r, S, rs, sim, h⟩ := h
  unfold mVar at h
  split at h
  · rename_i d e
    obtain ⟨v, h1, h2⟩ := rs.2 i d e
    exact ⟨v, h1, h T H v (Step.refl T H) sim h2⟩
  · exact h.elim
theorem j_c {e : Expr} {v : V} {d : D} (h : PE X e (tC v)) (hd : ∀ T H, Rep X.K T H v d) : PE X e (tD X.K X.mg Wx (mC d)) := by
  refine pe_imp h fun g H Q h => ?_
  obtain ⟨T, r, S, rs, sim, h⟩ := h
  exact h T H v (Step.refl T H) sim (hd T H)
theorem j_int {i j pos} : PE X (.Constant (.int i) j pos) (tD X.K X.mg Wx (mC (.int i))) := j_c pe_int fun _ _ => .int i
theorem j_bl {i j pos} : PE X (.Constant (.bool i) j pos) (tD X.K X.mg Wx (mC (.bl i))) := j_c pe_bl fun _ _ => .bl i
theorem j_str {i j pos} : PE X (.Constant (.str i) j pos) (tD X.K X.mg Wx (mC (.str i))) := j_c pe_str fun _ _ => .str i
theorem j_non {j pos} : PE X (.Constant .none j pos) (tD X.K X.mg Wx (mC .non)) := j_c pe_non fun _ _ => .non
end
def mNil : AM := fun _ S => .ok [] S
def mCons (m : EM) (ms : AM) : AM := fun r S => (m r S).bind fun d S1 => (ms r S1).bind fun ds S2 => .ok (d :: ds) S2
def mTup (ms : AM) : EM := fun r S => (ms r S).bind fun ds S1 => if ds.length ≤ 100000 then .ok (.tup ds) S1 else .bad
def mLst (ms : AM) : EM := fun r S => (ms r S).bind fun ds S1 => if ds.length ≤ 100000 then .ok (.lst ds) S1 else .bad
def mNewL (ms : AM) : EM := fun r S => (ms r S).bind fun ds S1 => if ds.length ≤ 100000 then .ok (.loc S1.length) (S1 ++ [.lst ds]) else .bad
theorem sz5 {n : Nat} (h : n ≤ 100000) : n ≤ sizeLine := Nat.le_trans h (by decide)
section
variable {X : Cx} {Wx : WX} {e : Expr} {es : List Expr} {pos : Pos} {m : EM} {ms : AM}
theorem ja_nil : PA X [] (tDA X.K X.mg Wx mNil) := by
  refine pa_imp pa_nil fun g H Q h => ?_
  obtain ⟨T, r, S, rs, sim, h⟩ := h
  exact h T H [] (Step.refl T H) sim .nil
theorem ja_cons (ha : PE X e (tD X.K X.mg Wx m)) (hr : PA X es (tDA X.K X.mg Wx ms)) (hs : starEach (e :: es) X.env = (false, eval e X.env) :: starEach es X.env := by rfl) : PA X (e :: es) (tDA X.K X.mg Wx (mCons m ms)) := by
  refine pa_imp (pa_cons ha hr hs) fun g H Q h => ?_
  obtain ⟨T, r, S, rs, sim, h⟩ := h
  refine ⟨T, r, S, rs, sim, Out.bind h fun d S1 T1 H1 v st sim1 rel h1 => ?_⟩
  refine ⟨T1, r, S1, rs.step st, sim1, Out.bind h1 fun ds S2 T2 H2 vs st2 sim2 rel2 h2 => ?_⟩
  exact h2 T2 H2 (v :: vs) (Step.refl T2 H2) sim2 (.cons (rel.step st2) rel2)
theorem j_tup {x1} (h : PA X es (tDA X.K X.mg Wx ms)) : PE X (.Tuple es x1 pos) (tD X.K X.mg Wx (mTup ms)) := by
  refine pe_imp (pe_tup h) fun g H Q h => ?_
  obtain ⟨T, r, S, rs, sim, h⟩ := h
  refine ⟨T, r, S, rs, sim, Out.bind h fun ds S1 T1 H1 vs st sim1 rel h1 => ?_⟩
  split at h1
  · rename_i hz
    have hz' : vs.length ≤ sizeLine := by rw [rel.length]; exact sz5 hz
    refine ⟨hz', fun p hp => ?_⟩
    have st1 : Step T1 H1 T1 (upd H1 p (.tup vs)) := sim1.stepNew hp
    exact h1 T1 _ _ st1 (sim1.new hp (hlen_tup sim1.hl hz')) (.tup upd_same (sim1.off hp) (rel.step st1))
  · exact h1.elim
theorem j_lst (h : PA X es (tDA X.K X.mg Wx ms)) : PE X (.List es pos) (tD X.K X.mg Wx (mLst ms)) := by
  refine pe_imp (pe_lst h) fun g H Q h => ?_
  obtain ⟨T, r, S, rs, sim, h⟩ := h
  refine ⟨T, r, S, rs, sim, Out.bind h fun ds S1 T1 H1 vs st sim1 rel h1 => ?_⟩
  split at h1
  · rename_i hz
    have hz' : vs.length ≤ sizeLine := by rw [rel.length]; exact sz5 hz
    refine ⟨hz', fun p hp => ?_⟩
    have st1 : Step T1 H1 T1 (upd H1 p (.lst vs)) := sim1.stepNew hp
    exact h1 T1 _ _ st1 (sim1.new hp (hlen_lst sim1.hl hz')) (.lst upd_same (sim1.off hp) (rel.step st1))
  · exact h1.elim
theorem j_newL (h : PA X es (tDA X.K X.mg Wx ms)) : PE X (.List es pos) (tD X.K X.mg Wx (mNewL ms)) := by
  refine pe_imp (pe_lst h) fun g H Q h => ?_
  obtain ⟨T, r, S, rs, sim, h⟩ := h
  refine ⟨T, r, S, rs, sim, Out.bind h fun ds S1 T1 H1 vs st sim1 rel h1 => ?_⟩
  split at h1
  · rename_i hz
    have hz' : vs.length ≤ sizeLine := by rw [rel.length]; exact sz5 hz
    refine ⟨hz', fun p hp => ?_⟩
    have st1 : Step T1 H1 (T1.add p) (upd H1 p (.lst vs)) := sim1.stepAlloc hp
    refine h1 (T1.add p) _ _ st1 (sim1.alloc hp (hlen_lst sim1.hl hz') ⟨vs, upd_same, rel.step st1⟩) (.loc ?_)
    exact sim1.newGet
  · exact h1.elim
end
section
variable (K : PySem.W.Frag) (mg : Str → Option Value)
def POk (r : List V → Hp → VK → Prop) (f : List D → Store → Option D) : Prop := ∀ T S H vs ds d (Q : VK), Sim K mg T S H → RepL K T H vs ds → f ds S = some d →
  (∀ H' v, Step T H T H' → Sim K mg T S H' → Rep K T H' v d → Q v H') → r vs H Q
def POk2 (r : R2) (f : D → D → Store → Option D) : Prop := ∀ T S H x y a b d (Q : VK), Sim K mg T S H → Rep K T H x a → Rep K T H y b → f a b S = some d →
  (∀ H' v, Step T H T H' → Sim K mg T S H' → Rep K T H' v d → Q v H') → r x y H Q
end
def mBin (f : D → D → Store → Option D) (ma mb : EM) : EM := fun r S => (ma r S).bind fun a S1 => (mb r S1).bind fun b S2 => ofO (f a b S2) S2
def mCall (f : List D → Store → Option D) (ms : AM) : EM := fun r S => (ms r S).bind fun ds S1 => ofO (f ds S1) S1
section
variable {X : Cx} {Wx : WX} {a b : Expr} {es : List Expr} {pos : Pos} {ma mb : EM} {ms : AM}
theorem tOp_of {K : PySem.W.Frag} {mg : Str → Option Value} {r : R2} {f : D → D → Store → Option D} (hf : POk2 K mg r f) : ∀ g H Q, tD K mg Wx (mBin f ma mb) g H Q → tOp r (tD K mg Wx ma) (tD K mg Wx mb) g H Q := by
  intro g H Q h
  obtain ⟨T, r, S, rs, sim, h⟩ := h
  refine ⟨T, r, S, rs, sim, Out.bind h fun x S1 T1 H1 v st sim1 rel h1 => ?_⟩
  refine ⟨T1, r, S1, rs.step st, sim1, Out.bind h1 fun y S2 T2 H2 w st2 sim2 rel2 h2 => ?_⟩
  exact Out.use h2 fun d e k => hf T2 S2 H2 v w x y d Q sim2 (rel.step st2) rel2 e fun H' v' s' => k T2 H' v' s'
theorem j_bin {op : Operator} {r : R2} {f : D → D → Store → Option D} (ho : OpR X (binaryOp op) r) (hf : POk2 X.K X.mg r f) (ha : PE X a (tD X.K X.mg Wx ma)) (hb : PE X b (tD X.K X.mg Wx mb)) : PE X (.BinOp a op b pos) (tD X.K X.mg Wx (mBin f ma mb)) :=
  pe_imp (pe_op ho ha hb) (tOp_of hf)
theorem j_cmp {op : CmpOp} {r : R2} {f : D → D → Store → Option D} (ho : OpR X (compareOp op) r) (hf : POk2 X.K X.mg r f) (hm : behindInMarks op b = false) (ha : PE X a (tD X.K X.mg Wx ma)) (hb : PE X b (tD X.K X.mg Wx mb)) : PE X (.Compare a [op] [b] pos) (tD X.K X.mg Wx (mBin f ma mb)) :=
  pe_imp (pe_cmpR ho ha hb hm) (tOp_of hf)
theorem j_ix {r : R2} {f : D → D → Store → Option D} (ho : IxR X r) (hf : POk2 X.K X.mg r f) (hs : PlainIx b) (ha : PE X a (tD X.K X.mg Wx ma)) (hb : PE X b (tD X.K X.mg Wx mb)) : PE X (.Subscript a b pos) (tD X.K X.mg Wx (mBin f ma mb)) :=
  pe_imp (pe_ix ho ha hb hs) (tOp_of hf)
theorem tCB_of {K : PySem.W.Frag} {mg : Str → Option Value} {r : List V → Hp → VK → Prop} {f : List D → Store → Option D} (hf : POk K mg r f) : ∀ g H Q, tD K mg Wx (mCall f ms) g H Q → tCB r (tDA K mg Wx ms) g H Q := by
  intro g H Q h
  obtain ⟨T, r, S, rs, sim, h⟩ := h
  refine ⟨T, r, S, rs, sim, Out.bind h fun x S1 T1 H1 v st sim1 rel h1 => ?_⟩
  exact Out.use h1 fun d e k => hf T1 S1 H1 v x d Q sim1 rel e fun H' v' s' => k T1 H' v' s'
theorem j_callB {x : Str} {p : Pos} {e : Expr} {id : String} {r : List V → Hp → VK → Prop} {f : List D → Store → Option D} (hc : CallR X (.builtin id) r) (hf : POk X.K X.mg r f) (hg : Gl X x) (hm : X.mg x = none) (hv : bootBuiltins x = some (.builtin id)) (ha : PA X (e :: es) (tDA X.K X.mg Wx ms))
    (hn : x ≠ "__name__" := by decide) (hdb : (x == ("__debug__" : Str)) = false := by decide) (he : starEach (e :: es) X.env = (false, eval e X.env) :: starEach es X.env := by rfl) (hpl : (backTo pos (starEach es X.env)).any (·.1) = false := by rfl) :
    PE X (.Call (.Name x p) (e :: es) [] pos) (tD X.K X.mg Wx (mCall f ms)) := pe_imp (pe_callB hc hg hm hv ha hn hdb he hpl) (tCB_of hf)
theorem j_callT {x : Str} {p : Pos} {e : Expr} {id : String} {r : List V → Hp → VK → Prop} {f : List D → Store → Option D} (hc : CallR X (.type id) r) (hf : POk X.K X.mg r f) (hg : Gl X x) (hm : X.mg x = none) (hv : bootBuiltins x = some (.type id)) (ha : PA X (e :: es) (tDA X.K X.mg Wx ms))
    (hn : x ≠ "__name__" := by decide) (hdb : (x == ("__debug__" : Str)) = false := by decide) (he : starEach (e :: es) X.env = (false, eval e X.env) :: starEach es X.env := by rfl) (hpl : (backTo pos (starEach es X.env)).any (·.1) = false := by rfl) :
    PE X (.Call (.Name x p) (e :: es) [] pos) (tD X.K X.mg Wx (mCall f ms)) := pe_imp (pe_callTy hc hg hm hv ha hn hdb he hpl) (tCB_of hf)
end
end Dv
namespace Dv
open PySem L2
theorem Rep.bl_of {K : PySem.W.Frag} {T : Tb} {H : Hp} {v : V} {b : Bool} (h : Rep K T H v (.bl b)) : v = .bl b := by
  cases h
  rfl
theorem Rep.int_of {K : PySem.W.Frag} {T : Tb} {H : Hp} {v : V} {b : Int} (h : Rep K T H v (.int b)) : v = .int b := by
  cases h
  rfl
theorem Rep.str_of {K : PySem.W.Frag} {T : Tb} {H : Hp} {v : V} {b : Str} (h : Rep K T H v (.str b)) : v = .str b := by
  cases h
  rfl
def asB (d : D) : Option Bool := match d with
  | .bl b => some b
  | _ => none
def truD (d : D) (S : Store) : Option Bool := match d with
  | .non => some false
  | .bl b => some b
  | .int i => some (i != 0)
  | .str x => if x.length ≤ 100000 then some ((x.length : Int) != 0) else none
  | .tup xs => some (!xs.isEmpty)
  | .lst xs => some (!xs.isEmpty)
  | .scr ns => some (!ns.isEmpty)
  | .loc n => match S[n]? with
    | some (.lst xs) => some (!xs.isEmpty)
    | _ => none
  | _ => none
def mT (m : EM) : BM := fun r S => (m r S).bind fun d S1 => ofO (asB d) S1
def mTru (m : EM) : BM := fun r S => (m r S).bind fun d S1 => ofO (truD d S1) S1
def mNotT (m : BM) : BM := fun r S => (m r S).bind fun b S1 => .ok (!b) S1
def mAndT (ma mb : BM) : BM := fun r S => (ma r S).bind fun b S1 => if b = true then mb r S1 else .ok false S1
def mOrT (ma mb : BM) : BM := fun r S => (ma r S).bind fun b S1 => if b = true then .ok true S1 else mb r S1
def mAnd (ma mb : EM) : EM := fun r S => (ma r S).bind fun d S1 => match d with
  | .bl true => mb r S1
  | .bl false => .ok (.bl false) S1
  | _ => .bad
def mNot (ma : EM) : EM := fun r S => (ma r S).bind fun d S1 => match d with
  | .bl b => .ok (.bl (!b)) S1
  | _ => .bad
def mIf (mt : BM) (ma mb : EM) : EM := fun r S => (mt r S).bind fun b S1 => if b = true then ma r S1 else mb r S1
section
variable {X : Cx} {Wx : WX} {a b c : Expr} {rest : List Expr} {pos : Pos} {ma mb mc : EM} {ta tb : BM}
theorem isEmpty_rep {K : PySem.W.Frag} {T : Tb} {H : Hp} {xs : List V} {ds : List D} (h : RepL K T H xs ds) : (!xs.isEmpty) = !ds.isEmpty := by
  cases h <;> rfl
theorem truD_ok {K : PySem.W.Frag} {mg : Str → Option Value} {T : Tb} {S : Store} {H : Hp} {v : V} {d : D} {b : Bool} (sim : Sim K mg T S H) (h : Rep K T H v d) (e : truD d S = some b) : TruV K v H b := by
  cases h with
  | non => cases e; rfl
  | bl x => cases e; rfl
  | int i => cases e; rfl
  | str x =>
    have e : (if x.length ≤ 100000 then some ((x.length : Int) != 0) else none) = some b := e
    by_cases hz : x.length ≤ 100000
    · rw [if_pos hz] at e
      cases e
      exact ⟨sz5 hz, rfl⟩
    · rw [if_neg hz] at e
      cases e
  | tup h n r => cases e; exact .inr (.inl ⟨_, SqT.of h, (isEmpty_rep r).symm⟩)
  | lst h n r => cases e; exact .inl ⟨_, SqL.of h, (isEmpty_rep r).symm⟩
  | scr h =>
    cases e
    refine .inl ⟨_, h.sq, ?_⟩
    rename_i ns
    cases ns <;> rfl
  | dct h n q r => cases e
  | dtt h n q r => cases e
  | adr a => cases e
  | dpr h n q r r2 => cases e
  | ty x => cases e
  | tux _ _ _ _ => cases e
  | loc hn =>
    simp only [truD] at e
    split at e
    · rename_i xs q
      cases e
      obtain ⟨ys, h1, h2⟩ := sim.obj _ _ _ hn q
      exact .inl ⟨ys, .inl (.inl h1), (isEmpty_rep h2).symm⟩
    · cases e
theorem tTest_of {K : PySem.W.Frag} {mg : Str → Option Value} : ∀ g H Q, tDT K mg Wx (mT ma) g H Q → tTest (tD K mg Wx ma) g H Q := by
  intro g H Q h
  obtain ⟨T, r, S, rs, sim, h⟩ := h
  refine ⟨T, r, S, rs, sim, Out.bind h fun x S1 T1 H1 v st sim1 rel h1 => ?_⟩
  refine Out.use h1 fun k e q => ?_
  cases x <;> cases e
  rw [rel.bl_of]
  exact ⟨_, rfl, q T1 H1 _ (Step.refl T1 H1) sim1 rfl⟩
theorem jt_cmp {op : CmpOp} {r : R2} {f : D → D → Store → Option D} (ho : OpR X (compareOp op) r) (hf : POk2 X.K X.mg r f) (hm : behindInMarks op b = false) (ha : PE X a (tD X.K X.mg Wx ma)) (hb : PE X b (tD X.K X.mg Wx mb)) : PT X (.Compare a [op] [b] pos) (tDT X.K X.mg Wx (mT (mBin f ma mb))) :=
  pt_imp (pt_cmpR ho ha hb hm) fun g H Q h => by
    obtain ⟨T, r, S, rs, sim, h⟩ := tTest_of g H Q h
    exact tOp_of hf g H _ ⟨T, r, S, rs, sim, h⟩
theorem jt_tru (ha : PE X a (tD X.K X.mg Wx ma)) (he : ∀ whole, isTrue a X.env whole = (do let v ← whole; standAt a.pos; holding [v] (truthy v)) := by intro _; rfl) : PT X a (tDT X.K X.mg Wx (mTru ma)) :=
  pt_imp (pt_truth ha he) fun g H Q h => by
    obtain ⟨T, r, S, rs, sim, h⟩ := h
    refine ⟨T, r, S, rs, sim, Out.bind h fun x S1 T1 H1 v st sim1 rel h1 => ?_⟩
    exact Out.use h1 fun k e q => ⟨k, truD_ok sim1 rel e, q T1 H1 k (Step.refl T1 H1) sim1 rfl⟩
theorem jt_not (ha : PT X a (tDT X.K X.mg Wx ta)) : PT X (.UnaryOp .Not a pos) (tDT X.K X.mg Wx (mNotT ta)) :=
  pt_imp (pt_not ha) fun g H Q h => by
    obtain ⟨T, r, S, rs, sim, h⟩ := h
    refine ⟨T, r, S, rs, sim, Out.bind h fun x S1 T1 H1 v st sim1 rel h1 => ?_⟩
    subst rel
    exact h1 T1 H1 _ (Step.refl T1 H1) sim1 rfl
theorem jw_and1 (ha : PT X a (tDT X.K X.mg Wx ta)) : PW X (.BoolOp .And [a] pos) (tDT X.K X.mg Wx ta) := pw_and1 ha
theorem jw_or1 (ha : PT X a (tDT X.K X.mg Wx ta)) : PW X (.BoolOp .Or [a] pos) (tDT X.K X.mg Wx ta) := pw_or1 ha
theorem jw_and (ha : PT X a (tDT X.K X.mg Wx ta)) (hb : PW X (.BoolOp .And (b :: rest) pos) (tDT X.K X.mg Wx tb)) : PW X (.BoolOp .And (a :: b :: rest) pos) (tDT X.K X.mg Wx (mAndT ta tb)) :=
  pw_imp (pw_and ha hb) fun g H Q h => by
    obtain ⟨T, r, S, rs, sim, h⟩ := h
    refine ⟨T, r, S, rs, sim, Out.bind h fun x S1 T1 H1 v st sim1 rel h1 => ?_⟩
    subst rel
    cases v with
    | true => exact ⟨T1, r, S1, rs.step st, sim1, h1⟩
    | false => exact h1 T1 H1 _ (Step.refl T1 H1) sim1 rfl
theorem jw_or (ha : PT X a (tDT X.K X.mg Wx ta)) (hb : PW X (.BoolOp .Or (b :: rest) pos) (tDT X.K X.mg Wx tb)) : PW X (.BoolOp .Or (a :: b :: rest) pos) (tDT X.K X.mg Wx (mOrT ta tb)) :=
  pw_imp (pw_or ha hb) fun g H Q h => by
    obtain ⟨T, r, S, rs, sim, h⟩ := h
    refine ⟨T, r, S, rs, sim, Out.bind h fun x S1 T1 H1 v st sim1 rel h1 => ?_⟩
    subst rel
    cases v with
    | true => exact h1 T1 H1 _ (Step.refl T1 H1) sim1 rfl
    | false => exact ⟨T1, r, S1, rs.step st, sim1, h1⟩
theorem jw_pt {e : Expr} (h : PW X e (tDT X.K X.mg Wx ta)) : PT X e (tDT X.K X.mg Wx ta) := PW.pt h
theorem j_one {op} (h : PE X a (tD X.K X.mg Wx ma)) : PE X (.BoolOp op [a] pos) (tD X.K X.mg Wx ma) := pe_one h
theorem j_and (ha : PE X a (tD X.K X.mg Wx ma)) (hb : PE X (.BoolOp .And (b :: rest) pos) (tD X.K X.mg Wx mb)) : PE X (.BoolOp .And (a :: b :: rest) pos) (tD X.K X.mg Wx (mAnd ma mb)) :=
  pe_imp (pe_and ha hb) fun g H Q h => by
    obtain ⟨T, r, S, rs, sim, h⟩ := h
    refine ⟨T, r, S, rs, sim, Out.bind h fun x S1 T1 H1 v st sim1 rel h1 => ?_⟩
    cases x with
    | bl k =>
      rw [rel.bl_of]
      refine ⟨k, rfl, ?_⟩
      cases k with
      | true => exact ⟨T1, r, S1, rs.step st, sim1, h1⟩
      | false => exact h1 T1 H1 _ (Step.refl T1 H1) sim1 (.bl false)
    | _ => exact h1.elim
theorem j_not (ha : PE X a (tD X.K X.mg Wx ma)) : PE X (.UnaryOp .Not a pos) (tD X.K X.mg Wx (mNot ma)) :=
  pe_imp (pe_not ha) fun g H Q h => by
    obtain ⟨T, r, S, rs, sim, h⟩ := h
    refine ⟨T, r, S, rs, sim, Out.bind h fun x S1 T1 H1 v st sim1 rel h1 => ?_⟩
    cases x with
    | bl k =>
      rw [rel.bl_of]
      exact ⟨k, rfl, h1 T1 H1 _ (Step.refl T1 H1) sim1 (.bl (!k))⟩
    | _ => exact h1.elim
theorem j_if (hc : PT X c (tDT X.K X.mg Wx ta)) (ha : PE X a (tD X.K X.mg Wx ma)) (hb : PE X b (tD X.K X.mg Wx mb)) : PE X (.IfExp c a b pos) (tD X.K X.mg Wx (mIf ta ma mb)) :=
  pe_imp (pe_ifExp hc ha hb) fun g H Q h => by
    obtain ⟨T, r, S, rs, sim, h⟩ := h
    refine ⟨T, r, S, rs, sim, Out.bind h fun x S1 T1 H1 v st sim1 rel h1 => ?_⟩
    subst rel
    cases v with
    | true => exact ⟨T1, r, S1, rs.step st, sim1, h1⟩
    | false => exact ⟨T1, r, S1, rs.step st, sim1, h1⟩
end
end Dv
namespace Dv
open PySem L2
def bindS {α : Type} (x : R α) (r : Env) (f : α → Store → Z) : Z := match x with
  | .ok a S => f a S
  | .exc n S => .exc n r S
  | .bad => .bad
section
variable {K : PySem.W.Frag} {mg : Str → Option Value} {Wx : WX} {T T1 : Tb} {H H1 : Hp} {E : Ends} {α β : Type} {rel : Tb → Hp → β → α → Prop} {r : Env} {g : St}
theorem ZOut.step {z : Z} (st : Step T H T1 H1) (h : ZOut K mg Wx T H z E) : ZOut K mg Wx T1 H1 z E := by
  cases z with
  | bad => exact h
  | exc n r' S' => exact fun T' H' g' s => h T' H' g' (st.trans s)
  | ok f r' S' =>
    cases f with
    | next => exact fun T' H' g' s => h T' H' g' (st.trans s)
    | ret d => exact fun T' H' g' s => h T' H' g' (st.trans s)
    | brk => exact fun T' H' g' s => h T' H' g' (st.trans s)
    | cont => exact fun T' H' g' s => h T' H' g' (st.trans s)
theorem ZOut.bind {x : R α} {f : α → Store → Z} {Q : β → Hp → Prop} (h : ZOut K mg Wx T H (bindS x r f) E) (rs : RepSt K T H r g)
    (k : ∀ a S T1 H1 v, Step T H T1 H1 → Sim K mg T1 S H1 → rel T1 H1 v a → RepSt K T1 H1 r g → ZOut K mg Wx T1 H1 (f a S) E → Q v H1) : Out K mg Wx rel T g H x Q := by
  cases x with
  | bad => exact h
  | exc n S => exact fun T1 H1 st sim => h T1 H1 g st sim (rs.step st)
  | ok a S => exact fun T1 H1 v st sim rl => k a S T1 H1 v st sim rl (rs.step st) (ZOut.step st h)
theorem ZOut.nx {r : Env} {S : Store} {g : St} (h : ZOut K mg Wx T H (.ok .next r S) E) (sim : Sim K mg T S H) (rs : RepSt K T H r g) : E.nx g H := h T H g (Step.refl T H) sim rs
end
def sNil : SM := fun r S => .ok .next r S
def sSeq (a b : SM) : SM := fun r S => match a r S with
  | .ok .next r1 S1 => b r1 S1
  | z => z
def sSet (i : Nat) (m : EM) : SM := fun r S => bindS (m r S) r fun d S1 => .ok .next (r.set i (some d)) S1
def sDrop (m : EM) : SM := fun r S => bindS (m r S) r fun _ S1 => .ok .next r S1
def sRet (m : EM) : SM := fun r S => bindS (m r S) r fun d S1 => .ok (.ret d) r S1
def sIf (c : BM) (a b : SM) : SM := fun r S => bindS (c r S) r fun k S1 => if k = true then a r S1 else b r S1
def sAug (i : Nat) (f : Int → Int → Int) (m : EM) : SM := fun r S => match r[i]? with
  | some (some (.int a)) => bindS (m r S) r fun d S1 => match d with
    | .int b => .ok .next (r.set i (some (.int (f a b)))) S1
    | _ => .bad
  | _ => .bad
def sPar (i j : Nat) (ms : AM) : SM := fun r S => bindS (ms r S) r fun ds S1 => match ds with
  | [a, b] => .ok .next ((r.set i (some a)).set j (some b)) S1
  | _ => .bad
section
variable {X : Cx} {Wx : WX} {st : Stmt} {rest : List Stmt} {pos pos' : Pos} {e : Expr} {m : EM} {sa sb : SM} {c : BM}
theorem js_nil : PSs X [] (tDS X.K X.mg Wx sNil) := pss_imp pss_nil fun E g H h => by
  obtain ⟨T, r, S, rs, sim, h⟩ := h
  exact h.nx sim rs
theorem js_cons (h1 : PS X st (tDS X.K X.mg Wx sa)) (h2 : PSs X rest (tDS X.K X.mg Wx sb)) : PSs X (st :: rest) (tDS X.K X.mg Wx (sSeq sa sb)) := pss_imp (pss_cons h1 h2) fun E g H h => by
  obtain ⟨T, r, S, rs, sim, h⟩ := h
  refine ⟨T, r, S, rs, sim, ?_⟩
  unfold sSeq at h
  revert h
  cases sa r S with
  | bad => exact fun h => h
  | exc n r' S' => exact fun h => h
  | ok f r' S' =>
    cases f with
    | next => exact fun h T' H' g' s sim' rs' => ⟨T', r', S', rs', sim', ZOut.step s h⟩
    | ret d => exact fun h => h
    | brk => exact fun h => h
    | cont => exact fun h => h
theorem js_one (h1 : PS X st (tDS X.K X.mg Wx sa)) : PSs X [st] (tDS X.K X.mg Wx sa) := pss_one h1
theorem js_set {i : Nat} {x : Str} (hN : X.N.Nodup) (hi : X.N[i]? = some x) (hx : Loc X.env.scope x) (he : PE X e (tD X.K X.mg Wx m)) (hs : swapsWith e (some (.Name x pos')) pos.line X.env = pure false := by rfl)
    (hf : X.fn x = true ∨ X.env.scope.names.lookup x = some .local := by first | exact .inl rfl | exact .inr rfl | assumption) : PS X (.Assign [.Name x pos'] e pos) (tDS X.K X.mg Wx (sSet i m)) :=
  ps_imp (ps_set hN hi hx he hs hf) fun E g H h => by
    obtain ⟨T, r, S, rs, sim, h⟩ := h
    refine ⟨T, r, S, rs, sim, ZOut.bind h rs fun d S1 T1 H1 v st sim1 rel rs1 h1 => ?_⟩
    exact h1.nx sim1 (rs1.set rel)
theorem js_drop (he : PE X e (tD X.K X.mg Wx m)) (hs : swapsWith e none pos.line X.env = pure false := by rfl) : PS X (.Expr e pos) (tDS X.K X.mg Wx (sDrop m)) :=
  ps_imp (ps_expr he hs) fun E g H h => by
    obtain ⟨T, r, S, rs, sim, h⟩ := h
    refine ⟨T, r, S, rs, sim, ZOut.bind h rs fun d S1 T1 H1 v st sim1 rel rs1 h1 => ?_⟩
    exact h1.nx sim1 rs1
theorem js_ret (he : PE X e (tD X.K X.mg Wx m)) : PS X (.Return (some e) pos) (tDS X.K X.mg Wx (sRet m)) :=
  ps_imp (ps_ret he) fun E g H h => by
    obtain ⟨T, r, S, rs, sim, h⟩ := h
    refine ⟨T, r, S, rs, sim, ZOut.bind h rs fun d S1 T1 H1 v st sim1 rel rs1 h1 => ?_⟩
    exact h1 T1 H1 v (Step.refl T1 H1) sim1 rel
theorem js_if {t : Expr} {a b : List Stmt} (hc : PT X t (tDT X.K X.mg Wx c)) (ha : PSs X a (tDS X.K X.mg Wx sa)) (hb : PSs X b (tDS X.K X.mg Wx sb)) : PS X (.If t a b pos) (tDS X.K X.mg Wx (sIf c sa sb)) :=
  ps_imp (ps_if hc ha hb) fun E g H h => by
    obtain ⟨T, r, S, rs, sim, h⟩ := h
    refine ⟨T, r, S, rs, sim, ZOut.bind h rs fun d S1 T1 H1 v st sim1 rel rs1 h1 => ?_⟩
    subst rel
    cases v with
    | true => exact ⟨T1, r, S1, rs1, sim1, h1⟩
    | false => exact ⟨T1, r, S1, rs1, sim1, h1⟩
theorem js_par {i j : Nat} {x y : Str} {a b : Expr} {ms : AM} {px py pt : Pos} {kt k2 pt2} (hc : X.calm = true) (hN : X.N.Nodup) (hi : X.N[i]? = some x) (hj : X.N[j]? = some y) (hij : i ≠ j)
    (hx : X.env.scope.names.lookup x = some .local) (hy : X.env.scope.names.lookup y = some .local) (ha : PA X [a, b] (tDA X.K X.mg Wx ms))
    (hw : swappedStores [.Tuple [.Name x px, .Name y py] kt pt] (.Tuple [a, b] k2 pt2) X.env = pure (some [x, y]))
    (hs : swapsWithSole [.Tuple [.Name x px, .Name y py] kt pt] (.Tuple [a, b] k2 pt2) pos.line X.env = pure false := by rfl) :
    PS X (.Assign [.Tuple [.Name x px, .Name y py] kt pt] (.Tuple [a, b] k2 pt2) pos) (tDS X.K X.mg Wx (sPar i j ms)) :=
  ps_imp (ps_par hc hN hi hj hij hx hy ha hw hs) fun E g H h => by
    obtain ⟨T, r, S, rs, sim, h⟩ := h
    refine ⟨T, r, S, rs, sim, ZOut.bind h rs fun d S1 T1 H1 v st sim1 rel rs1 h1 => ?_⟩
    cases rel with
    | nil => exact h1.elim
    | cons q1 rel =>
      cases rel with
      | nil => exact h1.elim
      | cons q2 rel =>
        cases rel with
        | nil => exact ⟨_, _, rfl, h1.nx sim1 ((rs1.set q1).set q2)⟩
        | cons _ _ => exact h1.elim
end
def gD (K : PySem.W.Frag) (mg : Str → Option Value) (sl : List Nat) (gm : D → Env → Option Env) : TG := fun v g H Q => ∃ T r S d r', RepSt K T H r g ∧ Sim K mg T S H ∧ Rep K T H v d ∧ gm d r = some r' ∧
  ∀ g', RepSt K T H r' g' → g'.length = g.length → (∀ j, j ∉ sl → g'[j]? = g[j]?) → Q g' H
def gDs (K : PySem.W.Frag) (mg : Str → Option Value) (sl : List Nat) (gm : List D → Env → Option Env) : TGs := fun vs g H Q => ∃ T r S ds r', RepSt K T H r g ∧ Sim K mg T S H ∧ RepL K T H vs ds ∧ gm ds r = some r' ∧
  ∀ g', RepSt K T H r' g' → g'.length = g.length → (∀ j, j ∉ sl → g'[j]? = g[j]?) → Q g' H
def tgN (i : Nat) : D → Env → Option Env := fun d r => some (r.set i (some d))
def tgsNil : List D → Env → Option Env := fun ds r => match ds with
  | [] => some r
  | _ => none
def tgsCons (a : D → Env → Option Env) (b : List D → Env → Option Env) : List D → Env → Option Env := fun ds r => match ds with
  | d :: ds => (a d r).bind fun r1 => b ds r1
  | [] => none
def tgT (n : Nat) (b : List D → Env → Option Env) : D → Env → Option Env := fun d r => match d with
  | .tup ds => if ds.length = n then b ds r else none
  | _ => none
section
variable {X : Cx} {pos : Pos}
theorem pg_imp {tg : Expr} {t t' : TG} (h : PG X tg t) (i : ∀ v g H Q, t' v g H Q → t v g H Q) : PG X tg t' := ⟨fun pins s g H v u Q I r w => h.run pins s g H v u Q I r (i v g H Q w)⟩
theorem pgs_imp {tg : List Expr} {t t' : TGs} (h : PGs X tg t) (i : ∀ v g H Q, t' v g H Q → t v g H Q) : PGs X tg t' := ⟨fun pins s g H v u Q I r w => h.run pins s g H v u Q I r (i v g H Q w)⟩
theorem jg_name {i : Nat} {x : Str} (hN : X.N.Nodup) (hi : X.N[i]? = some x) (hx : Loc X.env.scope x) (hf : X.fn x = true ∨ X.env.scope.names.lookup x = some .local := by first | exact .inl rfl | exact .inr rfl | assumption) : PG X (.Name x pos) (gD X.K X.mg [i] (tgN i)) :=
  pg_imp (pg_name hN hi hx hf) fun v g H Q h => by
    obtain ⟨T, r, S, d, r', rs, sim, rep, e, k⟩ := h
    cases e
    exact k _ (rs.set rep) List.length_set fun j hj => List.getElem?_set_ne fun q => hj (by rw [q]; exact List.mem_singleton.mpr rfl)
theorem jgn (i : Nat) {x : Str} (hN : X.N.Nodup) (hi : X.N[i]? = some x := by rfl) (hx : Loc X.env.scope x := by first | exact Or.inl rfl | exact Or.inr rfl) (hf : X.fn x = true ∨ X.env.scope.names.lookup x = some .local := by first | exact .inl rfl | exact .inr rfl | assumption) : PG X (.Name x pos) (gD X.K X.mg [i] (tgN i)) := jg_name hN hi hx hf
theorem jgs_nil : PGs X [] (gDs X.K X.mg [] tgsNil) := pgs_imp pgs_nil fun v g H Q h => by
  obtain ⟨T, r, S, d, r', rs, sim, rep, e, k⟩ := h
  cases rep with
  | nil =>
    cases e
    exact ⟨rfl, k g rs rfl fun _ _ => rfl⟩
  | cons _ _ => cases e
theorem jgs_cons {e : Expr} {es : List Expr} {sl sl2 : List Nat} {a : D → Env → Option Env} {b : List D → Env → Option Env} (h1 : PG X e (gD X.K X.mg sl a)) (h2 : PGs X es (gDs X.K X.mg sl2 b))
    (hs : (assignEach (e :: es) X.env).map (·.2) = assign e X.env :: (assignEach es X.env).map (·.2) := by rfl) : PGs X (e :: es) (gDs X.K X.mg (sl ++ sl2) (tgsCons a b)) := pgs_imp (pgs_cons h1 h2 hs) fun v g H Q h => by
  obtain ⟨T, r, S, ds, r', rs, sim, rep, e, k⟩ := h
  cases rep with
  | nil => cases e
  | @cons x vs d ds q1 q2 =>
    have e : (a d r).bind (fun r1 => b ds r1) = some r' := e
    cases q : a d r with
    | none => rw [q] at e; cases e
    | some r1 =>
      rw [q] at e
      refine ⟨x, vs, rfl, T, r, S, d, r1, rs, sim, q1, q, fun g1 rs1 l1 k1 => ?_⟩
      refine ⟨T, r1, S, ds, r', rs1, sim, q2, e, fun g2 rs2 l2 k2 => k g2 rs2 (l2.trans l1) fun j hj => ?_⟩
      rw [List.mem_append, not_or] at hj
      exact (k2 j hj.2).trans (k1 j hj.1)
theorem jg_tup {es : List Expr} {k n : Nat} {sl : List Nat} {b : List D → Env → Option Env} (hc : X.calm = true) (h : PGs X es (gDs X.K X.mg sl b))
    (hn : (assignEach es X.env).length = n := by rfl) (hst : (assignEach es X.env).findIdx? (·.1) = none := by rfl) : PG X (.Tuple es k pos) (gD X.K X.mg sl (tgT n b)) := pg_imp (pg_tup hc h hn hst) fun v g H Q h => by
  obtain ⟨T, r, S, d, r', rs, sim, rep, e, k⟩ := h
  cases rep with
  | tup h1 h2 h3 =>
    simp only [tgT] at e
    split at e
    · rename_i hl
      exact ⟨_, _, rfl, SqT.of h1, by rw [h3.length]; exact hl, T, r, S, _, r', rs, sim, h3, e, k⟩
    · cases e
  | _ => cases e
end
def sAsg (m : EM) (gm : D → Env → Option Env) : SM := fun r S => bindS (m r S) r fun d S1 => match gm d r with
  | some r1 => .ok .next r1 S1
  | none => .bad
section
variable {X : Cx} {Wx : WX} {pos : Pos} {tg e : Expr} {m : EM} {sl : List Nat} {gm : D → Env → Option Env}
theorem js_asg (he : PE X e (tD X.K X.mg Wx m)) (hg : PG X tg (gD X.K X.mg sl gm)) (hs : swapsWithSole [tg] e pos.line X.env = pure false := by rfl) (hw : swappedStores [tg] e X.env = pure none := by rfl)
    (h1 : (assignEach [tg] X.env).map (·.2) = [assign tg X.env] := by rfl) : PS X (.Assign [tg] e pos) (tDS X.K X.mg Wx (sAsg m gm)) :=
  ps_imp (ps_asg he hg hs hw h1) fun E g H h => by
    obtain ⟨T, r, S, rs, sim, h⟩ := h
    refine ⟨T, r, S, rs, sim, ZOut.bind h rs fun d S1 T1 H1 v st sim1 rel rs1 h1 => ?_⟩
    split at h1
    · rename_i r1 q
      exact ⟨T1, r, S1, d, r1, rs1, sim1, rel, q, fun g' rs' _ _ => h1.nx sim1 rs'⟩
    · exact h1.elim
end
def sWhile (c : BM) (b : SM) : Nat → SM
  | 0 => fun _ _ => .bad
  | n + 1 => fun r S => bindS (c r S) r fun k S1 => if k = true then (match b r S1 with
      | .ok .next r2 S2 => sWhile c b n r2 S2
      | .ok .cont r2 S2 => sWhile c b n r2 S2
      | .ok .brk r2 S2 => .ok .next r2 S2
      | .ok (.ret d) r2 S2 => .ok (.ret d) r2 S2
      | .exc x r2 S2 => .exc x r2 S2
      | .bad => .bad) else .ok .next r S1
section
variable {X : Cx} {Wx : WX} {pos : Pos} {c : BM} {sb : SM}
end
def Walks (K : PySem.W.Frag) (mg : Str → Option Value) (T : Tb) (H : Hp) (J : It) (ds : List D) : Prop := ∀ T' S' H', Kf T H T' H' → Sim K mg T' S' H' → J.stop ds.length H' ∧
  ∀ (i : Nat) (d : D), ds[i]? = some d → J.go i H' ∧ ∀ x H2, J.yld i H' x H2 → Step T' H' T' H2 ∧ Sim K mg T' S' H2 ∧ Rep K T' H2 x d
abbrev IM := Env → Store → R (List D)
def iD (K : PySem.W.Frag) (mg : Str → Option Value) (Wx : WX) (mi : IM) : TI := fun g H Q => ∃ T r S, RepSt K T H r g ∧ Sim K mg T S H ∧
  Out K mg Wx (fun T' H' (J : It) ds => Walks K mg T' H' J ds ∧ ds.length ≤ sizeLine) T g H (mi r S) Q
theorem Kp.trans {T T1 T2 : Tb} {H H1 H2 : Hp} (a : Kp T H T1 H1) (b : Kp T1 H1 T2 H2) : Kp T H T2 H2 := ⟨fun c u k n h => b.sq c u k (a.sq c u k n h).2 (a.sq c u k n h).1, fun c u n h => b.dk c u (a.dk c u n h).2 (a.dk c u n h).1, fun n c h => b.get n c (a.get n c h)⟩
theorem Kf.trans {T T1 T2 : Tb} {H H1 H2 : Hp} (a : Kf T H T1 H1) (b : Kf T1 H1 T2 H2) : Kf T H T2 H2 := ⟨a.toKp.trans b.toKp, fun c o u n h => b.frz c o u (a.frz c o u n h).2 (a.frz c o u n h).1⟩
theorem Walks.kp {K : PySem.W.Frag} {mg : Str → Option Value} {T T1 : Tb} {H H1 : Hp} {J : It} {ds : List D} (st : Kf T H T1 H1) (h : Walks K mg T H J ds) : Walks K mg T1 H1 J ds := fun T' S' H' s sim => h T' S' H' (st.trans s) sim
def sLoop (gm : D → Env → Option Env) (b : SM) : List D → SM
  | [] => fun r S => .ok .next r S
  | d :: ds => fun r S => match gm d r with
    | none => .bad
    | some r1 => match b r1 S with
      | .ok .next r2 S2 => sLoop gm b ds r2 S2
      | .ok .cont r2 S2 => sLoop gm b ds r2 S2
      | .ok .brk r2 S2 => .ok .next r2 S2
      | .ok (.ret d) r2 S2 => .ok (.ret d) r2 S2
      | .exc x r2 S2 => .exc x r2 S2
      | .bad => .bad
def sFor (mi : IM) (gm : D → Env → Option Env) (b : SM) : SM := fun r S => bindS (mi r S) r fun ds S1 => sLoop gm b ds r S1
section
variable {X : Cx} {Wx : WX} {pos : Pos} {tg iter : Expr} {mi : IM} {sl : List Nat} {gm : D → Env → Option Env} {sb : SM}
theorem js_for {body : List Stmt} (hp : PassesOwn (model X.prog X.w) X.A X.env X.xe) (hc : X.calm = true) (hi : PI X tg iter (iD X.K X.mg Wx mi)) (hg : PG X tg (gD X.K X.mg sl gm)) (hb : PSs X body (tDS X.K X.mg Wx sb))
    (hs : ∀ x, foldedSetIterable iter X.env x = pure x := by intro _; rfl) : PS X (.For tg iter body [] pos) (tDS X.K X.mg Wx (sFor mi gm sb)) :=
  ps_imp (ps_for hp hc hi hg hb hs) fun E g H h => by
    obtain ⟨T, r, S, rs, sim, h⟩ := h
    refine ⟨T, r, S, rs, sim, ZOut.bind h rs fun ds S1 T1 H1 J st sim1 rel rs1 h1 => ?_⟩
    obtain ⟨wk, hz⟩ := rel
    refine ⟨fun i m g H => ∃ T r S, m = ds.length - i ∧ i ≤ ds.length ∧ Step T1 H1 T H ∧ RepSt X.K T H r g ∧ Sim X.K X.mg T S H ∧ ZOut X.K X.mg Wx T H (sLoop gm sb (ds.drop i) r S) E, ⟨ds.length, T1, r, S1, by simp, Nat.zero_le _, Step.refl T1 H1, rs1, sim1, h1⟩, ?_⟩
    rintro i m g2 H2 ⟨T2, r2, S2, rfl, hi2, st2, rs2, sim2, h2⟩
    obtain ⟨stop, go⟩ := wk T2 S2 H2 st2.kf sim2
    by_cases hlt : i < ds.length
    · have ed : ds.drop i = ds[i] :: ds.drop (i + 1) := List.drop_eq_getElem_cons hlt
      rw [ed] at h2
      obtain ⟨g1, yl⟩ := go i ds[i] (List.getElem?_eq_getElem hlt)
      refine .inr ⟨g1, fun g H => ∃ T r S, Step T1 H1 T H ∧ RepSt X.K T H r g ∧ Sim X.K X.mg T S H ∧ ZOut X.K X.mg Wx T H (sLoop gm sb (ds.drop (i + 1)) r S) E, fun g3 H3 q => ?_, fun x H3 y => ?_⟩
      · obtain ⟨T3, r3, S3, q1, q2, q3, q4⟩ := q
        exact ⟨ds.length - (i + 1), by omega, T3, r3, S3, rfl, hlt, q1, q2, q3, q4⟩
      · obtain ⟨st3, sim3, rep3⟩ := yl x H3 y
        have h3 := ZOut.step st3 h2
        simp only [sLoop] at h3
        split at h3
        · exact h3.elim
        · rename_i r3 eg
          refine ⟨T2, r2, S2, ds[i], r3, rs2.step st3, sim3, rep3, eg, fun g4 rs4 _ _ => ⟨T2, r3, S2, rs4, sim3, ?_⟩⟩
          revert h3
          cases sb r3 S2 with
          | bad => exact fun h => h
          | exc n r' S' => exact fun h => h
          | ok f r' S' =>
            cases f with
            | next => exact fun h T' H' g' s sim' rs' => ⟨T', r', S', (st2.trans st3).trans s, rs', sim', ZOut.step s h⟩
            | cont => exact fun h T' H' g' s sim' rs' => ⟨T', r', S', (st2.trans st3).trans s, rs', sim', ZOut.step s h⟩
            | ret d => exact fun h => h
            | brk => exact fun h => h
    · have e : i = ds.length := by omega
      subst e
      rw [List.drop_length] at h2
      exact .inl ⟨stop, h2.nx sim2 rs2⟩
end
end Dv
namespace Dv
open PySem L2
def chD (c : Nat) : D := .str ⟨#[c]⟩
def seqD (d : D) : Option (List D) := match d with
  | .lst xs => some xs
  | .tup xs => some xs
  | .scr ns => some (ns.map D.int)
  | .str x => if x.cps.size ≤ 100000 then some (x.cps.toList.map chD) else none
  | _ => none
def mIter (m : EM) : IM := fun r S => (m r S).bind fun d S1 => ofO (seqD d) S1
def rng (lo : Int) (n : Nat) : List D := (List.range n).map fun i => D.int (lo + (i : Nat))
def rng1 (ds : List D) : Option (List D) := match ds with
  | [.int j] => if -100000 ≤ j ∧ j ≤ 100000 then some (rng 0 j.toNat) else none
  | _ => none
def mRng1 (ms : AM) : IM := fun r S => (ms r S).bind fun ds S1 => ofO (rng1 ds) S1
def iSq (K : PySem.W.Frag) (tl : TE) : TI := fun g H Q => tl g H fun x H1 => (∃ a xs, x = .ref a ∧ SqL K H1 a xs ∧ Q (Itl K a) H1) ∨ (∃ a xs, x = .ref a ∧ SqT K H1 a xs ∧ Q (Itt K a) H1) ∨ ∃ z, x = .str z ∧ Q (Its z) H1
theorem pi_sq {X : Cx} {tg l : Expr} {tl : TE} (hl : PE X l tl) : PI X tg l (iSq X.K tl) := by
  refine ⟨fun pins s g H Q I h => thn (hl.run pins s g H _ I h) fun v s1 hv => ?_⟩
  obtain ⟨x, H1, I1, r1, q1⟩ := hv
  rcases q1 with ⟨a, xs, ex, hq, q⟩ | ⟨a, xs, ex, hq, q⟩ | ⟨z, ex, q⟩
  · subst ex
    cases r1
    obtain ⟨its, rv, pl, _⟩ := I1.list hq
    exact wpAny_pyIter_list pl.isList (pi_one (tk := s1.toks) I1 _ (turn_list a _) ⟨_, Heap.get?_push_size _ rfl, rfl, rfl⟩ q)
  · subst ex
    cases r1
    obtain ⟨its, rv, pl, _⟩ := I1.tuple hq
    exact wpAny_pyIter_tuple (show s1.heap.IsTuple a its.toArray from pl) (pi_one (tk := s1.toks) I1 _ (turn_tuple a _) ⟨_, Heap.get?_push_size _ rfl, rfl, rfl⟩ q)
  · subst ex
    obtain ⟨t, rfl⟩ := r1
    by_cases ha : z.cps.all (· < 128) = true
    · exact wpAny_pyIter_ascii ha (pi_one (tk := s1.toks) I1 _ (turn_str _ z t "str_ascii_iterator" (.inl rfl)) ⟨_, Heap.get?_push_size _ rfl, rfl, rfl⟩ q)
    · exact wpAny_pyIter_wide (by simpa using ha) (pi_one (tk := s1.toks) I1 _ (turn_str _ z t "str_iterator" (.inr rfl)) ⟨_, Heap.get?_push_size _ rfl, rfl, rfl⟩ q)
section
variable {K : PySem.W.Frag} {mg : Str → Option Value} {T : Tb} {H : Hp}
theorem walks_lst {a : Addr} {xs : List V} {ds : List D} (h : LAt K T H a xs) (r : RepL K T H xs ds) : Walks K mg T H (Itl K a) ds := fun T' S' H' kf sim => by
  have k := kf.toKp
  have hq : SqL K H' a xs := (h.kp k).sq
  refine ⟨⟨xs, hq, by rw [r.length]; exact Nat.le_refl _⟩, fun i d e => ?_⟩
  obtain ⟨v, h1, h2⟩ := r.get e
  refine ⟨⟨xs, v, hq, h1⟩, fun x H2 y => ?_⟩
  obtain ⟨rfl, y⟩ := y
  have e2 := (y xs hq).symm.trans h1
  cases e2
  exact ⟨Step.refl _ _, sim, h2.kp k⟩
theorem walks_tup {a : Addr} {xs : List V} {ds : List D} (h : H a = some (.tup xs)) (n : T.off a) (r : RepL K T H xs ds) : Walks K mg T H (Itt K a) ds := fun T' S' H' kf sim => by
  have k := kf.toKp
  have hq : SqT K H' a xs := SqT.of (k.tup n h).1
  refine ⟨⟨xs, hq, by rw [r.length]; exact Nat.le_refl _⟩, fun i d e => ?_⟩
  obtain ⟨v, h1, h2⟩ := r.get e
  refine ⟨⟨xs, v, hq, h1⟩, fun x H2 y => ?_⟩
  obtain ⟨rfl, y⟩ := y
  have e2 := (y xs hq).symm.trans h1
  cases e2
  exact ⟨Step.refl _ _, sim, h2.kp k⟩
theorem walks_str {z : Str} : Walks K mg T H (Its z) (z.cps.toList.map chD) := fun T' S' H' kf sim => by
  have k := kf.toKp
  refine ⟨?_, fun i d e => ?_⟩
  · show z.cps.size ≤ _
    rw [List.length_map, Array.length_toList]
    exact Nat.le_refl _
  · rw [List.getElem?_map] at e
    cases q : z.cps.toList[i]? with
    | none => rw [q] at e; cases e
    | some c =>
      rw [q] at e
      cases e
      have hi := (List.getElem?_eq_some_iff.mp q).1
      rw [Array.length_toList] at hi
      refine ⟨hi, fun x H2 y => ?_⟩
      obtain ⟨rfl, c', h1, rfl⟩ := y
      rw [Array.getElem?_toList] at q
      rw [q] at h1
      cases h1
      exact ⟨Step.refl _ _, sim, .str _⟩
theorem walks_rng {lo : Int} {n : Nat} : Walks K mg T H (Itr lo n) (rng lo n) := fun T' S' H' kf sim => by
  have k := kf.toKp
  refine ⟨?_, fun i d e => ?_⟩
  · show n ≤ _
    unfold rng
    rw [List.length_map, List.length_range]
    exact Nat.le_refl _
  · unfold rng at e
    rw [List.getElem?_map] at e
    cases q : (List.range n)[i]? with
    | none => rw [q] at e; cases e
    | some c =>
      rw [q] at e
      cases e
      obtain ⟨hi, hc⟩ := List.getElem?_eq_some_iff.mp q
      rw [List.length_range] at hi
      rw [List.getElem_range] at hc
      subst hc
      refine ⟨hi, fun x H2 y => ?_⟩
      obtain ⟨rfl, rfl⟩ := y
      exact ⟨Step.refl _ _, sim, .int _⟩
theorem rng_len (lo : Int) (n : Nat) : (rng lo n).length = n := by
  unfold rng
  rw [List.length_map, List.length_range]
end
section
variable {X : Cx} {Wx : WX} {tg e : Expr} {m : EM} {ms : AM} {pos p : Pos}
theorem ji_seq (h : PE X e (tD X.K X.mg Wx m)) : PI X tg e (iD X.K X.mg Wx (mIter m)) := pi_imp (pi_sq h) fun g H Q h => by
  obtain ⟨T, r, S, rs, sim, h⟩ := h
  refine ⟨T, r, S, rs, sim, Out.bind h fun d S1 T1 H1 v st sim1 rel h1 => ?_⟩
  refine Out.use h1 fun ds e k => ?_
  cases rel with
  | lst q1 q2 q3 =>
    cases e
    exact .inl ⟨_, _, rfl, SqL.of q1, k T1 H1 _ (Step.refl T1 H1) sim1 ⟨walks_lst (.inl ⟨.inl q1, q2⟩) q3, by rw [← q3.length]; exact sim1.hl _ _ (.inl (.inl q1))⟩⟩
  | scr q =>
    cases e
    exact .inl ⟨_, _, rfl, q.sq, k T1 H1 _ (Step.refl T1 H1) sim1 ⟨walks_lst q (RepL.ints _), by have := sim1.llen q; rw [List.length_map] at this ⊢; exact this⟩⟩
  | tup q1 q2 q3 =>
    cases e
    exact .inr (.inl ⟨_, _, rfl, SqT.of q1, k T1 H1 _ (Step.refl T1 H1) sim1 ⟨walks_tup q1 q2 q3, by rw [← q3.length]; exact sim1.hl _ _ (.inr (.inl q1))⟩⟩)
  | str x =>
    simp only [seqD] at e
    split at e
    · rename_i hz
      cases e
      exact .inr (.inr ⟨x, rfl, k T1 H1 _ (Step.refl T1 H1) sim1 ⟨walks_str, by rw [List.length_map, Array.length_toList]; exact sz5 hz⟩⟩)
    · cases e
  | _ => cases e
theorem ji_rng1 {a : Expr} (hg : Gl X "range") (hm : X.mg "range" = none) (ha : PA X [a] (tDA X.K X.mg Wx ms)) (hs : starEach [a] X.env = [(false, eval a X.env)] := by rfl) : PI X tg (.Call (.Name "range" p) [a] [] pos) (iD X.K X.mg Wx (mRng1 ms)) :=
  pi_imp (pi_range1 hg hm ha hs) fun g H Q h => by
    obtain ⟨T, r, S, rs, sim, h⟩ := h
    refine ⟨T, r, S, rs, sim, Out.bind h fun d S1 T1 H1 v st sim1 rel h1 => ?_⟩
    refine Out.use h1 fun ds e k => ?_
    unfold rng1 at e
    split at e
    · rename_i j
      split at e
      · rename_i hj
        cases e
        cases rel with
        | cons q1 q2 =>
          cases q2
          refine ⟨j, by rw [q1.int_of], by omega, by omega, k T1 H1 _ (Step.refl T1 H1) sim1 ⟨walks_rng, ?_⟩⟩
          rw [rng_len]
          exact sz5 (by omega)
      · cases e
    · cases e
end
def zipD (ds : List D) : Option (List D) := match ds with
  | [.tup xs, .tup ys] => some (List.zipWith (fun a b => D.tup [a, b]) xs ys)
  | [.lst xs, .lst ys] => some (List.zipWith (fun a b => D.tup [a, b]) xs ys)
  | _ => none
def mZip (ms : AM) : IM := fun r S => (ms r S).bind fun ds S1 => ofO (zipD ds) S1
theorem zip_get {xs ys : List D} {i : Nat} {d : D} (h : (List.zipWith (fun a b => D.tup [a, b]) xs ys)[i]? = some d) : ∃ a b, xs[i]? = some a ∧ ys[i]? = some b ∧ d = .tup [a, b] := by
  rw [List.getElem?_zipWith] at h
  cases q : xs[i]? with
  | none => rw [q] at h; cases h
  | some a =>
    cases q2 : ys[i]? with
    | none => rw [q, q2] at h; cases h
    | some b =>
      rw [q, q2] at h
      cases h
      exact ⟨a, b, rfl, rfl, rfl⟩
section
variable {X : Cx} {Wx : WX} {e e2 : Expr} {ms : AM} {pos p tpos : Pos} {elts : List Expr} {kk : Nat}
theorem pair_new {K : PySem.W.Frag} {mg : Str → Option Value} {T : Tb} {S : Store} {H : Hp} {p : Addr} {x y : V} {a b : D} (sim : Sim K mg T S H) (hp : H p = none) (ha : Rep K T H x a) (hb : Rep K T H y b) :
    Step T H T (upd H p (.tup [x, y])) ∧ Sim K mg T S (upd H p (.tup [x, y])) ∧ Rep K T (upd H p (.tup [x, y])) (.ref p) (.tup [a, b]) :=
  ⟨sim.stepNew hp, sim.new hp (hlen_tup sim.hl (by show 2 ≤ sizeLine; decide)), .tup upd_same (sim.off hp) (.cons (ha.step (sim.stepNew hp)) (.cons (hb.step (sim.stepNew hp)) .nil))⟩
theorem ji_zip (hg : Gl X "zip") (hm : X.mg "zip" = none) (ha : PA X [e, e2] (tDA X.K X.mg Wx ms)) (hs : starEach [e, e2] X.env = (false, eval e X.env) :: starEach [e2] X.env := by rfl) (hpl : (backTo pos (starEach [e2] X.env)).any (·.1) = false := by rfl) :
    PI X (.Tuple elts kk tpos) (.Call (.Name "zip" p) [e, e2] [] pos) (iD X.K X.mg Wx (mZip ms)) := pi_imp (RZ.pi_zipA hg hm ha hs hpl) fun g H Q h => by
  obtain ⟨T, r, S, rs, sim, h⟩ := h
  refine ⟨T, r, S, rs, sim, Out.bind h fun d S1 T1 H1 v st sim1 rel h1 => ?_⟩
  refine Out.use h1 fun ds e k => ?_
  unfold zipD at e
  split at e
  · cases e
    cases rel with
    | cons q1 q2 =>
      cases q2 with
      | cons q2 q3 =>
        cases q3
        cases q1 with
        | @tup a xs _ h1 n1 r1 =>
          cases q2 with
          | @tup b ys _ h2 n2 r2 =>
            refine ⟨a, b, xs, ys, rfl, .inr ⟨SqT.of h1, SqT.of h2, k T1 H1 _ (Step.refl T1 H1) sim1 ⟨fun T' S' H' kp sim' => ?_, ?_⟩⟩⟩
            · have k1 : SqT X.K H' a xs := SqT.of (kp.tup n1 h1).1
              have k2 : SqT X.K H' b ys := SqT.of (kp.tup n2 h2).1
              refine ⟨⟨xs, ys, k1, k2, ?_⟩, fun i d ed => ?_⟩
              · rw [List.length_zipWith, ← r1.length, ← r2.length]
                omega
              · obtain ⟨x, y, e1, e2, rfl⟩ := zip_get ed
                obtain ⟨v1, f1, f2⟩ := r1.get e1
                obtain ⟨v2, f3, f4⟩ := r2.get e2
                refine ⟨⟨xs, ys, v1, v2, k1, k2, f1, f3⟩, fun z H2 yl => ?_⟩
                obtain ⟨P, x', y', rfl, hn, rfl, g1, g2⟩ := yl
                have z1 := (g1 xs k1).symm.trans f1
                have z2 := (g2 ys k2).symm.trans f3
                cases z1; cases z2
                exact pair_new sim' hn (f2.kp kp.toKp) (f4.kp kp.toKp)
            · rw [List.length_zipWith, ← r1.length]
              exact Nat.le_trans (Nat.min_le_left _ _) (sim1.hl _ _ (.inr (.inl h1)))
  · cases e
    cases rel with
    | cons q1 q2 =>
      cases q2 with
      | cons q2 q3 =>
        cases q3
        cases q1 with
        | @lst a xs _ h1 n1 r1 =>
          cases q2 with
          | @lst b ys _ h2 n2 r2 =>
            refine ⟨a, b, xs, ys, rfl, .inl ⟨SqL.of h1, SqL.of h2, k T1 H1 _ (Step.refl T1 H1) sim1 ⟨fun T' S' H' kp sim' => ?_, ?_⟩⟩⟩
            · have k1 : SqL X.K H' a xs := SqL.of (kp.lst n1 h1).1
              have k2 : SqL X.K H' b ys := SqL.of (kp.lst n2 h2).1
              refine ⟨⟨xs, ys, k1, k2, ?_⟩, fun i d ed => ?_⟩
              · rw [List.length_zipWith, ← r1.length, ← r2.length]
                omega
              · obtain ⟨x, y, e1, e2, rfl⟩ := zip_get ed
                obtain ⟨v1, f1, f2⟩ := r1.get e1
                obtain ⟨v2, f3, f4⟩ := r2.get e2
                refine ⟨⟨xs, ys, v1, v2, k1, k2, f1, f3⟩, fun z H2 yl => ?_⟩
                obtain ⟨P, x', y', rfl, hn, rfl, g1, g2⟩ := yl
                have z1 := (g1 xs k1).symm.trans f1
                have z2 := (g2 ys k2).symm.trans f3
                cases z1; cases z2
                exact pair_new sim' hn (f2.kp kp.toKp) (f4.kp kp.toKp)
            · rw [List.length_zipWith, ← r1.length]
              exact Nat.le_trans (Nat.min_le_left _ _) (sim1.hl _ _ (.inl (.inl h1)))
  · cases e
end
def W0 : WX := fun _ _ _ _ => False
def nox {α : Type} (x : R α) : R α := match x with
  | .exc _ _ => .bad
  | y => y
def wipeE (r : Env) : List Nat → Env
  | [] => r
  | v :: vs => (wipeE r vs).set v none
def lcL (gm : D → Env → Option Env) (tt : BM) (te : EM) (r0 : Env) : List D → Store → R (List D)
  | [], S => .ok [] S
  | d :: ds, S => match gm d r0 with
    | none => .bad
    | some r1 => (nox (tt r1 S)).bind fun b S1 => if b = true then (nox (te r1 S1)).bind fun y S2 => (lcL gm tt te r0 ds S2).bind fun ys S3 => .ok (y :: ys) S3 else lcL gm tt te r0 ds S1
def mLc (mi : IM) (vs : List Nat) (gm : D → Env → Option Env) (tt : BM) (te : EM) : EM := fun r S => (mi r S).bind fun ds S1 => (lcL gm tt te (wipeE r vs) ds S1).bind fun ys S2 => .ok (.lst ys) S2
def mYes : BM := fun _ S => .ok true S
section
variable {K : PySem.W.Frag} {mg : Str → Option Value} {Wx : WX} {T : Tb} {H : Hp} {r : Env} {g : St}
theorem RepSt.wipe (h : RepSt K T H r g) : ∀ vs : List Nat, RepSt K T H (wipeE r vs) (L2.wipe g vs)
  | [] => h
  | v :: vs => (RepSt.wipe h vs).forgetB
theorem wipe_get {g : St} {i : Nat} : ∀ {vs : List Nat}, i ∈ vs → i < g.length → (L2.wipe g vs)[i]? = some none
  | [], h, _ => nomatch h
  | v :: vs, h, hl => by
    unfold L2.wipe
    by_cases e : v = i
    · subst e
      rw [List.getElem?_set_self (by rw [wipe_length]; exact hl)]
    · rw [List.getElem?_set_ne e]
      exact wipe_get ((List.mem_cons.mp h).resolve_left fun q => e q.symm) hl
theorem wipe_same {g g2 : St} {vs sl : List Nat} (hs : ∀ i ∈ sl, i ∈ vs) (hl : g2.length = g.length) (h : ∀ j, j ∉ sl → g2[j]? = (L2.wipe g vs)[j]?) : L2.wipe g2 vs = L2.wipe g vs := by
  refine List.ext_getElem? fun j => ?_
  by_cases hj : j ∈ vs
  · by_cases hlt : j < g.length
    · rw [wipe_get hj (by rw [hl]; exact hlt), wipe_get hj hlt]
    · rw [List.getElem?_eq_none (by rw [wipe_length, hl]; omega), List.getElem?_eq_none (by rw [wipe_length]; omega)]
  · rw [wipe_out hj, h j fun q => hj (hs j q)]
def Tb.hide (T : Tb) (p : Addr) : Tb := ⟨T.loc, p :: T.hid⟩
theorem Sim.hide {S : Store} {p : Addr} {u : HO} (s : Sim K mg T S H) (hp : H p = none) (hl : HLen (upd H p u)) (hu : ∀ xs, u ≠ .tup xs := by intro _ z; cases z) : Kp T H (T.hide p) (upd H p u) ∧ Sim K mg (T.hide p) S (upd H p u) := by
  have kp : Kp T H (T.hide p) (upd H p u) := ⟨fun b v _ n h => by
    have nb : b ≠ p := ne_of_none h hp
    exact ⟨by rw [upd_ne nb]; exact h, n.1, fun q => (List.mem_cons.mp q).elim nb n.2⟩, fun b v n h => by
    have nb : b ≠ p := fun e => rd_some h (by rw [e]; exact hp)
    exact ⟨rd_keep (fun w q => by rw [upd_ne nb]; exact q) h, n.1, fun q => (List.mem_cons.mp q).elim nb n.2⟩, fun _ _ h => h⟩
  refine ⟨kp, s.len, ?_, fun i a o h1 h2 => (s.obj i a o h1 h2).kp kp (upd_ne fun e => (s.off hp).1 (by rw [← e]; exact List.mem_of_getElem? h1)), fun a ha => ?_, hl⟩
  · have h0 := List.nodup_append.mp s.nd
    refine List.nodup_append.mpr ⟨h0.1, List.nodup_cons.mpr ⟨(s.off hp).2, h0.2.1⟩, fun a ha b hb e => ?_⟩
    rcases List.mem_cons.mp hb with hb | hb
    · exact (s.off hp).1 (by rw [← hb, ← e]; exact ha)
    · exact h0.2.2 a ha b hb e
  · rcases List.mem_cons.mp ha with ha | ha
    · rw [ha, upd_same]
      exact ⟨fun e => (by cases e), fun xs e => hu xs (Option.some.inj e)⟩
    · rw [upd_ne fun e => s.hid a ha (by rw [e]; exact hp)]
      exact s.hid' a ha
theorem Sim.setHid {S : Store} {p : Addr} {u : HO} (s : Sim K mg T S H) (hp : p ∈ T.hid) (hl : HLen (upd H p u)) (hu : ∀ xs, u ≠ .tup xs := by intro _ z; cases z) : Kf T H T (upd H p u) ∧ Sim K mg T S (upd H p u) := by
  have kp : Kp T H T (upd H p u) := ⟨fun b v _ n h => by
    have nb : b ≠ p := fun e => n.2 (by rw [e]; exact hp)
    exact ⟨by rw [upd_ne nb]; exact h, n⟩, fun b v n h => by
    have nb : b ≠ p := fun e => n.2 (by rw [e]; exact hp)
    exact ⟨rd_keep (fun w q => by rw [upd_ne nb]; exact q) h, n⟩, fun _ _ h => h⟩
  refine ⟨⟨kp, fun b o v n h => ⟨by rw [upd_ne fun e => n.2 (by rw [e]; exact hp)]; exact h, n⟩⟩, s.len, s.nd, fun i a o h1 h2 => (s.obj i a o h1 h2).kp kp (upd_ne fun e => s.apart (List.mem_of_getElem? h1) (by rw [e]; exact hp)), fun a ha => ?_, hl⟩
  by_cases e : a = p
  · rw [e, upd_same]
    exact ⟨fun e => (by cases e), fun xs e => hu xs (Option.some.inj e)⟩
  · rw [upd_ne e]
    exact s.hid' a ha
theorem R.bind_assoc {α β γ : Type} (x : R α) (f : α → Store → R β) (k : β → Store → R γ) : (x.bind f).bind k = x.bind fun a S => (f a S).bind k := by
  cases x <;> rfl
theorem off_unhide {p a : Addr} {l h : List Addr} (x : (Tb.mk l (p :: h)).off a) : (Tb.mk l h).off a := ⟨x.1, fun q => x.2 (List.mem_cons_of_mem _ q)⟩
theorem kp_unhide {p : Addr} {l h : List Addr} : Kp ⟨l, p :: h⟩ H ⟨l, h⟩ H := ⟨fun _ _ _ n q => ⟨q, off_unhide n⟩, fun _ _ n q => ⟨q, off_unhide n⟩, fun _ _ q => q⟩
theorem Sim.unhide {S : Store} {p : Addr} {l h : List Addr} (s : Sim K mg ⟨l, p :: h⟩ S H) : Sim K mg ⟨l, h⟩ S H :=
  ⟨s.len, by
    have h0 := List.nodup_append.mp s.nd
    exact List.nodup_append.mpr ⟨h0.1, (List.nodup_cons.mp h0.2.1).2, fun a ha b hb e => h0.2.2 a ha b (List.mem_cons_of_mem _ hb) e⟩, fun i a o h1 h2 => (s.obj i a o h1 h2).kp kp_unhide rfl, fun a ha => s.hid' a (List.mem_cons_of_mem _ ha), s.hl⟩
theorem lc_bind {α β γ δ : Type} {relA : Tb → Hp → β → α → Prop} {relB : Tb → Hp → δ → γ → Prop} {T1 : Tb} {H1 : Hp} {g g2 : St} {x : R α} {f : α → Store → R γ} {Q : δ → Hp → Prop} {Q1 : β → Hp → Prop} (h : Out K mg Wx relB T1 g H1 ((nox x).bind f) Q)
    (k : ∀ a S T3 H3 v, Step T H T3 H3 → Sim K mg T3 S H3 → relA T3 H3 v a → Out K mg Wx relB T1 g H1 (f a S) Q → Q1 v H3) : Out K mg W0 relA T g2 H x Q1 := by
  cases x with
  | bad => exact h.elim
  | exc n S => exact h.elim
  | ok a S => exact fun T3 H3 v st sim rl => k a S T3 H3 v st sim rl h
end
section
variable {X : Cx} {Wx : WX} {elt tg iter : Expr} {ifs : List Expr} {scope : Scope} {own : List (Str × Nat)} {pos : Pos} {mi : IM} {sl : List Nat} {gm : D → Env → Option Env} {tt : BM} {te : EM}
theorem jts_nil : PTs X [] (tDT X.K X.mg Wx mYes) := ⟨fun pins s g H Q I h => by
  obtain ⟨T, r, S, rs, sim, h⟩ := h
  exact pts_nil.run pins s g H Q I (h T H true (Step.refl T H) sim rfl)⟩
theorem jts_one {c : Expr} (h : PT X c (tDT X.K X.mg Wx tt)) : PTs X [c] (tDT X.K X.mg Wx tt) := pts_one h
theorem tLc_of {K : PySem.W.Frag} {mg : Str → Option Value} {vs : List Nat} (hsl : ∀ i ∈ sl, i ∈ vs) : ∀ g H Q, tD K mg Wx (mLc mi vs gm tt te) g H Q → tLc (iD K mg Wx mi) (gD K mg sl gm) (tDT K mg W0 tt) (tD K mg W0 te) vs g H Q := by
  intro g H Q h
  obtain ⟨T, r, S, rs, sim, h⟩ := h
  refine ⟨T, r, S, rs, sim, Out.bind h fun ds S1 T1 H1 J st sim1 rel h1 => ?_⟩
  obtain ⟨wk, hz⟩ := rel
  intro Dl hD
  have hl0 : HLen (upd H1 Dl (.lst [])) := hlen_lst sim1.hl (Nat.zero_le _)
  obtain ⟨kp0, simh⟩ := sim1.hide (u := .lst []) hD hl0
  have rs1 := rs.step st
  refine ⟨fun i m H => ∃ T S acc ys, m = ds.length - i ∧ i ≤ ds.length ∧ T.hid = Dl :: T1.hid ∧ Step T1 H1 ⟨T.loc, T1.hid⟩ H ∧ Sim K mg T S H ∧ H Dl = some (.lst acc) ∧ RepL K T H acc ys ∧ ys.length ≤ i ∧
    Out K mg Wx (Rep K) T1 g H1 ((lcL gm tt te (wipeE r vs) (ds.drop i) S).bind fun zs S2 => .ok (.lst (ys ++ zs)) S2) Q, ⟨ds.length, T1.hide Dl, S1, [], [], by simp, Nat.zero_le _, rfl, sim1.stepNew hD, simh, upd_same, .nil, Nat.le_refl _, by simpa using h1⟩, ?_⟩
  rintro i m H2 ⟨T2, S2, acc, ys, rfl, hi, eh, st2, sim2, hD2, ra, hys, ho⟩
  have off2 : ∀ b, T1.off b → H1 b ≠ none → T2.off b := fun b n q => ⟨(st2.out q n).1, fun z => by
    rw [eh] at z
    rcases List.mem_cons.mp z with z | z
    · exact q (by rw [z]; exact hD)
    · exact n.2 z⟩
  have kp2 : Kp T1 H1 T2 H2 := ⟨fun b u k n q => ⟨st2.keep b u n q, off2 b n (some_ne q)⟩, fun b u n q => ⟨st2.rd q n, off2 b n (rd_some q)⟩, fun n a q => st2.get q⟩
  have kf2 : Kf T1 H1 T2 H2 := ⟨kp2, fun b o u n q => ⟨st2.keep b _ n q, off2 b n (some_ne q)⟩⟩
  obtain ⟨stop, go⟩ := wk T2 S2 H2 kf2 sim2
  by_cases hlt : i < ds.length
  · have ed : ds.drop i = ds[i] :: ds.drop (i + 1) := List.drop_eq_getElem_cons hlt
    rw [ed] at ho
    obtain ⟨g1, yl⟩ := go i ds[i] (List.getElem?_eq_getElem hlt)
    refine .inr ⟨g1, fun H => ∃ T S acc ys, T.hid = Dl :: T1.hid ∧ Step T1 H1 ⟨T.loc, T1.hid⟩ H ∧ Sim K mg T S H ∧ H Dl = some (.lst acc) ∧ RepL K T H acc ys ∧ ys.length ≤ i + 1 ∧
      Out K mg Wx (Rep K) T1 g H1 ((lcL gm tt te (wipeE r vs) (ds.drop (i + 1)) S).bind fun zs S2 => .ok (.lst (ys ++ zs)) S2) Q, fun H3 q => ?_, fun x H3 y => ?_⟩
    · obtain ⟨T3, S3, acc3, ys3, q1, q2, q3, q4, q5, q6, q7⟩ := q
      exact ⟨ds.length - (i + 1), by omega, T3, S3, acc3, ys3, rfl, hlt, q1, q2, q3, q4, q5, q6, q7⟩
    · obtain ⟨st3, sim3, rep3⟩ := yl x H3 y
      simp only [lcL] at ho
      -- how a step of the hidden table is one of the open one
      have opn : ∀ {Ta Tb : Tb} {Ha Hb : Hp}, Ta.hid = Dl :: T1.hid → Step T1 H1 ⟨Ta.loc, T1.hid⟩ Ha → Step Ta Ha Tb Hb → Tb.hid = Dl :: T1.hid ∧ Step T1 H1 ⟨Tb.loc, T1.hid⟩ Hb := fun {Ta Tb Ha Hb} e1 s1 s2 => by
        refine ⟨s2.hid.trans e1, s1.trans ⟨s2.ext, rfl, fun b hb => s2.hkeep b (by rw [e1]; exact List.mem_cons_of_mem _ hb), fun b u n q => ?_, s2.new⟩⟩
        by_cases hb : b = Dl
        · subst hb
          rw [s2.hkeep b (by rw [e1]; exact List.mem_cons_self)]
          exact q
        · exact s2.keep b u ⟨n.1, fun z => by
            rw [e1] at z
            exact (List.mem_cons.mp z).elim hb n.2⟩ q
      obtain ⟨eh3, op3⟩ := opn eh st2 st3
      have hid3 : Dl ∈ T2.hid := by rw [eh]; exact List.mem_cons_self
      split at ho
      · exact ho.elim
      · rename_i r1 eg
        refine ⟨T2, wipeE r vs, S2, ds[i], r1, ((rs1.wipe vs).kp kp2).step st3, sim3, rep3, eg, fun g4 rs4 lg kg => ⟨wipe_same hsl (by rw [lg, wipe_length]) kg, T2, r1, S2, rs4, sim3, ?_⟩⟩
        rw [R.bind_assoc] at ho
        refine lc_bind ho fun b S4 T4 H4 v st4 sim4 rel4 ho4 => ?_
        subst rel4
        obtain ⟨eh4, op4⟩ := opn eh3 op3 st4
        have hid4 : Dl ∈ T4.hid := by rw [eh4]; exact List.mem_cons_self
        have hD4 : H4 Dl = some (.lst acc) := (st4.hkeep Dl hid3).trans ((st3.hkeep Dl hid3).trans hD2)
        cases v with
        | false =>
          rw [if_neg Bool.false_ne_true] at ho4 ⊢
          exact ⟨T4, S4, acc, ys, eh4, op4, sim4, hD4, ra.step (st3.trans st4), by omega, ho4⟩
        | true =>
          rw [if_pos rfl, R.bind_assoc] at ho4
          rw [if_pos rfl]
          refine ⟨T4, r1, S4, rs4.step st4, sim4, lc_bind ho4 fun yd S5 T5 H5 yv st5 sim5 rel5 ho5 => ?_⟩
          obtain ⟨eh5, op5⟩ := opn eh4 op4 st5
          have hid5 : Dl ∈ T5.hid := by rw [eh5]; exact List.mem_cons_self
          have ra5 : RepL K T5 H5 acc ys := ra.step ((st3.trans st4).trans st5)
          have hal : acc.length < sizeLine := by rw [ra5.length]; omega
          have hl5 : HLen (upd H5 Dl (.lst (acc ++ [yv]))) := hlen_lst sim5.hl (by rw [List.length_append, List.length_singleton]; omega)
          obtain ⟨kp5, sim6⟩ := sim5.setHid (u := .lst (acc ++ [yv])) hid5 hl5
          refine ⟨acc, (st5.hkeep Dl hid4).trans hD4, hal, T5, S5, acc ++ [yv], ys ++ [yd], eh5, ⟨op5.ext, rfl, fun b hb => ?_, fun b u n q => ?_, op5.new⟩, sim6, upd_same, RepL.append (ra5.kp kp5.toKp) (.cons (rel5.kp kp5.toKp) .nil), by rw [List.length_append, List.length_singleton]; omega, ?_⟩
          · rw [upd_ne fun e => sim1.hid b hb (by rw [e]; exact hD)]
            exact op5.hkeep b hb
          · rw [upd_ne (ne_of_none q hD)]
            exact op5.keep b u n q
          · rw [R.bind_assoc] at ho5
            have e5 : (fun zs S2 => (R.ok (D.lst (ys ++ [yd] ++ zs)) S2 : R D)) = fun a S => (R.ok (yd :: a) S).bind fun zs S2 => R.ok (D.lst (ys ++ zs)) S2 := by
              funext zs S2
              show _ = R.ok (D.lst (ys ++ (yd :: zs))) S2
              rw [List.append_assoc]
              rfl
            rw [e5]
            exact ho5
  · have e : i = ds.length := by omega
    subst e
    rw [List.drop_length] at ho
    refine .inl ⟨stop, ho ⟨T2.loc, T1.hid⟩ H2 _ st2 ?_ ?_⟩
    · have h9 := sim2
      obtain ⟨l2, h2⟩ := T2
      cases eh
      exact h9.unhide
    · obtain ⟨l2, h2⟩ := T2
      cases eh
      rw [List.append_nil]
      refine .lst hD2 ⟨fun z => ?_, fun z => ?_⟩ (ra.kp kp_unhide)
      · exact sim2.apart z List.mem_cons_self
      · have nd := (List.nodup_append.mp sim2.nd).2.1
        exact (List.nodup_cons.mp nd).1 z
theorem j_lc (hsl : ∀ i ∈ sl, i ∈ own.map (·.2)) (hc : X.calm = true) (hN : X.N.Nodup) (hi : PI X tg iter (iD X.K X.mg Wx mi)) (ok : BlkOk X.N X.env.scope scope own)
    (hg : ∀ (s : Shared) (H : Hp) (C : Addr) (cl : List (Str × Addr)) (fp : List Addr), PG (X.blk s H scope (compEnvC scope cl C X.env) fp) tg (gD X.K X.mg sl gm)) (ht : ∀ (s : Shared) (H : Hp) (C : Addr) (cl : List (Str × Addr)) (fp : List Addr), PTs (X.blk s H scope (compEnvC scope cl C X.env) fp) ifs (tDT X.K X.mg W0 tt))
    (he : ∀ (s : Shared) (H : Hp) (C : Addr) (cl : List (Str × Addr)) (fp : List Addr), PE (X.blk s H scope (compEnvC scope cl C X.env) fp) elt (tD X.K X.mg W0 te)) (hs : ∀ x, foldedSetIterable iter X.env x = pure x := by intro _; rfl) :
    PE X (.ListComp elt [⟨tg, iter, ifs, 0⟩] scope pos) (tD X.K X.mg Wx (mLc mi (own.map (·.2)) gm tt te)) := pe_imp (pe_lc hc hN hi ok hg ht he hs) (tLc_of hsl)
theorem js_setLc {i : Nat} {y : Str} {py spos : Pos} (hsl : ∀ i ∈ sl, i ∈ own.map (·.2)) (hc : X.calm = true) (hN : X.N.Nodup) (hy : X.N[i]? = some y) (hyl : X.env.scope.names.lookup y = some .local)
    (hsw : swapsWith (.ListComp elt [⟨tg, iter, ifs, 0⟩] scope pos) (some (.Name y py)) spos.line X.env = pure true) (hi : PI X tg iter (iD X.K X.mg Wx mi)) (ok : BlkOk X.N X.env.scope scope own)
    (hg : ∀ (s : Shared) (H : Hp) (C : Addr) (cl : List (Str × Addr)) (fp : List Addr), PG (X.blk s H scope (compEnvC scope cl C X.env) fp) tg (gD X.K X.mg sl gm)) (ht : ∀ (s : Shared) (H : Hp) (C : Addr) (cl : List (Str × Addr)) (fp : List Addr), PTs (X.blk s H scope (compEnvC scope cl C X.env) fp) ifs (tDT X.K X.mg W0 tt))
    (he : ∀ (s : Shared) (H : Hp) (C : Addr) (cl : List (Str × Addr)) (fp : List Addr), PE (X.blk s H scope (compEnvC scope cl C X.env) fp) elt (tD X.K X.mg W0 te)) (hs : ∀ x, foldedSetIterable iter X.env x = pure x := by intro _; rfl) :
    PS X (.Assign [.Name y py] (.ListComp elt [⟨tg, iter, ifs, 0⟩] scope pos) spos) (tDS X.K X.mg Wx (sSet i (mLc mi (own.map (·.2)) gm tt te))) :=
  ps_imp (ps_setLc hc hN hy hyl hsw hi ok hg ht he hs) fun E g H h => by
    obtain ⟨T, r, S, rs, sim, h⟩ := h
    refine tLc_of hsl g H _ ⟨T, r, S, rs, sim, ZOut.bind h rs fun d S1 T1 H1 v st sim1 rel rs1 h1 => ?_⟩
    exact h1.nx sim1 (rs1.set rel)
end
end Dv
namespace Dv
open PySem L2
def spD (K : PySem.W.Frag) (mg : Str → Option Value) (n : Nat) (F : List D → Store → R D) : Sp := fun vs H Q E => vs.length = n ∧ ∃ T S ds, RepL K T H vs ds ∧ Sim K mg T S H ∧ Out K mg (fun c d _ H => E c d H) (Rep K) T [] H (F ds S) Q
def mApp (n : Nat) (F : List D → Store → R D) (ms : AM) : EM := fun r S => (ms r S).bind fun ds S1 => if ds.length = n then F ds S1 else .bad
section
variable {X : Cx} {Wx : WX} {k n : Nat} {f : Addr} {fd : FuncData} {ps : List Str} {Fn : List D → Store → R D} {x : Str} {p pos : Pos} {e : Expr} {es : List Expr} {ms : AM}
theorem j_call (F : FnOk X.prog X.w X.K X.mg X.base (L2.CX X.prog X.w) k f fd ps (spD X.K X.mg n Fn)) (hr : Room k X.A) (hg : Gl X x) (hm : X.mg x = some (.ref f)) (hk : PySem.W.keepIn X.K (.ref f) = true) (hb : Binds X.K fd ps []) (tk : Takes X Wx)
    (ha : PA X (e :: es) (tDA X.K X.mg Wx ms)) (hdb : (x == ("__debug__" : Str)) = false := by decide) (he : starEach (e :: es) X.env = (false, eval e X.env) :: starEach es X.env := by rfl) (hpl : (backTo pos (starEach es X.env)).any (·.1) = false := by rfl) :
    PE X (.Call (.Name x p) (e :: es) [] pos) (tD X.K X.mg Wx (mApp n Fn ms)) :=
  pe_imp (pe_callSD (E := WE Wx) F hr hg hm hk hb .nil (fun g => passAt tk g) ha hdb he hpl) fun g H Q h => by
    obtain ⟨T, r, S, rs, sim, h⟩ := h
    refine ⟨T, r, S, rs, sim, Out.bind h fun ds S1 T1 H1 vs st sim1 rel h1 => ?_⟩
    split at h1
    · rename_i hn
      rw [List.append_nil]
      refine ⟨by rw [rel.length]; exact hn, T1, S1, ds, rel, sim1, ?_⟩
      revert h1
      cases Fn ds S1 with
      | bad => exact fun h => h
      | exc x S2 => exact fun h => h
      | ok d S2 => exact fun h => h
    · exact h1.elim
end
def frame (sz : Nat) (ds : List D) : Env := ds.map some ++ List.replicate (sz - ds.length) none
theorem frame_ok {K : PySem.W.Frag} {T : Tb} {H : Hp} {vs : List V} {ds : List D} (N : List Str) (h : RepL K T H vs ds) : RepSt K T H (frame N.length ds) (L2.start N vs) := by
  have hl := h.length
  refine ⟨?_, fun i d e => ?_⟩
  · unfold frame L2.start
    rw [List.length_append, List.length_append, List.length_map, List.length_map, hl, List.length_replicate, List.length_replicate]
  · unfold frame at e
    by_cases hi : i < ds.length
    · rw [List.getElem?_append_left (by rw [List.length_map]; exact hi), List.getElem?_map, List.getElem?_eq_getElem hi] at e
      cases e
      obtain ⟨v, h1, h2⟩ := h.get (List.getElem?_eq_getElem hi)
      refine ⟨v, ?_, h2⟩
      unfold L2.start
      rw [List.getElem?_append_left (by rw [List.length_map, hl]; exact hi), List.getElem?_map, h1]
      rfl
    · rw [List.getElem?_append_right (by rw [List.length_map]; omega), List.getElem?_replicate] at e
      split at e <;> cases e
def finK (z : Z) : R D := match z with
  | .ok (.ret d) _ S => .ok d S
  | .ok .next _ S => .ok .non S
  | .exc n _ S => .exc n S
  | _ => .bad
section
variable {P : Program} {w : World} {K : PySem.W.Frag} {mg : Str → Option Value} {base : Heap} {x qual : Str} {st : Stmt} {f : Addr} {fd : FuncData} {N ps : List Str} {k : Nat} {b : SM}
abbrev BodyOk (P : Program) (w : World) (K : PySem.W.Frag) (mg : Str → Option Value) (base : Heap) (N : List Str) (qual : Str) (st : Stmt) (f : Addr) (k : Nat) (b : SM) : Prop :=
  ∀ (cdv : Value) (A : Around) (outer : List PySem.Env) (s : Shared) (H : Hp) (E : XK), Room k (A.deeper (PyProof.Rows.envOfC qual (defScope st) s.heap.objs.size f cdv)) →
    PSs (cxOf (L2.CX P w) P w K mg base N qual (defScope st) f cdv A outer s H E) (defBody st) (tDS K mg (fun c d _ H => E c d H) b)
end
mutual
def clo (n : Nat) : D → Bool
  | .tup xs => cloL n xs
  | .lst xs => cloL n xs
  | .dct kvs => cloK n kvs
  | .loc m => decide (m < n)
  | .non => true
  | .bl _ => true
  | .int _ => true
  | .str _ => true
  | .scr _ => true
  | .ty _ => true
  | .tux xs => cloL n xs
  | .dtt kvs => cloT n kvs
  | .dpr _ kvs => cloP n kvs
  | .adr _ => true
def cloL (n : Nat) : List D → Bool
  | [] => true
  | d :: ds => clo n d && cloL n ds
def cloK (n : Nat) : List (Key × D) → Bool
  | [] => true
  | (_, d) :: ds => clo n d && cloK n ds
def cloT (n : Nat) : List (List Key × D) → Bool
  | [] => true
  | (_, d) :: ds => clo n d && cloT n ds
def cloP (n : Nat) : List (Pr × D) → Bool
  | [] => true
  | (_, d) :: ds => clo n d && cloP n ds
end
theorem cloP_eq (n : Nat) : ∀ kvs : List (Pr × D), cloP n kvs = cloL n (kvs.map (·.2))
  | [] => rfl
  | (_, d) :: ds => by
    show (clo n d && cloP n ds) = (clo n d && cloL n (ds.map (·.2)))
    rw [cloP_eq n ds]
theorem cloT_eq (n : Nat) : ∀ kvs : List (List Key × D), cloT n kvs = cloL n (kvs.map (·.2))
  | [] => rfl
  | (_, d) :: ds => by
    show (clo n d && cloT n ds) = (clo n d && cloL n (ds.map (·.2)))
    rw [cloT_eq n ds]
theorem cloK_eq (n : Nat) : ∀ kvs : List (Key × D), cloK n kvs = cloL n (kvs.map (·.2))
  | [] => rfl
  | (_, d) :: ds => by
    show (clo n d && cloK n ds) = (clo n d && cloL n (ds.map (·.2)))
    rw [cloK_eq n ds]
theorem cloL_ints (n : Nat) : ∀ ns : List Int, cloL n (ns.map D.int) = true
  | [] => rfl
  | x :: ns => by
    show (clo n (D.int x) && cloL n (ns.map D.int)) = true
    rw [cloL_ints n ns]
    rfl
theorem clo_prD (n : Nat) (p : Pr) : clo n (prD p) = true := by
  show (true && (cloL n (p.2.map D.int) && true)) = true
  rw [cloL_ints]
  rfl
theorem cloL_prD {α : Type} (n : Nat) (f : α → Pr) : ∀ xs : List α, cloL n (xs.map fun x => prD (f x)) = true
  | [] => rfl
  | x :: xs => by
    show (clo n (prD (f x)) && cloL n (xs.map fun x => prD (f x))) = true
    rw [cloL_prD n f xs, clo_prD]
    rfl
theorem cloL_iff (n : Nat) : ∀ ds : List D, cloL n ds = true ↔ ∀ d ∈ ds, clo n d = true
  | [] => ⟨fun _ d h => (by cases h), fun _ => rfl⟩
  | x :: ds => by
    show (clo n x && cloL n ds) = true ↔ _
    rw [Bool.and_eq_true, cloL_iff n ds]
    exact ⟨fun h d hd => (List.mem_cons.mp hd).elim (fun e => e ▸ h.1) (h.2 d), fun h => ⟨h x List.mem_cons_self, fun d hd => h d (List.mem_cons_of_mem _ hd)⟩⟩
def cloO (n : Nat) : O → Bool
  | .lst xs => cloL n xs
  | .dct kvs => cloK n kvs
  | .dtt kvs => cloT n kvs
  | .dpr _ kvs => cloP n kvs
  | .ins _ fs => cloL n (fs.map (·.2))
  | .tbl _ _ => true
section
variable {K : PySem.W.Frag} {mg : Str → Option Value} {T T' : Tb} {H : Hp}
mutual
theorem Rep.clo : ∀ {v : V} {d : D}, Rep K T H v d → Dv.clo T.loc.length d = true
  | _, _, .non => rfl
  | _, _, .bl b => rfl
  | _, _, .int i => rfl
  | _, _, .str x => rfl
  | _, _, .ty x => rfl
  | _, _, .tup h n r => RepL.clo r
  | _, _, .lst h n r => RepL.clo r
  | _, _, .scr h => rfl
  | _, _, @Rep.dct _ _ _ a kvs kds h n e r => by
    show cloK _ kds = true
    rw [cloK_eq]
    exact RepL.clo r
  | _, _, .loc h => decide_eq_true (List.getElem?_eq_some_iff.mp h).1
  | _, _, .tux _ h n r => RepL.clo r
  | _, _, @Rep.dtt _ _ _ a kvs kds h n e r => by
    show cloT _ kds = true
    rw [cloT_eq]
    exact RepL.clo r
  | _, _, .adr _ => rfl
  | _, _, @Rep.dpr _ _ _ a w xs kds h n e r q => by
    show cloP _ kds = true
    rw [cloP_eq]
    exact RepL.clo q
theorem RepL.clo : ∀ {vs : List V} {ds : List D}, RepL K T H vs ds → cloL T.loc.length ds = true
  | _, _, .nil => rfl
  | _, _, .cons h r => by
    show (Dv.clo _ _ && cloL _ _) = true
    rw [Rep.clo h, RepL.clo r]
    rfl
end
theorem ORep.clo {a : Addr} {o : O} (h : ORep K mg T H a o) : cloO T.loc.length o = true := by
  cases o with
  | lst ds => obtain ⟨xs, _, h2⟩ := h; exact h2.clo
  | dct kds => obtain ⟨xs, _, _, h2⟩ := h; show cloK _ _ = true; rw [cloK_eq]; exact h2.clo
  | dtt kds => obtain ⟨xs, _, _, h2⟩ := h; show cloT _ _ = true; rw [cloT_eq]; exact h2.clo
  | dpr w kds => obtain ⟨xs, _, _, _, h2⟩ := h; show cloP _ _ = true; rw [cloP_eq]; exact h2.clo
  | ins c fs => obtain ⟨_, _, _, _, _, _, h2⟩ := h; exact h2.clo
  | tbl x q => rfl
mutual
theorem Rep.cut {m : List Addr} (e : T'.loc = T.loc ++ m) (eh : T'.hid = T.hid) : ∀ {v : V} {d : D}, Rep K T' H v d → Dv.clo T.loc.length d = true → Rep K T H v d
  | _, _, .non, _ => .non
  | _, _, .bl b, _ => .bl b
  | _, _, .int i, _ => .int i
  | _, _, .str x, _ => .str x
  | _, _, .ty x, _ => .ty x
  | _, _, .tup h n r, c => .tup h ⟨fun z => n.1 (by rw [e]; exact List.mem_append_left _ z), by rw [← eh]; exact n.2⟩ (RepL.cut e eh r c)
  | _, _, .lst h n r, c => .lst h ⟨fun z => n.1 (by rw [e]; exact List.mem_append_left _ z), by rw [← eh]; exact n.2⟩ (RepL.cut e eh r c)
  | _, _, .scr (.inl ⟨h, n⟩), _ => .scr (.inl ⟨h, fun z => n.1 (by rw [e]; exact List.mem_append_left _ z), by rw [← eh]; exact n.2⟩)
  | _, _, .scr (.inr h), _ => .scr (.inr h)
  | _, _, @Rep.dct _ _ _ a kvs kds h n q r, c => .dct h ⟨fun z => n.1 (by rw [e]; exact List.mem_append_left _ z), by rw [← eh]; exact n.2⟩ q (RepL.cut e eh r (by
    have c : cloK _ kds = true := c
    rw [cloK_eq] at c
    exact c))
  | _, _, .loc h, c => .loc (by
    rw [e, List.getElem?_append_left (of_decide_eq_true c)] at h
    exact h)
  | _, _, .tux d h n r, c => .tux d h ⟨fun z => n.1 (by rw [e]; exact List.mem_append_left _ z), by rw [← eh]; exact n.2⟩ (RepL.cut e eh r c)
  | _, _, @Rep.dtt _ _ _ a kvs kds h n q r, c => .dtt h ⟨fun z => n.1 (by rw [e]; exact List.mem_append_left _ z), by rw [← eh]; exact n.2⟩ q (RepL.cut e eh r (by
    have c : cloT _ kds = true := c
    rw [cloT_eq] at c
    exact c))
  | _, _, .adr _, _ => .adr _
  | _, _, @Rep.dpr _ _ _ a w xs kds h n q r r2, c => .dpr h ⟨fun z => n.1 (by rw [e]; exact List.mem_append_left _ z), by rw [← eh]; exact n.2⟩ q (RepL.cut e eh r (cloL_prD _ _ _)) (RepL.cut e eh r2 (by
    have c : cloP _ kds = true := c
    rw [cloP_eq] at c
    exact c))
theorem RepL.cut {m : List Addr} (e : T'.loc = T.loc ++ m) (eh : T'.hid = T.hid) : ∀ {vs : List V} {ds : List D}, RepL K T' H vs ds → cloL T.loc.length ds = true → RepL K T H vs ds
  | _, _, .nil, _ => .nil
  | _, _, @RepL.cons _ _ _ v vs d ds h r, c => by
    have c : (Dv.clo _ d && cloL _ ds) = true := c
    rw [Bool.and_eq_true] at c
    exact .cons (Rep.cut e eh h c.1) (RepL.cut e eh r c.2)
end
theorem ORep.cut {m : List Addr} {a : Addr} {o : O} (e : T'.loc = T.loc ++ m) (eh : T'.hid = T.hid) (h : ORep K mg T' H a o) (c : cloO T.loc.length o = true) : ORep K mg T H a o := by
  cases o with
  | lst ds => obtain ⟨xs, h1, h2⟩ := h; exact ⟨xs, h1, h2.cut e eh c⟩
  | dct kds =>
    obtain ⟨xs, h1, h3, h2⟩ := h
    have c : cloK _ kds = true := c
    rw [cloK_eq] at c
    exact ⟨xs, h1, h3, h2.cut e eh c⟩
  | dtt kds =>
    obtain ⟨xs, h1, h3, h2⟩ := h
    have c : cloT _ kds = true := c
    rw [cloT_eq] at c
    exact ⟨xs, h1, h3, h2.cut e eh c⟩
  | dpr w kds =>
    obtain ⟨xs, h1, h3, h2, h4⟩ := h
    have c : cloP _ kds = true := c
    rw [cloP_eq] at c
    exact ⟨xs, h1, h3, h2.cut e eh (cloL_prD _ _ _), h4.cut e eh c⟩
  | ins n fs => obtain ⟨C, dx, fvs, h1, h2, h3, h4⟩ := h; exact ⟨C, dx, fvs, h1, h2, h3, h4.cut e eh c⟩
  | tbl x q =>
    obtain ⟨hx, ps, h1, h2, h3⟩ := h
    refine ⟨hx, ps, h1, h2, fun pos cv hc => ?_⟩
    obtain ⟨z, rfl, h4, h5⟩ := h3 pos cv hc
    exact ⟨z, rfl, h4, fun q => h5.1 (by rw [e]; exact List.mem_append_left _ q), by rw [← eh]; exact h5.2⟩
end
def Tr (S S1 : Store) : Prop := S.length ≤ S1.length ∧ ∀ (i : Nat) (o : O), i < S.length → S1[i]? = some o → S[i]? = some o ∨ cloO S.length o = true
theorem Tr.app (S E : Store) : Tr S (S ++ E) := ⟨by rw [List.length_append]; omega, fun i o hi h => .inl (by rw [List.getElem?_append_left hi] at h; exact h)⟩
theorem Tr.set (S E : Store) (n : Nat) (o : O) (h : cloO S.length o = true) : Tr S (S.set n o ++ E) := ⟨by rw [List.length_append, List.length_set]; omega, fun i o' hi q => by
  rw [List.getElem?_append_left (by rw [List.length_set]; exact hi)] at q
  by_cases e : n = i
  · subst e
    rw [List.getElem?_set_self hi] at q
    cases q
    exact .inr h
  · rw [List.getElem?_set_ne e] at q
    exact .inl q⟩
def fzD (n : Nat) (S : Store) (d : D) : Option D := match d with
  | .loc m => if m < n then some (.loc m) else match S[m]? with
    | some (.lst ds) => if cloL n ds = true then some (.lst ds) else none
    | some (.dct kvs) => if cloK n kvs = true then some (.dct kvs) else none
    | some (.dtt kvs) => if cloT n kvs = true then some (.dtt kvs) else none
    | _ => none
  | d => if clo n d = true then some d else none
def fzL (g : D → Option D) : List D → Option (List D)
  | [] => some []
  | d :: ds => match g d, fzL g ds with
    | some a, some b => some (a :: b)
    | _, _ => none
def fzN : Nat → Nat → Store → D → Option D
  | 0, _, _, _ => none
  | f + 1, n, S, d => match d with
    | .loc m => if m < n then some (.loc m) else match S[m]? with
      | some (.lst ds) => (fzL (fzN f n S) ds).map .lst
      | some (.dct kvs) => (fzL (fzN f n S) (kvs.map (·.2))).map fun vs => .dct ((kvs.map (·.1)).zip vs)
      | some (.dtt kvs) => (fzL (fzN f n S) (kvs.map (·.2))).map fun vs => .dtt ((kvs.map (·.1)).zip vs)
      | _ => none
    | .tup ds => (fzL (fzN f n S) ds).map .tup
    | .lst ds => (fzL (fzN f n S) ds).map .lst
    | d => if clo n d = true then some d else none
def fzE (n : Nat) (S : Store) (d : D) : Option D := match fzD n S d with
  | some x => some x
  | none => fzN 9 n S d
theorem fzL_len {g : D → Option D} : ∀ {ds es : List D}, fzL g ds = some es → es.length = ds.length
  | [], _, h => by cases h; rfl
  | d :: ds, es, h => by
    unfold fzL at h
    split at h
    · rename_i a b e1 e2
      cases h
      rw [List.length_cons, List.length_cons, fzL_len e2]
    · cases h
theorem zip_keys {α : Type} : ∀ {ks : List α} {vs : List D}, vs.length = ks.length → (ks.zip vs).map (·.1) = ks ∧ (ks.zip vs).map (·.2) = vs
  | [], [], _ => ⟨rfl, rfl⟩
  | k :: ks, v :: vs, h => by
    obtain ⟨h1, h2⟩ := zip_keys (ks := ks) (vs := vs) (by simpa using h)
    rw [List.zip_cons_cons, List.map_cons, List.map_cons, h1, h2]
    exact ⟨rfl, rfl⟩
  | [], _ :: _, h => by cases h
  | _ :: _, [], h => by cases h
open Classical in
def finT (S : Store) (z : Z) : R D := match z with
  | .ok (.ret d) _ S1 => if Tr S S1 then (match fzE S.length S1 d with
    | some d' => .ok d' (S1.take S.length)
    | none => .bad) else .bad
  | .ok .next _ S1 => if Tr S S1 then .ok .non (S1.take S.length) else .bad
  | .exc n _ S1 => if Tr S S1 then .exc n (S1.take S.length) else .bad
  | _ => .bad
def runT (sz : Nat) (b : SM) : List D → Store → R D := fun ds S => finT S (b (frame sz ds) S)
section
variable {K : PySem.W.Frag} {mg : Str → Option Value} {T T1 : Tb} {H H1 : Hp} {S S1 : Store}
theorem tr_back (sim : Sim K mg T S H) (st : Step T H T1 H1) (sim1 : Sim K mg T1 S1 H1) (tr : Tr S S1) : Step T H T H1 ∧ Sim K mg T (S1.take S.length) H1 := by
  obtain ⟨m, em⟩ := st.ext
  refine ⟨⟨⟨[], by simp⟩, rfl, st.hkeep, st.keep, fun a h n => absurd h n⟩, ?_, sim.nd, fun i a o h1 h2 => ?_, fun a h => by rw [← st.hid] at h; exact sim1.hid' a h, sim1.hl⟩
  · rw [List.length_take, sim.len]
    have := tr.1
    omega
  · have hi : i < S.length := by rw [← sim.len]; exact (List.getElem?_eq_some_iff.mp h1).1
    rw [List.getElem?_take, if_pos hi] at h2
    refine (sim1.obj i a o (st.get h1) h2).cut em st.hid ?_
    rcases tr.2 i o hi h2 with q | q
    · exact (sim.obj i a o h1 q).clo
    · rw [sim.len]; exact q
theorem fz_back (sim : Sim K mg T S H) (st : Step T H T1 H1) (sim1 : Sim K mg T1 S1 H1) {v : V} {d d' : D} (h : Rep K T1 H1 v d) (e : fzD S.length S1 d = some d') : Rep K T H1 v d' := by
  obtain ⟨m, em⟩ := st.ext
  have off : ∀ (i : Nat) (a : Addr), T1.loc[i]? = some a → ¬ i < S.length → T.off a := fun i a h1 hi => ⟨fun z => by
    obtain ⟨j, hj, ej⟩ := List.mem_iff_getElem.mp z
    have h2 : T1.loc[j]? = some a := st.get (by rw [List.getElem?_eq_getElem hj, ej])
    have := nd_ix sim1.ndl h1 h2
    rw [sim.len] at hj
    omega, fun z => sim1.apart (List.mem_of_getElem? h1) (by rw [st.hid]; exact z)⟩
  have plain : ∀ d, (∀ n, d ≠ .loc n) → fzD S.length S1 d = (if clo S.length d = true then some d else none) := fun d hd => by
    cases d <;> first | rfl | exact absurd rfl (hd _)
  by_cases hd : ∀ n, d ≠ .loc n
  · rw [plain d hd] at e
    split at e
    · rename_i c
      cases e
      exact h.cut em st.hid (by rw [sim.len]; exact c)
    · cases e
  · cases d with
    | loc k =>
      cases h with
      | loc hk =>
        simp only [fzD] at e
        split at e
        · rename_i hlt
          cases e
          refine .loc ?_
          rw [em, List.getElem?_append_left (by rw [sim.len]; exact hlt)] at hk
          exact hk
        · rename_i hlt
          have of := off k _ hk hlt
          split at e
          · rename_i ds es
            split at e
            · rename_i c
              cases e
              obtain ⟨xs, q1, q2⟩ := sim1.obj k _ _ hk es
              exact .lst q1 of (q2.cut em st.hid (by rw [sim.len]; exact c))
            · cases e
          · rename_i kvs es
            split at e
            · rename_i c
              cases e
              obtain ⟨xs, q1, q3, q2⟩ := sim1.obj k _ _ hk es
              rw [cloK_eq] at c
              exact .dct (.inl q1) of q3 (q2.cut em st.hid (by rw [sim.len]; exact c))
            · cases e
          · rename_i kvs es
            split at e
            · rename_i c
              cases e
              obtain ⟨xs, q1, q3, q2⟩ := sim1.obj k _ _ hk es
              rw [cloT_eq] at c
              exact .dtt (.inl q1) of q3 (q2.cut em st.hid (by rw [sim.len]; exact c))
            · cases e
          · cases e
    | _ => exact absurd (fun n q => by cases q) hd
theorem fzN_back (sim : Sim K mg T S H) (st : Step T H T1 H1) (sim1 : Sim K mg T1 S1 H1) : ∀ (f : Nat) {v : V} {d d' : D}, Rep K T1 H1 v d → fzN f S.length S1 d = some d' → Rep K T H1 v d' := by
  obtain ⟨m, em⟩ := st.ext
  have off : ∀ (i : Nat) (a : Addr), T1.loc[i]? = some a → ¬ i < S.length → T.off a := fun i a h1 hi => ⟨fun z => by
    obtain ⟨j, hj, ej⟩ := List.mem_iff_getElem.mp z
    have h2 : T1.loc[j]? = some a := st.get (by rw [List.getElem?_eq_getElem hj, ej])
    have := nd_ix sim1.ndl h1 h2
    rw [sim.len] at hj
    omega, fun z => sim1.apart (List.mem_of_getElem? h1) (by rw [st.hid]; exact z)⟩
  have sub : ∀ a, T1.off a → T.off a := fun a n => ⟨fun z => n.1 (by rw [em]; exact List.mem_append_left _ z), by rw [← st.hid]; exact n.2⟩
  intro f
  induction f with
  | zero => intro v d d' _ e; cases e
  | succ f ih =>
    have all : ∀ {vs : List V} {ds es : List D}, RepL K T1 H1 vs ds → fzL (fzN f S.length S1) ds = some es → RepL K T H1 vs es := by
      intro vs ds
      induction ds generalizing vs with
      | nil =>
        intro es r e
        cases r
        cases e
        exact .nil
      | cons d ds ihd =>
        intro es r e
        unfold fzL at e
        split at e
        · rename_i a b e1 e2
          cases e
          cases r with
          | cons r1 r2 => exact .cons (ih r1 e1) (ihd r2 e2)
        · cases e
    intro v d d' h e
    unfold fzN at e
    split at e
    · rename_i k
      cases h with
      | loc hk =>
        split at e
        · rename_i hlt
          cases e
          refine .loc ?_
          rw [em, List.getElem?_append_left (by rw [sim.len]; exact hlt)] at hk
          exact hk
        · rename_i hlt
          have of := off k _ hk hlt
          split at e
          · rename_i ds es
            obtain ⟨ys, h1, rfl⟩ := Option.map_eq_some_iff.mp e
            obtain ⟨xs, q1, q2⟩ := sim1.obj k _ _ hk es
            exact .lst q1 of (all q2 h1)
          · rename_i kvs es
            obtain ⟨ys, h1, rfl⟩ := Option.map_eq_some_iff.mp e
            obtain ⟨xs, q1, q3, q2⟩ := sim1.obj k _ _ hk es
            have hz := zip_keys (ks := kvs.map (·.1)) (vs := ys) (by rw [fzL_len h1, List.length_map, List.length_map])
            exact .dct (.inl q1) of (by rw [hz.1]; exact q3) (by rw [hz.2]; exact all q2 h1)
          · rename_i kvs es
            obtain ⟨ys, h1, rfl⟩ := Option.map_eq_some_iff.mp e
            obtain ⟨xs, q1, q3, q2⟩ := sim1.obj k _ _ hk es
            have hz := zip_keys (ks := kvs.map (·.1)) (vs := ys) (by rw [fzL_len h1, List.length_map, List.length_map])
            exact .dtt (.inl q1) of (by rw [hz.1]; exact q3) (by rw [hz.2]; exact all q2 h1)
          · cases e
    · obtain ⟨ys, h1, rfl⟩ := Option.map_eq_some_iff.mp e
      cases h with
      | tup hh n r => exact .tup hh (sub _ n) (all r h1)
    · obtain ⟨ys, h1, rfl⟩ := Option.map_eq_some_iff.mp e
      cases h with
      | lst hh n r => exact .lst hh (sub _ n) (all r h1)
    · split at e
      · rename_i c
        cases e
        exact h.cut em st.hid (by rw [sim.len]; exact c)
      · cases e
theorem fzE_back (sim : Sim K mg T S H) (st : Step T H T1 H1) (sim1 : Sim K mg T1 S1 H1) {v : V} {d d' : D} (h : Rep K T1 H1 v d) (e : fzE S.length S1 d = some d') : Rep K T H1 v d' := by
  unfold fzE at e
  split at e
  · rename_i x ex
    cases e
    exact fz_back sim st sim1 h ex
  · exact fzN_back sim st sim1 9 h e
end
section
variable {P : Program} {w : World} {K : PySem.W.Frag} {mg : Str → Option Value} {base : Heap} {x qual : Str} {st : Stmt} {f : Addr} {fd : FuncData} {N ps : List Str} {k : Nat} {b : SM}
theorem fnT (F : Fun K x qual st f fd) (Sc : FnScope N ps (defScope st)) (hb : BodyOk P w K mg base N qual st f k b) : FnOk P w K mg base (L2.CX P w) (k + 1) f fd ps (spD K mg ps.length (runT N.length b)) := by
  refine F.okX Sc (fun vs H Q E h => h.1) fun cdv A outer s H vs Q E hr hsp => ⟨_, hb cdv A outer s H E hr, ?_⟩
  obtain ⟨hl, T, S, ds, rep, sim, out⟩ := hsp
  refine ⟨T, frame N.length ds, S, frame_ok N rep, sim, ?_⟩
  unfold runT finT at out
  revert out
  cases b (frame N.length ds) S with
  | bad => exact fun h => h
  | exc n r' S' =>
    intro h T' H' g' s sim' _
    dsimp only at h
    split at h
    · rename_i tr
      obtain ⟨s1, m1⟩ := tr_back sim s sim' tr
      exact h T H' s1 m1
    · exact h.elim
  | ok fl r' S' =>
    cases fl with
    | next =>
      intro h T' H' g' s sim' rs'
      dsimp only at h
      split at h
      · rename_i tr
        obtain ⟨s1, m1⟩ := tr_back sim s sim' tr
        exact h T H' .non s1 m1 .non
      · exact h.elim
    | ret d =>
      intro h T' H' v s sim' rv
      dsimp only at h
      split at h
      · rename_i tr
        obtain ⟨s1, m1⟩ := tr_back sim s sim' tr
        split at h
        · rename_i d' ed
          exact h T H' v s1 m1 (fzE_back sim s sim' rv ed)
        · exact h.elim
      · exact h.elim
    | brk => exact fun h => h.elim
    | cont => exact fun h => h.elim
end
end Dv
namespace Dv
open PySem L2
def subD (a b : D) (_ : Store) : Option D := match a, b with
  | .int i, .int j => some (.int (i - j))
  | _, _ => none
def fdivD (a b : D) (_ : Store) : Option D := match a, b with
  | .int i, .int j => if 0 < j ∧ j < 1073741824 then some (.int (i / j)) else none
  | _, _ => none
def modD (a b : D) (_ : Store) : Option D := match a, b with
  | .int i, .int j => if 0 < j then some (.int (i % j)) else none
  | _, _ => none
def addD (a b : D) (_ : Store) : Option D := match a, b with
  | .int i, .int j => some (.int (i + j))
  | .str x, .str y => if x.length + y.length ≤ 100000 then some (.str (x ++ y)) else none
  | .tup xs, .tup ys => if xs.length + ys.length ≤ 100000 then some (.tup (xs ++ ys)) else none
  | .lst xs, .lst ys => if xs.length + ys.length ≤ 100000 then some (.lst (xs ++ ys)) else none
  | _, _ => none
def mulD (a b : D) (_ : Store) : Option D := match a, b with
  | .int i, .int j => if (-(2 ^ 64) < i ∧ i < 2 ^ 64) ∨ (-(2 ^ 64) < j ∧ j < 2 ^ 64) then some (.int (i * j)) else none
  | .lst xs, .int k => if -100000 ≤ k ∧ k ≤ 100000 ∧ xs.length * k.toNat ≤ 100000 then some (.lst (List.replicate k.toNat xs).flatten) else none
  | _, _ => none
def ltD (a b : D) (_ : Store) : Option D := match a, b with
  | .int i, .int j => some (.bl (decide (i < j)))
  | .str x, .str y => some (.bl (decide (x.cps.toList < y.cps.toList)))
  | _, _ => none
def gtD (a b : D) (_ : Store) : Option D := match a, b with
  | .int i, .int j => some (.bl (decide (j < i)))
  | _, _ => none
section
variable {X : Cx} {K : PySem.W.Frag} {mg : Str → Option Value}
theorem pok_I0 {g : Int → Int → V} {gd : Int → Int → D} {f : D → D → Store → Option D} (hf : ∀ a b S d, f a b S = some d → ∃ i j, a = .int i ∧ b = .int j ∧ d = gd i j) (hg : ∀ T H i j, Rep K T H (g i j) (gd i j)) : POk2 K mg (rI0 g) f := fun T S H x y a b d Q sim rx ry e k => by
  obtain ⟨i, j, rfl, rfl, rfl⟩ := hf a b S d e
  exact ⟨i, j, rx.int_of, ry.int_of, k H _ (Step.refl T H) sim (hg T H i j)⟩
theorem pok_I {C : Int → Int → Prop} {g : Int → Int → V} {gd : Int → Int → D} {f : D → D → Store → Option D} (hf : ∀ a b S d, f a b S = some d → ∃ i j, a = .int i ∧ b = .int j ∧ C i j ∧ d = gd i j) (hg : ∀ T H i j, Rep K T H (g i j) (gd i j)) : POk2 K mg (rI C g) f := fun T S H x y a b d Q sim rx ry e k => by
  obtain ⟨i, j, rfl, rfl, hc, rfl⟩ := hf a b S d e
  exact ⟨i, j, rx.int_of, ry.int_of, hc, k H _ (Step.refl T H) sim (hg T H i j)⟩
theorem pok_sub : POk2 K mg (rI0 fun i j => .int (i - j)) subD := pok_I0 (gd := fun i j => .int (i - j)) (fun a b S d e => by
  cases a <;> cases b <;> cases e
  exact ⟨_, _, rfl, rfl, rfl⟩) fun _ _ _ _ => .int _
theorem pok_fdiv : POk2 K mg (rI CDiv fun i j => .int (i / j)) fdivD := pok_I (gd := fun i j => .int (i / j)) (fun a b S d e => by
  cases a <;> cases b <;> try cases e
  simp only [fdivD] at e
  split at e
  · rename_i h
    cases e
    exact ⟨_, _, rfl, rfl, h, rfl⟩
  · cases e) fun _ _ _ _ => .int _
theorem pok_mod : POk2 K mg (rI (fun _ j => 0 < j) fun i j => .int (i % j)) modD := pok_I (gd := fun i j => .int (i % j)) (fun a b S d e => by
  cases a <;> cases b <;> try cases e
  simp only [modD] at e
  split at e
  · rename_i h
    cases e
    exact ⟨_, _, rfl, rfl, h, rfl⟩
  · cases e) fun _ _ _ _ => .int _
def rAddA (K : PySem.W.Frag) : R2 := fun x y H Q => (∃ i j, x = .int i ∧ y = .int j ∧ Q (.int (i + j)) H) ∨ (∃ i j, x = .str i ∧ y = .str j ∧ i.length + j.length ≤ sizeLine ∧ Q (.str (i ++ j)) H) ∨ rCatA K x y H Q ∨ rCat x y H Q
theorem op_addA : OpR X (binaryOp .Add) (rAddA X.K) := op_add.or (op_add_str.or (op_catA.or op_cat))
theorem pok_add : POk2 K mg (rAddA K) addD := fun T S H x y a b d Q sim rx ry e k => by
  cases rx <;> cases ry <;> try cases e
  · exact .inl ⟨_, _, rfl, rfl, k H _ (Step.refl T H) sim (.int _)⟩
  · simp only [addD] at e
    split at e
    · rename_i h
      cases e
      exact .inr (.inl ⟨_, _, rfl, rfl, sz5 h, k H _ (Step.refl T H) sim (.str _)⟩)
    · cases e
  · rename_i a1 xs ds h1 n1 r1 a2 ys es h2 n2 r2
    simp only [addD] at e
    split at e
    · rename_i hz
      cases e
      have hz' : xs.length + ys.length ≤ sizeLine := by rw [r1.length, r2.length]; exact sz5 hz
      refine .inr (.inr (.inl ⟨a1, a2, xs, ys, rfl, rfl, SqT.of h1, SqT.of h2, hz', fun q => ?_, fun q1 q2 => ?_, fun q1 q2 p hp => ?_⟩))
      · subst q
        cases r1
        exact k H _ (Step.refl T H) sim (.tup h2 n2 r2)
      · subst q2
        cases r2
        rw [List.append_nil] at k
        exact k H _ (Step.refl T H) sim (.tup h1 n1 r1)
      · have st := sim.stepNew (o := .tup (xs ++ ys)) hp
        exact k _ _ st (sim.new hp (hlen_tup sim.hl (by rw [List.length_append]; exact hz'))) (.tup upd_same (sim.off hp) (RepL.append (r1.step st) (r2.step st)))
    · cases e
  · rename_i a1 xs ds h1 n1 r1 a2 ys es h2 n2 r2
    simp only [addD] at e
    split at e
    · rename_i hz
      cases e
      have hz' : xs.length + ys.length ≤ sizeLine := by rw [r1.length, r2.length]; exact sz5 hz
      refine .inr (.inr (.inr ⟨a1, a2, xs, ys, rfl, rfl, h1, h2, hz', fun p hp => ?_⟩))
      have st := sim.stepNew (o := .lst (xs ++ ys)) hp
      exact k _ _ st (sim.new hp (hlen_lst sim.hl (by rw [List.length_append]; exact hz'))) (.lst upd_same (sim.off hp) (RepL.append (r1.step st) (r2.step st)))
    · cases e
def rMulA : R2 := fun x y H Q => rI CMul (fun i j => .int (i * j)) x y H Q ∨ rRep x y H Q
theorem op_mulA : OpR X (binaryOp .Mult) rMulA := op_mul.or op_rep
theorem flat_len {α : Type} (xs : List α) : ∀ k : Nat, (List.replicate k xs).flatten.length = xs.length * k
  | 0 => rfl
  | k + 1 => by
    rw [List.replicate_succ, List.flatten_cons, List.length_append, flat_len xs k, Nat.mul_succ, Nat.add_comm]
theorem pok_mul : POk2 K mg rMulA mulD := fun T S H x y a b d Q sim rx ry e k => by
  cases rx <;> cases ry <;> try cases e
  · simp only [mulD] at e
    split at e
    · rename_i h
      cases e
      exact .inl ⟨_, _, rfl, rfl, h, k H _ (Step.refl T H) sim (.int _)⟩
    · cases e
  · rename_i a1 xs ds h1 n1 r1 i
    simp only [mulD] at e
    split at e
    · rename_i hz
      cases e
      have hz' : xs.length * i.toNat ≤ sizeLine := by rw [r1.length]; exact sz5 hz.2.2
      refine .inr ⟨a1, i, xs, rfl, rfl, h1, by omega, by omega, hz', fun p hp => ?_⟩
      have st := sim.stepNew (o := .lst (List.replicate i.toNat xs).flatten) hp
      exact k _ _ st (sim.new hp (hlen_lst sim.hl (by rw [flat_len]; exact hz'))) (.lst upd_same (sim.off hp) ((r1.step st).rep i.toNat))
    · cases e
def rLtA (K : PySem.W.Frag) : R2 := fun x y H Q => (∃ i j, x = .int i ∧ y = .int j ∧ Q (.bl (decide (i < j))) H) ∨ (∃ i j, x = .str i ∧ y = .str j ∧ Q (.bl (decide (i.cps.toList < j.cps.toList))) H)
theorem op_ltA : OpR X (compareOp .Lt) (rLtA X.K) := op_lt.or op_lt_str
theorem pok_lt : POk2 K mg (rLtA K) ltD := fun T S H x y a b d Q sim rx ry e k => by
  cases rx <;> cases ry <;> cases e
  · exact .inl ⟨_, _, rfl, rfl, k H _ (Step.refl T H) sim (.bl _)⟩
  · exact .inr ⟨_, _, rfl, rfl, k H _ (Step.refl T H) sim (.bl _)⟩
theorem pok_gt : POk2 K mg (rI0 fun i j => .bl (decide (j < i))) gtD := pok_I0 (gd := fun i j => .bl (decide (j < i))) (fun a b S d e => by
  cases a <;> cases b <;> cases e
  exact ⟨_, _, rfl, rfl, rfl⟩) fun _ _ _ _ => .bl _
end
mutual
def pyD : D → PyData
  | .non => .none
  | .bl b => .bool b
  | .int i => .int i
  | .str x => .str x
  | .tup xs => .tuple (pyDs xs)
  | .lst xs => .list (pyDs xs)
  | .scr _ => .none
  | .dct _ => .none
  | .dtt _ => .none
  | .dpr _ _ => .none
  | .adr _ => .none
  | .loc _ => .none
  | .ty _ => .none
  | .tux _ => .none
def pyDs : List D → List PyData
  | [] => []
  | d :: ds => pyD d :: pyDs ds
end
mutual
def dat : D → Bool
  | .non => true
  | .bl _ => true
  | .int _ => true
  | .str _ => true
  | .tup xs => dats xs
  | .lst xs => dats xs
  | .scr _ => false
  | .dct _ => false
  | .dtt _ => false
  | .dpr _ _ => false
  | .adr _ => false
  | .loc _ => false
  | .ty _ => false
  | .tux _ => false
def dats : List D → Bool
  | [] => true
  | d :: ds => dat d && dats ds
end
theorem pyDs_map : ∀ ds : List D, pyDs ds = ds.map pyD
  | [] => rfl
  | d :: ds => by
    show pyD d :: pyDs ds = _
    rw [pyDs_map ds]
    rfl
section
variable {K : PySem.W.Frag} {T : Tb} {H : Hp}
mutual
theorem Rep.dp : ∀ {v : V} {d : D}, Rep K T H v d → dat d = true → Dp K H v (pyD d)
  | _, _, .non, _ => .non
  | _, _, .bl b, _ => .bl b
  | _, _, .int i, _ => .int i
  | _, _, .str x, _ => .str x
  | _, _, .tup h n r, c => .tup (SqT.of h) (RepL.dp r c)
  | _, _, .lst h n r, c => .lst (SqL.of h) (RepL.dp r c)
  | _, _, .scr h, c => by cases c
  | _, _, .dct h n e r, c => by cases c
  | _, _, .dtt h n e r, c => by cases c
  | _, _, .adr _, c => by cases c
  | _, _, .dpr _ _ _ _ _, c => by cases c
  | _, _, .loc h, c => by cases c
  | _, _, .ty h, c => by cases c
  | _, _, .tux _ _ _ _, c => by cases c
theorem RepL.dp : ∀ {vs : List V} {ds : List D}, RepL K T H vs ds → dats ds = true → DpAll K H vs (pyDs ds)
  | _, _, .nil, _ => .nil
  | _, _, @RepL.cons _ _ _ v vs d ds h r, c => by
    have c : (dat d && dats ds) = true := c
    rw [Bool.and_eq_true] at c
    exact .cons (Rep.dp h c.1) (RepL.dp r c.2)
end
end
def okD (d : D) : Bool := dat d && SeqAt.shaped (pyD d)
def eqvD (a b : D) : Bool := PyData.eqv (pyD a) (pyD b)
def now (d : D) (S : Store) : D := match d with
  | .loc n => match S[n]? with
    | some (.lst xs) => .lst xs
    | _ => .loc n
  | d => d
def eqO (a b : D) : Option Bool := match a, b with
  | .int i, .int j => some (decide (i = j))
  | .str x, .str y => some (decide (x = y))
  | .bl x, .bl y => some (decide (x = y))
  | a, b => if okD a = true ∧ okD b = true then some (eqvD a b) else none
def eqD (a b : D) (S : Store) : Option D := (eqO (now a S) (now b S)).map .bl
def neD (a b : D) (S : Store) : Option D := (eqO (now a S) (now b S)).map fun k => .bl (!k)
section
variable {X : Cx} {K : PySem.W.Frag} {mg : Str → Option Value}
def rEqA (K : PySem.W.Frag) : R2 := fun x y H Q => rEq x y H Q ∨ rEqD K x y H Q
def rNeA (K : PySem.W.Frag) : R2 := fun x y H Q => rNe x y H Q ∨ rNeD K x y H Q
theorem op_eqA (hu : X.A.units + 64 < cLine) : OpR X (compareOp .Eq) (rEqA X.K) := op_eq.or (op_eqD hu)
theorem op_neA (hu : X.A.units + 64 < cLine) : OpR X (compareOp .NotEq) (rNeA X.K) := op_ne.or (op_neD hu)
theorem now_dp {T : Tb} {S : Store} {H : Hp} {v : V} {d : D} (sim : Sim K mg T S H) (h : Rep K T H v d) (c : dat (now d S) = true) : Dp K H v (pyD (now d S)) := by
  cases d with
  | loc n =>
    simp only [now] at c ⊢
    split at c
    · rename_i xs e
      cases h with
      | loc hn =>
        obtain ⟨ys, q1, q2⟩ := sim.obj _ _ _ hn e
        exact .lst (SqL.of q1) (q2.dp c)
    · cases c
  | _ => exact h.dp c
theorem now_int {T : Tb} {S : Store} {H : Hp} {v : V} {d : D} {i : Int} (h : Rep K T H v d) (e : now d S = .int i) : v = .int i := by
  cases d with
  | loc n =>
    simp only [now] at e
    split at e <;> cases e
  | int j => cases e; exact h.int_of
  | _ => cases e
theorem now_str {T : Tb} {S : Store} {H : Hp} {v : V} {d : D} {i : Str} (h : Rep K T H v d) (e : now d S = .str i) : v = .str i := by
  cases d with
  | loc n =>
    simp only [now] at e
    split at e <;> cases e
  | str j => cases e; exact h.str_of
  | _ => cases e
theorem now_bl {T : Tb} {S : Store} {H : Hp} {v : V} {d : D} {i : Bool} (h : Rep K T H v d) (e : now d S = .bl i) : v = .bl i := by
  cases d with
  | loc n =>
    simp only [now] at e
    split at e <;> cases e
  | bl j => cases e; exact h.bl_of
  | _ => cases e
theorem eqO_cases {T : Tb} {S : Store} {H : Hp} {x y : V} {a b : D} {k : Bool} (sim : Sim K mg T S H) (rx : Rep K T H x a) (ry : Rep K T H y b) (e : eqO (now a S) (now b S) = some k) :
    (scal x y = true ∧ k = decide (x = y)) ∨ (∃ d1 d2, Dp K H x d1 ∧ Dp K H y d2 ∧ SeqAt.shaped d1 = true ∧ SeqAt.shaped d2 = true ∧ k = PyData.eqv d1 d2) := by
  unfold eqO at e
  split at e
  · rename_i i j e1 e2
    cases e
    rw [now_int rx e1, now_int ry e2]
    exact .inl ⟨rfl, by rw [dec_int, Bool.beq_eq_decide_eq]⟩
  · rename_i i j e1 e2
    cases e
    rw [now_str rx e1, now_str ry e2]
    exact .inl ⟨rfl, by rw [dec_str, Bool.beq_eq_decide_eq]⟩
  · rename_i i j e1 e2
    cases e
    rw [now_bl rx e1, now_bl ry e2]
    exact .inl ⟨rfl, by rw [dec_bl, Bool.beq_eq_decide_eq]⟩
  · split at e
    · rename_i h
      cases e
      have h1 := h.1
      have h2 := h.2
      unfold okD at h1 h2
      rw [Bool.and_eq_true] at h1 h2
      exact .inr ⟨_, _, now_dp sim rx h1.1, now_dp sim ry h2.1, h1.2, h2.2, rfl⟩
    · cases e
theorem pok_eq : POk2 K mg (rEqA K) eqD := fun T S H x y a b d Q sim rx ry e k => by
  unfold eqD at e
  cases q : eqO (now a S) (now b S) with
  | none => rw [q] at e; cases e
  | some t =>
    rw [q] at e
    cases e
    have kk := k H (.bl t) (Step.refl T H) sim (.bl t)
    rcases eqO_cases sim rx ry q with ⟨h1, h2⟩ | ⟨d1, d2, h1, h2, h3, h4, h5⟩
    · exact .inl ⟨h1, by rw [← h2]; exact kk⟩
    · exact .inr ⟨d1, d2, h1, h2, h3, h4, by rw [← h5]; exact kk⟩
theorem pok_ne : POk2 K mg (rNeA K) neD := fun T S H x y a b d Q sim rx ry e k => by
  unfold neD at e
  cases q : eqO (now a S) (now b S) with
  | none => rw [q] at e; cases e
  | some t =>
    rw [q] at e
    cases e
    have kk := k H (.bl (!t)) (Step.refl T H) sim (.bl (!t))
    rcases eqO_cases sim rx ry q with ⟨h1, h2⟩ | ⟨d1, d2, h1, h2, h3, h4, h5⟩
    · exact .inl ⟨h1, by rw [← h2]; exact kk⟩
    · exact .inr ⟨d1, d2, h1, h2, h3, h4, by rw [← h5]; exact kk⟩
end
def isND (a b : D) (_ : Store) : Option D := match a, b with
  | .non, .non => some (.bl true)
  | _, .non => some (.bl false)
  | _, _ => none
def notND (a b : D) (_ : Store) : Option D := match a, b with
  | .non, .non => some (.bl false)
  | _, .non => some (.bl true)
  | _, _ => none
def inO (a b : D) : Option Bool := match b with
  | .lst xs => if okD a = true ∧ okD (.lst xs) = true then some (xs.any fun z => eqvD z a) else none
  | _ => none
def ninD (a b : D) (S : Store) : Option D := (inO (now a S) (now b S)).map fun k => .bl (!k)
section
variable {X : Cx} {K : PySem.W.Frag} {mg : Str → Option Value}
theorem pok_isN : POk2 K mg (fun x y H Q => y = .non ∧ Q (.bl (decide (x = .non))) H) isND := fun T S H x y a b d Q sim rx ry e k => by
  cases ry <;> cases rx <;> cases e <;> exact ⟨rfl, k H _ (Step.refl T H) sim (.bl _)⟩
theorem pok_notN : POk2 K mg (fun x y H Q => y = .non ∧ Q (.bl (!decide (x = .non))) H) notND := fun T S H x y a b d Q sim rx ry e k => by
  cases ry <;> cases rx <;> cases e <;> exact ⟨rfl, k H _ (Step.refl T H) sim (.bl _)⟩
theorem inO_cases {T : Tb} {S : Store} {H : Hp} {x y : V} {a b : D} {k : Bool} (sim : Sim K mg T S H) (rx : Rep K T H x a) (ry : Rep K T H y b) (e : inO (now a S) (now b S) = some k) :
    ∃ d ds, Dp K H x d ∧ Dp K H y (.list ds) ∧ SeqAt.shaped d = true ∧ SeqAt.shaped (.list ds) = true ∧ k = ds.any fun z => PyData.eqv z d := by
  unfold inO at e
  split at e
  · rename_i xs e2
    split at e
    · rename_i h
      cases e
      have h1 := h.1
      have h2 := h.2
      rw [← e2] at h2
      unfold okD at h1 h2
      rw [Bool.and_eq_true] at h1 h2
      have q := now_dp sim ry h2.1
      have q2 := h2.2
      rw [e2] at q q2
      refine ⟨_, _, now_dp sim rx h1.1, q, h1.2, q2, ?_⟩
      rw [pyDs_map, List.any_map]
      rfl
    · cases e
  · cases e
theorem pok_nin : POk2 K mg (rNotInD K) ninD := fun T S H x y a b d Q sim rx ry e k => by
  unfold ninD at e
  cases q : inO (now a S) (now b S) with
  | none => rw [q] at e; cases e
  | some t =>
    rw [q] at e
    cases e
    obtain ⟨d, ds, h1, h2, h3, h4, h5⟩ := inO_cases sim rx ry q
    exact ⟨d, ds, h1, h2, h3, h4, by rw [← h5]; exact k H _ (Step.refl T H) sim (.bl _)⟩
end
end Dv
namespace Dv
open PySem L2
def lenD (ds : List D) (S : Store) : Option D := match ds with
  | [.lst xs] => some (.int xs.length)
  | [.tup xs] => some (.int xs.length)
  | [.scr xs] => some (.int xs.length)
  | [.str x] => if x.length ≤ 100000 then some (.int x.length) else none
  | [.loc n] => match S[n]? with
    | some (.lst xs) => some (.int xs.length)
    | _ => none
  | _ => none
def absD (ds : List D) (_ : Store) : Option D := match ds with
  | [.int i] => some (.int (if i < 0 then -i else i))
  | _ => none
def intD (ds : List D) (_ : Store) : Option D := match ds with
  | [.int i] => some (.int i)
  | [.bl b] => some (.int (if b = true then 1 else 0))
  | _ => none
def intsOf : List D → Option (List Int)
  | [] => some []
  | .int i :: ds => (intsOf ds).map (i :: ·)
  | _ :: _ => none
def blsOf : List D → Option (List Bool)
  | [] => some []
  | .bl i :: ds => (blsOf ds).map (i :: ·)
  | _ :: _ => none
theorem intsOf_map : ∀ ns : List Int, intsOf (ns.map D.int) = some ns
  | [] => rfl
  | n :: ns => by
    show (intsOf (ns.map D.int)).map (n :: ·) = _
    rw [intsOf_map ns]
    rfl
theorem intsOf_some : ∀ {ds : List D} {ns : List Int}, intsOf ds = some ns → ds = ns.map D.int
  | [], _, e => by cases e; rfl
  | d :: ds, ns, e => by
    cases d <;> try cases e
    simp only [intsOf] at e
    cases q : intsOf ds with
    | none => rw [q] at e; cases e
    | some ms =>
      rw [q] at e
      cases e
      rw [intsOf_some q]
      rfl
theorem blsOf_map : ∀ ns : List Bool, blsOf (ns.map D.bl) = some ns
  | [] => rfl
  | n :: ns => by
    show (blsOf (ns.map D.bl)).map (n :: ·) = _
    rw [blsOf_map ns]
    rfl
theorem blsOf_some : ∀ {ds : List D} {ns : List Bool}, blsOf ds = some ns → ds = ns.map D.bl
  | [], _, e => by cases e; rfl
  | d :: ds, ns, e => by
    cases d <;> try cases e
    simp only [blsOf] at e
    cases q : blsOf ds with
    | none => rw [q] at e; cases e
    | some ms =>
      rw [q] at e
      cases e
      rw [blsOf_some q]
      rfl
def maxI : List Int → Option Int
  | [] => none
  | [x] => some x
  | x :: xs => (maxI xs).map fun m => if m < x then x else m
theorem maxI_ok : ∀ {ns : List Int} {m : Int}, maxI ns = some m → m ∈ ns ∧ ∀ y ∈ ns, y ≤ m
  | [], _, e => by cases e
  | [x], m, e => by
    cases e
    exact ⟨List.mem_singleton.mpr rfl, fun y hy => by rw [List.mem_singleton.mp hy]; exact Int.le_refl _⟩
  | x :: y :: xs, m, e => by
    simp only [maxI] at e
    cases q : maxI (y :: xs) with
    | none => rw [show (maxI (y :: xs)) = none from q] at e; cases e
    | some k =>
      have e : (maxI (y :: xs)).map (fun m => if m < x then x else m) = some m := e
      rw [q] at e
      obtain ⟨h1, h2⟩ := maxI_ok q
      cases e
      show (if k < x then x else k) ∈ x :: y :: xs ∧ ∀ z ∈ x :: y :: xs, z ≤ (if k < x then x else k)
      by_cases hk : k < x
      · rw [if_pos hk]
        exact ⟨List.mem_cons_self, fun z hz => (List.mem_cons.mp hz).elim (fun e => by rw [e]; exact Int.le_refl _) fun hz => Int.le_trans (h2 z hz) (Int.le_of_lt hk)⟩
      · rw [if_neg hk]
        exact ⟨List.mem_cons_of_mem _ h1, fun z hz => (List.mem_cons.mp hz).elim (fun e => by rw [e]; omega) fun hz => h2 z hz⟩
def maxD (ds : List D) (_ : Store) : Option D := match ds with
  | [.lst xs] => ((intsOf xs).bind maxI).map .int
  | _ => none
def sumD (ds : List D) (_ : Store) : Option D := match ds with
  | [.lst xs] => (intsOf xs).map fun ns => .int ns.sum
  | _ => none
def allD (ds : List D) (_ : Store) : Option D := match ds with
  | [.lst xs] => (blsOf xs).map fun ns => .bl (ns.all id)
  | _ => none
def tupD (ds : List D) (S : Store) : Option D := match ds with
  | [.lst xs] => some (.tup xs)
  | [.tup xs] => some (.tup xs)
  | [.loc n] => match S[n]? with
    | some (.lst xs) => some (.tup xs)
    | _ => none
  | _ => none
def lstD (ds : List D) (S : Store) : Option D := match ds with
  | [.lst xs] => some (.lst xs)
  | [.tup xs] => some (.lst xs)
  | [.loc n] => match S[n]? with
    | some (.lst xs) => some (.lst xs)
    | _ => none
  | _ => none
section
variable {X : Cx} {K : PySem.W.Frag} {mg : Str → Option Value}
theorem RepL.one {T : Tb} {H : Hp} {vs : List V} {d : D} (h : RepL K T H vs [d]) : ∃ v, vs = [v] ∧ Rep K T H v d := by
  cases h with
  | cons r q =>
    cases q
    exact ⟨_, rfl, r⟩
theorem pok_len : POk K mg (fun xs H Q => ∃ x n, xs = [x] ∧ LenV K x H n ∧ Q (.int n) H) lenD := fun T S H vs ds d Q sim rep e k => by
  unfold lenD at e
  split at e
  · rename_i xs
    cases e
    obtain ⟨v, rfl, r⟩ := rep.one
    cases r with
    | lst h n q => exact ⟨_, _, rfl, .inl ⟨_, SqL.of h, q.length.symm⟩, k H _ (Step.refl T H) sim (.int _)⟩
  · rename_i xs
    cases e
    obtain ⟨v, rfl, r⟩ := rep.one
    cases r with
    | tup h n q => exact ⟨_, _, rfl, .inr ⟨_, SqT.of h, q.length.symm⟩, k H _ (Step.refl T H) sim (.int _)⟩
  · rename_i xs
    cases e
    obtain ⟨v, rfl, r⟩ := rep.one
    cases r with
    | scr h => exact ⟨_, _, rfl, .inl ⟨_, h.sq, (List.length_map ..).symm⟩, k H _ (Step.refl T H) sim (.int _)⟩
  · rename_i x
    obtain ⟨v, rfl, r⟩ := rep.one
    split at e
    · rename_i hz
      cases e
      cases r
      exact ⟨_, _, rfl, ⟨sz5 hz, rfl⟩, k H _ (Step.refl T H) sim (.int _)⟩
    · cases e
  · rename_i n
    obtain ⟨v, rfl, r⟩ := rep.one
    split at e
    · rename_i xs q
      cases e
      cases r with
      | loc hn =>
        obtain ⟨ys, q1, q2⟩ := sim.obj _ _ _ hn q
        exact ⟨_, _, rfl, .inl ⟨_, SqL.of q1, q2.length.symm⟩, k H _ (Step.refl T H) sim (.int _)⟩
    · cases e
  · cases e
theorem pok_abs : POk K mg (fun xs H Q => ∃ i, xs = [.int i] ∧ Q (.int (if i < 0 then -i else i)) H) absD := fun T S H vs ds d Q sim rep e k => by
  unfold absD at e
  split at e
  · cases e
    obtain ⟨v, rfl, r⟩ := rep.one
    exact ⟨_, by rw [r.int_of], k H _ (Step.refl T H) sim (.int _)⟩
  · cases e
theorem pok_int : POk K mg (fun xs H Q => (∃ i, xs = [.int i] ∧ Q (.int i) H) ∨ ∃ k, xs = [.bl k] ∧ Q (.int (if k then 1 else 0)) H) intD := fun T S H vs ds d Q sim rep e k => by
  unfold intD at e
  split at e
  · cases e
    obtain ⟨v, rfl, r⟩ := rep.one
    exact .inl ⟨_, by rw [r.int_of], k H _ (Step.refl T H) sim (.int _)⟩
  · cases e
    obtain ⟨v, rfl, r⟩ := rep.one
    exact .inr ⟨_, by rw [r.bl_of], k H _ (Step.refl T H) sim (.int _)⟩
  · cases e
theorem pok_max : POk K mg (rMax K) maxD := fun T S H vs ds d Q sim rep e k => by
  unfold maxD at e
  split at e
  · rename_i xs
    obtain ⟨v, rfl, r⟩ := rep.one
    cases q : intsOf xs with
    | none => rw [q] at e; cases e
    | some ns =>
      rw [q] at e
      have e : (maxI ns).map D.int = some d := e
      cases q2 : maxI ns with
      | none => rw [q2] at e; cases e
      | some m =>
        rw [q2] at e
        cases e
        have e3 := intsOf_some q
        subst e3
        obtain ⟨h1, h2⟩ := maxI_ok q2
        cases r with
        | lst h n r =>
          rw [r.of_ints] at h
          refine ⟨_, ns, rfl, SqL.of h, List.length_pos_of_mem h1, fun m' h3 h4 => ?_⟩
          have e5 : m' = m := Int.le_antisymm (h2 m' h3) (h4 m h1)
          subst e5
          exact k H _ (Step.refl T H) sim (.int _)
  · cases e
theorem pok_sum : POk K mg (rSum K) sumD := fun T S H vs ds d Q sim rep e k => by
  unfold sumD at e
  split at e
  · rename_i xs
    obtain ⟨v, rfl, r⟩ := rep.one
    cases q : intsOf xs with
    | none => rw [q] at e; cases e
    | some ns =>
      rw [q] at e
      cases e
      have e3 := intsOf_some q
      subst e3
      cases r with
      | lst h n r =>
        rw [r.of_ints] at h
        exact ⟨_, ns, rfl, SqL.of h, k H _ (Step.refl T H) sim (.int _)⟩
  · cases e
theorem pok_all : POk K mg (rAll K) allD := fun T S H vs ds d Q sim rep e k => by
  unfold allD at e
  split at e
  · rename_i xs
    obtain ⟨v, rfl, r⟩ := rep.one
    cases q : blsOf xs with
    | none => rw [q] at e; cases e
    | some ns =>
      rw [q] at e
      cases e
      have e3 := blsOf_some q
      subst e3
      cases r with
      | lst h n r =>
        rw [r.of_bls] at h
        exact ⟨_, ns, rfl, SqL.of h, k H _ (Step.refl T H) sim (.bl _)⟩
  · cases e
theorem pok_tup : POk K mg (fun xs H Q => ∃ p ys, xs = [.ref p] ∧ ((SqL K H p ys ∧ ∀ l, H l = none → Q (.ref l) (upd H l (.tup ys))) ∨ (SqT K H p ys ∧ Q (.ref p) H))) tupD := fun T S H vs ds d Q sim rep e k => by
  have mk : ∀ {a : Addr} {xs : List V} {es : List D}, H a = some (.lst xs) → RepL K T H xs es → d = .tup es → ∃ p ys, [V.ref a] = [.ref p] ∧ ((SqL K H p ys ∧ ∀ l, H l = none → Q (.ref l) (upd H l (.tup ys))) ∨ (SqT K H p ys ∧ Q (.ref p) H)) := fun {a xs es} h r ed => by
    subst ed
    refine ⟨a, xs, rfl, .inl ⟨SqL.of h, fun p hp => ?_⟩⟩
    have st := sim.stepNew (o := .tup xs) hp
    exact k _ _ st (sim.new hp (hlen_tup sim.hl (sim.hl _ _ (.inl (.inl h))))) (.tup upd_same (sim.off hp) (r.step st))
  unfold tupD at e
  split at e
  · cases e
    obtain ⟨v, rfl, r⟩ := rep.one
    cases r with
    | lst h n r => exact mk h r rfl
  · cases e
    obtain ⟨v, rfl, r⟩ := rep.one
    cases r with
    | tup h n r => exact ⟨_, _, rfl, .inr ⟨SqT.of h, k H _ (Step.refl T H) sim (.tup h n r)⟩⟩
  · obtain ⟨v, rfl, r⟩ := rep.one
    split at e
    · rename_i xs q
      cases e
      cases r with
      | loc hn =>
        obtain ⟨ys, q1, q2⟩ := sim.obj _ _ _ hn q
        exact mk q1 q2 rfl
    · cases e
  · cases e
theorem pok_lst : POk K mg (fun xs H Q => ∃ p ys, xs = [.ref p] ∧ (SqL K H p ys ∨ SqT K H p ys) ∧ ∀ l, H l = none → Q (.ref l) (upd H l (.lst ys))) lstD := fun T S H vs ds d Q sim rep e k => by
  have mk : ∀ {xs : List V} {es : List D}, xs.length ≤ sizeLine → RepL K T H xs es → d = .lst es → ∀ l, H l = none → Q (.ref l) (upd H l (.lst xs)) := fun {xs es} hz r ed p hp => by
    subst ed
    have st := sim.stepNew (o := .lst xs) hp
    exact k _ _ st (sim.new hp (hlen_lst sim.hl hz)) (.lst upd_same (sim.off hp) (r.step st))
  unfold lstD at e
  split at e
  · cases e
    obtain ⟨v, rfl, r⟩ := rep.one
    cases r with
    | lst h n r => exact ⟨_, _, rfl, .inl (SqL.of h), mk (sim.hl _ _ (.inl (.inl h))) r rfl⟩
  · cases e
    obtain ⟨v, rfl, r⟩ := rep.one
    cases r with
    | tup h n r => exact ⟨_, _, rfl, .inr (SqT.of h), mk (sim.hl _ _ (.inr (.inl h))) r rfl⟩
  · obtain ⟨v, rfl, r⟩ := rep.one
    split at e
    · rename_i xs q
      cases e
      cases r with
      | loc hn =>
        obtain ⟨ys, q1, q2⟩ := sim.obj _ _ _ hn q
        exact ⟨_, _, rfl, .inl (SqL.of q1), mk (sim.hl _ _ (.inl (.inl q1))) q2 rfl⟩
    · cases e
  · cases e
end
def tyN (d : D) : Option String := match d with
  | .non => some "NoneType"
  | .bl _ => some "bool"
  | .int _ => some "int"
  | .str _ => some "str"
  | .tup _ => some "tuple"
  | .lst _ => some "list"
  | _ => none
def isiD (ds : List D) (_ : Store) : Option D := match ds with
  | [d, .ty n] => ((tyN d).bind fun t => kitB t n).map .bl
  | _ => none
section
variable {X : Cx} {K : PySem.W.Frag} {mg : Str → Option Value} {Wx : WX}
theorem Rep.tyx {T : Tb} {H : Hp} {v : V} {d : D} {t : String} (h : Rep K T H v d) (e : tyN d = some t) : TyX K H v (.type t) := by
  cases h <;> cases e
  · exact .base .non
  · exact .base (.bl _)
  · exact .base (.int _)
  · exact .base (.str _)
  · rename_i h n r
    exact .base (.tup h)
  · rename_i h n r
    exact .base (.lst h)
theorem pok_isi : POk K mg (rIsi K) isiD := fun T S H vs ds d Q sim rep e k => by
  unfold isiD at e
  split at e
  · rename_i x n
    cases rep with
    | cons r1 q =>
      cases q with
      | cons r2 q =>
        cases q
        cases q1 : tyN x with
        | none => rw [q1] at e; cases e
        | some t =>
          rw [q1] at e
          have e : (kitB t n).map D.bl = some d := e
          cases q2 : kitB t n with
          | none => rw [q2] at e; cases e
          | some b =>
            rw [q2] at e
            cases e
            cases r2
            exact ⟨_, _, _, _, b, rfl, .ty n, r1.tyx q1, kit_ty q2, k H _ (Step.refl T H) sim (.bl _)⟩
  · cases e
theorem j_ty {x : Str} {n : String} {pos : Pos} (hg : Gl X x) (hm : X.mg x = none) (hv : bootBuiltins x = some (.type n)) (hn : x ≠ "__name__" := by decide) (hd : (x == ("__debug__" : Str)) = false := by decide) : PE X (.Name x pos) (tD X.K X.mg Wx (mC (.ty n))) :=
  j_c (pe_bltn (v := .ty n) hg hm hv rfl hn hd) fun _ _ => .ty n
end
def ixD (a b : D) (S : Store) : Option D := match a, b with
  | .lst xs, .int i => atI xs i
  | .tup xs, .int i => atI xs i
  | .scr ns, .int i => (atI ns i).map .int
  | .str x, .int i => if x.length ≤ 100000 then (atI x.cps.toList i).map chD else none
  | .loc n, .int i => match S[n]? with
    | some (.lst xs) => atI xs i
    | _ => none
  | _, _ => none
section
variable {X : Cx} {K : PySem.W.Frag} {mg : Str → Option Value} {Wx : WX}
theorem atI_rep {T : Tb} {H : Hp} {vs : List V} {ds : List D} {i : Int} {d : D} (h : RepL K T H vs ds) (e : atI ds i = some d) : ∃ v, atI vs i = some v ∧ Rep K T H v d := by
  unfold atI at e ⊢
  rw [h.length]
  cases q : ixN ds.length i with
  | none => rw [q] at e; cases e
  | some j =>
    rw [q] at e
    exact h.get e
theorem atI_map {α β : Type} (f : α → β) (xs : List α) (i : Int) : atI (xs.map f) i = (atI xs i).map f := by
  unfold atI
  rw [List.length_map]
  cases ixN xs.length i with
  | none => rfl
  | some j => exact List.getElem?_map
theorem pok_ix : POk2 K mg (rIx K) ixD := fun T S H x y a b d Q sim rx ry e k => by
  cases ry <;> try (cases a <;> cases e)
  rename_i i
  cases rx <;> try cases e
  · rename_i x
    simp only [ixD] at e
    split at e
    · rename_i hz
      cases q : atI x.cps.toList i with
      | none => rw [q] at e; cases e
      | some c =>
        rw [q] at e
        cases e
        exact .inr (.inr ⟨x, i, c, rfl, rfl, sz5 hz, q, k H _ (Step.refl T H) sim (.str _)⟩)
    · cases e
  · rename_i a xs ds h n r
    obtain ⟨v, h1, h2⟩ := atI_rep r e
    exact .inr (.inl ⟨a, xs, i, v, rfl, rfl, SqT.of h, h1, k H _ (Step.refl T H) sim h2⟩)
  · rename_i a xs ds h n r
    obtain ⟨v, h1, h2⟩ := atI_rep r e
    exact .inl ⟨a, xs, i, v, rfl, rfl, SqL.of h, h1, k H _ (Step.refl T H) sim h2⟩
  · rename_i a ns h
    simp only [ixD] at e
    cases q : atI ns i with
    | none => rw [q] at e; cases e
    | some c =>
      rw [q] at e
      cases e
      exact .inl ⟨a, _, i, .int c, rfl, rfl, h.sq, by rw [atI_map, q]; rfl, k H _ (Step.refl T H) sim (.int _)⟩
  · rename_i a n hn
    simp only [ixD] at e
    split at e
    · rename_i xs q
      obtain ⟨ys, q1, q2⟩ := sim.obj _ _ _ hn q
      obtain ⟨v, h1, h2⟩ := atI_rep q2 e
      exact .inl ⟨a, ys, i, v, rfl, rfl, SqL.of q1, h1, k H _ (Step.refl T H) sim h2⟩
    · cases e
end
abbrev OM := Env → Store → R (Option Int)
def mNoP : OM := fun _ S => .ok none S
def mP (m : EM) : OM := fun r S => (m r S).bind fun d S1 => match d with
  | .int i => .ok (some i) S1
  | _ => .bad
def cutL {α : Type} (xs : List α) (lo hi : Option Int) : List α := (xs.drop (HT.sIx xs.length 0 lo)).take (HT.sIx xs.length xs.length hi - HT.sIx xs.length 0 lo)
def slD (d : D) (lo hi : Option Int) (S : Store) : Option D := match d with
  | .lst xs => some (.lst (cutL xs lo hi))
  | .tup xs => some (.tup (cutL xs lo hi))
  | .loc n => match S[n]? with
    | some (.lst xs) => some (.lst (cutL xs lo hi))
    | _ => none
  | _ => none
def mSl (m : EM) (ml mh : OM) : EM := fun r S => (m r S).bind fun d S1 => (ml r S1).bind fun lo S2 => (mh r S2).bind fun hi S3 => ofO (slD d lo hi S3) S3
def tDO (K : PySem.W.Frag) (mg : Str → Option Value) (Wx : WX) (m : OM) : TO := fun g H Q => ∃ T r S, RepSt K T H r g ∧ Sim K mg T S H ∧ Out K mg Wx (fun _ _ v d => v = d) T g H (m r S) Q
section
variable {X : Cx} {K : PySem.W.Frag} {mg : Str → Option Value} {Wx : WX} {e : Expr} {m : EM} {ml mh : OM} {pos p2 : Pos} {lo hi : Option Expr}
theorem po_imp {e : Option Expr} {t t' : TO} (h : PO X e t) (i : ∀ g H Q, t' g H Q → t g H Q) : PO X e t' := ⟨fun pins s g H Q I w => h.run pins s g H Q I (i g H Q w)⟩
theorem jo_none : PO X none (tDO X.K X.mg Wx mNoP) := po_imp po_none fun g H Q h => by
  obtain ⟨T, r, S, rs, sim, h⟩ := h
  exact h T H none (Step.refl T H) sim rfl
theorem jo_some (h : PE X e (tD X.K X.mg Wx m)) : PO X (some e) (tDO X.K X.mg Wx (mP m)) := po_imp (po_some h) fun g H Q h => by
  obtain ⟨T, r, S, rs, sim, h⟩ := h
  refine ⟨T, r, S, rs, sim, Out.bind h fun d S1 T1 H1 v st sim1 rel h1 => ?_⟩
  cases d with
  | int i =>
    rw [rel.int_of]
    exact ⟨i, rfl, h1 T1 H1 _ (Step.refl T1 H1) sim1 rfl⟩
  | _ => exact h1.elim
theorem cut_rep {T : Tb} {H : Hp} {vs : List V} {ds : List D} (lo hi : Option Int) (h : RepL K T H vs ds) : RepL K T H (cutV vs lo hi) (cutL ds lo hi) := by
  unfold cutV cutL
  rw [h.length]
  exact (h.drop _).take _
theorem cut_whole {α : Type} {xs : List α} {lo hi : Option Int} (h : HT.sIx xs.length 0 lo = 0 ∧ HT.sIx xs.length xs.length hi = xs.length) : cutL xs lo hi = xs := by
  unfold cutL
  rw [h.1, h.2, Nat.sub_zero, List.drop_zero, List.take_length]
def rSlB (K : PySem.W.Frag) : V → Option Int → Option Int → Hp → VK → Prop := fun x lo hi H Q => rSlL K x lo hi H Q ∨ rSlA K x lo hi H Q
theorem sl_B : SlR X (rSlB X.K) := sl_list.or sl_tupA
theorem sl_ok {T : Tb} {S : Store} {H : Hp} {v : V} {d d' : D} {lo hi : Option Int} {Q : VK} (sim : Sim K mg T S H) (h : Rep K T H v d) (e : slD d lo hi S = some d') (k : ∀ H' v, Step T H T H' → Sim K mg T S H' → Rep K T H' v d' → Q v H') : rSlB K v lo hi H Q := by
  have mk : ∀ {a : Addr} {xs : List V} {es : List D}, H a = some (.lst xs) → RepL K T H xs es → d' = .lst (cutL es lo hi) → rSlB K (.ref a) lo hi H Q := fun {a xs es} h r ed => by
    subst ed
    refine .inl ⟨a, xs, rfl, SqL.of h, fun p hp => ?_⟩
    have st := sim.stepNew (o := .lst (cutV xs lo hi)) hp
    exact k _ _ st (sim.new hp (hlen_lst sim.hl (Nat.le_trans (cutV_length _ _ _) (sim.hl _ _ (.inl (.inl h)))))) (.lst upd_same (sim.off hp) ((cut_rep lo hi r).step st))
  cases h <;> try cases e
  · rename_i a xs ds h n r
    refine .inr ⟨a, xs, rfl, SqT.of h, fun q => ?_, fun q p hp => ?_⟩
    · refine k H _ (Step.refl T H) sim ?_
      rw [r.length] at q
      rw [cut_whole q]
      exact .tup h n r
    · have st := sim.stepNew (o := .tup (cutV xs lo hi)) hp
      exact k _ _ st (sim.new hp (hlen_tup sim.hl (Nat.le_trans (cutV_length _ _ _) (sim.hl _ _ (.inr (.inl h)))))) (.tup upd_same (sim.off hp) ((cut_rep lo hi r).step st))
  · rename_i a xs ds h n r
    exact mk h r rfl
  · rename_i a n hn
    simp only [slD] at e
    split at e
    · rename_i xs q
      cases e
      obtain ⟨ys, q1, q2⟩ := sim.obj _ _ _ hn q
      exact mk q1 q2 rfl
    · cases e
theorem j_slice (he : PE X e (tD X.K X.mg Wx m)) (hl : PO X lo (tDO X.K X.mg Wx ml)) (hu : PO X hi (tDO X.K X.mg Wx mh)) : PE X (.Subscript e (.Slice lo hi none p2) pos) (tD X.K X.mg Wx (mSl m ml mh)) :=
  pe_imp (pe_slice sl_B he hl hu) fun g H Q h => by
    obtain ⟨T, r, S, rs, sim, h⟩ := h
    refine ⟨T, r, S, rs, sim, Out.bind h fun d S1 T1 H1 v st sim1 rel h1 => ?_⟩
    refine ⟨T1, r, S1, rs.step st, sim1, Out.bind h1 fun l S2 T2 H2 lv st2 sim2 rel2 h2 => ?_⟩
    subst rel2
    refine ⟨T2, r, S2, (rs.step st).step st2, sim2, Out.bind h2 fun u S3 T3 H3 uv st3 sim3 rel3 h3 => ?_⟩
    subst rel3
    exact Out.use h3 fun d' e k => sl_ok sim3 (rel.step (st2.trans st3)) e fun H' v' s' => k T3 H' v' s'
end
def isLoc (o : D) (S : Store) : Bool := match o with
  | .loc n => match S[n]? with
    | some (.lst _) => true
    | _ => false
  | _ => false
def appD (o d : D) (S : Store) : R D := match o with
  | .loc n => match S[n]? with
    | some (.lst xs) => if xs.length < 100000 then .ok .non (S.set n (.lst (xs ++ [d]))) else .bad
    | _ => .bad
  | _ => .bad
def mAppend (mo m : EM) : EM := fun r S => (mo r S).bind fun o S1 => if isLoc o S1 = true then (m r S1).bind fun d S2 => appD o d S2 else .bad
def putD (o i d : D) (r : Env) (S : Store) : Z := match o, i with
  | .loc n, .int k => match S[n]? with
    | some (.lst xs) => match ixN xs.length k with
      | some j => .ok .next r (S.set n (.lst (xs.set j d)))
      | none => .bad
    | _ => .bad
  | _, _ => .bad
def sSetIx (mo mi m : EM) : SM := fun r S => bindS (m r S) r fun d S1 => bindS (mo r S1) r fun o S2 => bindS (mi r S2) r fun i S3 => putD o i d r S3
section
variable {X : Cx} {Wx : WX} {o e i : Expr} {mo mi m : EM} {pos apos tpos : Pos} {K : PySem.W.Frag} {mg : Str → Option Value}
theorem loc_of {T : Tb} {S : Store} {H : Hp} {v : V} {n : Nat} {o : O} (sim : Sim K mg T S H) (h : Rep K T H v (.loc n)) (e : S[n]? = some o) : ∃ a, v = .ref a ∧ T.loc[n]? = some a ∧ ORep K mg T H a o := by
  cases h with
  | loc hn => exact ⟨_, rfl, hn, sim.obj _ _ _ hn e⟩
theorem lst_set {T : Tb} {S : Store} {H : Hp} {a : Addr} {n : Nat} {xs : List V} {ds : List D} (sim : Sim K mg T S H) (hn : T.loc[n]? = some a) (hz : xs.length ≤ sizeLine) (r : RepL K T H xs ds) :
    Step T H T (upd H a (.lst xs)) ∧ Sim K mg T (S.set n (.lst ds)) (upd H a (.lst xs)) := by
  have st := sim.stepSet (u := .lst xs) (List.mem_of_getElem? hn)
  exact ⟨st, sim.set hn (hlen_lst sim.hl hz) ⟨xs, upd_same, r.step st⟩⟩
theorem isLoc_ty {T : Tb} {S : Store} {H : Hp} {v : V} {d : D} (sim : Sim K mg T S H) (h : Rep K T H v d) (e : isLoc d S = true) : tyV K "list" v H := by
  unfold isLoc at e
  split at e
  · rename_i n
    split at e
    · rename_i xs q
      obtain ⟨a, rfl, hn, ys, q1, q2⟩ := loc_of sim h q
      exact .inl ⟨rfl, ys, SqL.of q1⟩
    · cases e
  · cases e
theorem j_append (ho : PE X o (tD X.K X.mg Wx mo)) (ha : PE X e (tD X.K X.mg Wx m)) (hbase : attributeBase o "append" X.env (eval o X.env) = eval o X.env := by rfl)
    (hfew : ((backTo pos (starEach [e] X.env)).all (fun x => !x.1) && (backToKw pos (keywordEach [] X.env)).all (fun x => x.1.isSome) && decide (([e] : List Expr).length + ([] : List Keyword).length + (if ([] : List Keyword).isEmpty then 0 else 1) < 30)) = true := by rfl)
    (hline : (apos.endLine == pos.line) = true := by rfl) (hs : starEach [e] X.env = (false, eval e X.env) :: starEach [] X.env := by rfl) (hplain : (backTo pos (starEach [] X.env)).any (·.1) = false := by rfl) :
    PE X (.Call (.Attribute o "append" apos) [e] [] pos) (tD X.K X.mg Wx (mAppend mo m)) :=
  pe_imp (pe_bm PySem.F.plainAttrs_list PySem.F.slot_list_append PySem.F.type_list_append mt_append ho (pa_cons ha pa_nil hs) hbase hfew hline hs hplain) fun g H Q h => by
    obtain ⟨T, r, S, rs, sim, h⟩ := h
    refine ⟨T, r, S, rs, sim, Out.bind h fun d S1 T1 H1 v st sim1 rel h1 => ?_⟩
    split at h1
    · rename_i hl
      refine ⟨isLoc_ty sim1 rel hl, T1, r, S1, rs.step st, sim1, Out.bind h1 fun y S2 T2 H2 w st2 sim2 rel2 h2 => ?_⟩
      unfold appD at h2
      split at h2
      · rename_i n
        split at h2
        · rename_i xs q
          split at h2
          · rename_i hz
            obtain ⟨a, rfl, hn, ys, q1, q2⟩ := loc_of sim2 (rel.step st2) q
            have hl' : ys.length < sizeLine := by rw [q2.length]; exact Nat.lt_of_lt_of_le hz (by decide)
            obtain ⟨st3, sim3⟩ := lst_set (xs := ys ++ [w]) (ds := xs ++ [y]) sim2 hn (by rw [List.length_append, List.length_singleton]; omega) (RepL.append q2 (.cons rel2 .nil))
            exact ⟨a, ys, w, rfl, rfl, q1, hl', h2 T2 _ _ st3 sim3 .non⟩
          · exact h2.elim
        · exact h2.elim
      · exact h2.elim
    · exact h1.elim
theorem RepL.dropLast {T : Tb} {H : Hp} {vs : List V} {ds : List D} (h : RepL K T H vs ds) : RepL K T H vs.dropLast ds.dropLast := by
  rw [List.dropLast_eq_take, List.dropLast_eq_take, h.length]
  exact h.take _
theorem putD_ok {T : Tb} {S : Store} {H : Hp} {r : Env} {E : Ends} {g : St} {ov iv v : V} {o i d : D} (sim : Sim K mg T S H) (rs : RepSt K T H r g) (h1 : Rep K T H ov o) (h2 : Rep K T H iv i) (h3 : Rep K T H v d) (h : ZOut K mg Wx T H (putD o i d r S) E) :
    rSetL ov iv v H fun H4 => E.nx g H4 := by
  unfold putD at h
  split at h
  · rename_i n k
    split at h
    · rename_i xs q
      split at h
      · rename_i j ej
        obtain ⟨a, rfl, hn, ys, q1, q2⟩ := loc_of sim h1 q
        obtain ⟨st3, sim3⟩ := lst_set sim hn (by rw [List.length_set]; exact sim.hl a ys (.inl (.inl q1))) (q2.set h3 j)
        exact ⟨a, ys, k, j, rfl, h2.int_of, q1, by rw [q2.length]; exact ej, h T _ g st3 sim3 (rs.step st3)⟩
      · exact h.elim
    · exact h.elim
  · exact h.elim
theorem js_setIx {hv : Expr} {mv : EM} (he : PE X hv (tD X.K X.mg Wx mv)) (ho : PE X o (tD X.K X.mg Wx mo)) (hi : PE X i (tD X.K X.mg Wx mi))
    (ha : ∀ v, assign (.Subscript o i tpos) X.env v = (do
      let ov ← holding [v] (eval o X.env)
      let iv ← holding [v, ov] (eval i X.env)
      standAt tpos
      holding [v, ov, iv] (setItem ov iv v)
      release [v, ov, iv] []) := by intro _; rfl)
    (hs : swapsWithSole [.Subscript o i tpos] hv pos.line X.env = pure false := by rfl) (hw : swappedStores [.Subscript o i tpos] hv X.env = pure none := by rfl)
    (h1 : (assignEach [.Subscript o i tpos] X.env).map (·.2) = [assign (.Subscript o i tpos) X.env] := by rfl) : PS X (.Assign [.Subscript o i tpos] hv pos) (tDS X.K X.mg Wx (sSetIx mo mi mv)) :=
  ps_imp (ps_asg he (pg_sub ho hi set_list ha) hs hw h1) fun E g H h => by
    obtain ⟨T, r, S, rs, sim, h⟩ := h
    refine ⟨T, r, S, rs, sim, ZOut.bind h rs fun d S1 T1 H1 v st sim1 rel rs1 h1 => ?_⟩
    refine ⟨T1, r, S1, rs1, sim1, ZOut.bind h1 rs1 fun ov S2 T2 H2 x st2 sim2 rel2 rs2 h2 => ?_⟩
    refine ⟨T2, r, S2, rs2, sim2, ZOut.bind h2 rs2 fun iv S3 T3 H3 y st3 sim3 rel3 rs3 h3 => ?_⟩
    exact putD_ok sim3 rs3 (rel2.step st3) rel3 (rel.step (st2.trans st3)) h3
end
end Dv
namespace Dv
open PySem L2
section
variable {K : PySem.W.Frag} {mg : Str → Option Value} {T : Tb} {H : Hp}
end
section
variable {X : Cx} {Wx : WX} {o e : Expr} {c f : Str} {C : Addr} {mo m : EM} {pos pos' tpos : Pos}
end
section
variable {X : Cx} {Wx : WX} {o e : Expr} {es : List Expr} {c mth : Str} {C f : Addr} {mo : EM} {ms : AM} {pos apos p : Pos} {k n : Nat} {fd : FuncData} {ps : List Str} {Fn : List D → Store → R D} {x : Str}
end
end Dv
set_option maxHeartbeats 1000000
namespace Dv
open PySem L2
section
variable {α : Type}
def insL (lt : α → α → Bool) (x : α) : List α → List α
  | [] => [x]
  | y :: ys => if lt y x = true then y :: insL lt x ys else x :: y :: ys
def sortL (lt : α → α → Bool) : List α → List α
  | [] => []
  | x :: xs => insL lt x (sortL lt xs)
variable {lt : α → α → Bool}
theorem insL_perm (x : α) : ∀ l : List α, (insL lt x l).Perm (x :: l)
  | [] => List.Perm.refl _
  | y :: ys => by
    unfold insL
    split
    · exact ((insL_perm x ys).cons y).trans (List.Perm.swap x y ys)
    · exact List.Perm.refl _
theorem sortL_perm : ∀ l : List α, (sortL lt l).Perm l
  | [] => List.Perm.refl _
  | x :: xs => (insL_perm x _).trans ((sortL_perm xs).cons x)
theorem insL_srtd (O : SrtO.Swo lt) (x : α) : ∀ {l : List α}, SrtO.Srtd lt l → SrtO.Srtd lt (insL lt x l)
  | [], _ => List.pairwise_singleton _ _
  | y :: ys, h => by
    unfold insL
    split
    · rename_i hy
      refine List.pairwise_cons.mpr ⟨fun z hz => ?_, insL_srtd O x (List.pairwise_cons.mp h).2⟩
      rcases List.mem_cons.mp ((insL_perm x ys).mem_iff.mp hz) with e | e
      · rw [e]
        exact O.asym _ _ hy
      · exact (List.pairwise_cons.mp h).1 z e
    · rename_i hy
      refine List.pairwise_cons.mpr ⟨fun z hz => ?_, h⟩
      have hy : lt y x = false := by simpa using hy
      rcases List.mem_cons.mp hz with e | e
      · rw [e]
        exact hy
      · exact O.tr x y z hy ((List.pairwise_cons.mp h).1 z e)
theorem sortL_srtd (O : SrtO.Swo lt) : ∀ l : List α, SrtO.Srtd lt (sortL lt l)
  | [] => List.Pairwise.nil
  | x :: xs => insL_srtd O x (sortL_srtd O xs)
theorem insL_cls (O : SrtO.Swo lt) (x z : α) : ∀ l : List α, (insL lt x l).filter (SrtO.eqv lt z) = (x :: l).filter (SrtO.eqv lt z)
  | [] => rfl
  | y :: ys => by
    unfold insL
    split
    · rename_i hy
      have ih := insL_cls O x z ys
      by_cases hz : SrtO.eqv lt z y = true
      · have hx : SrtO.eqv lt z x = false := by
          by_cases q : SrtO.eqv lt z x = true
          · have h1 := SrtO.eqv_iff.mp hz
            have h2 := SrtO.eqv_iff.mp q
            have : lt y x = false := O.tr x z y h2.1 h1.2
            rw [hy] at this
            cases this
          · simpa using q
        rw [List.filter_cons_of_pos hz, ih, List.filter_cons_of_neg (by rw [hx]; exact Bool.false_ne_true), List.filter_cons_of_neg (by rw [hx]; exact Bool.false_ne_true), List.filter_cons_of_pos hz]
      · rw [List.filter_cons_of_neg hz, ih]
        by_cases hx : SrtO.eqv lt z x = true
        · rw [List.filter_cons_of_pos hx, List.filter_cons_of_pos hx, List.filter_cons_of_neg hz]
        · rw [List.filter_cons_of_neg hx, List.filter_cons_of_neg hx, List.filter_cons_of_neg hz]
    · rfl
theorem sortL_stb (O : SrtO.Swo lt) : ∀ l : List α, SrtO.Stb lt (sortL lt l) l
  | [] => SrtO.Stb.refl _
  | x :: xs => ⟨sortL_perm _, fun z => by
    show (insL lt x (sortL lt xs)).filter (SrtO.eqv lt z) = (x :: xs).filter (SrtO.eqv lt z)
    rw [insL_cls O]
    by_cases hx : SrtO.eqv lt z x = true
    · rw [List.filter_cons_of_pos hx, List.filter_cons_of_pos hx, (sortL_stb O xs).cls z]
    · rw [List.filter_cons_of_neg hx, List.filter_cons_of_neg hx, (sortL_stb O xs).cls z]⟩
theorem sortL_uniq (O : SrtO.Swo lt) {l m : List α} (h1 : SrtO.Srtd lt m) (h2 : SrtO.Stb lt m l) : m = sortL lt l :=
  SrtO.stb_uniq O h1 (sortL_srtd O l) (h2.trans ⟨(sortL_stb O l).perm.symm, fun z => ((sortL_stb O l).cls z).symm⟩)
theorem sortL_len (l : List α) : (sortL lt l).length = l.length := (sortL_perm l).length_eq
end
def ltI (a b : Int) : Bool := decide (a < b)
theorem ltI_swo : SrtO.Swo ltI := ⟨fun x y h => decide_eq_false (by have := of_decide_eq_true h; omega), fun x y z h1 h2 => decide_eq_false (by have := of_decide_eq_false h1; have := of_decide_eq_false h2; omega)⟩
abbrev ltR : List Int → List Int → Bool := HT.lexLt
theorem ltR_asym : ∀ x y : List Int, ltR x y = true → ltR y x = false
  | [], [], h => by cases h
  | [], _ :: _, _ => rfl
  | _ :: _, [], h => by cases h
  | a :: x, b :: y, h => by
    have h : (if a = b then HT.lexLt x y else decide (a < b)) = true := h
    show (if b = a then HT.lexLt y x else decide (b < a)) = false
    by_cases e : a = b
    · subst e
      rw [if_pos rfl] at h ⊢
      exact ltR_asym x y h
    · rw [if_neg e] at h
      rw [if_neg (Ne.symm e)]
      have := of_decide_eq_true h
      exact decide_eq_false (by omega)
theorem ltR_tr : ∀ x y z : List Int, ltR y x = false → ltR z y = false → ltR z x = false
  | [], [], z, _, h => h
  | [], b :: y, [], _, _ => rfl
  | [], b :: y, c :: z, _, _ => rfl
  | a :: x, [], z, h, _ => by cases h
  | a :: x, b :: y, [], _, h => by cases h
  | a :: x, b :: y, c :: z, g1, g2 => by
    have h1 : (if b = a then HT.lexLt y x else decide (b < a)) = false := g1
    have h2 : (if c = b then HT.lexLt z y else decide (c < b)) = false := g2
    clear g1 g2
    show (if c = a then HT.lexLt z x else decide (c < a)) = false
    by_cases e1 : b = a
    · subst e1
      rw [if_pos rfl] at h1
      by_cases e2 : c = b
      · subst e2
        rw [if_pos rfl] at h2 ⊢
        exact ltR_tr x y z h1 h2
      · rw [if_neg e2] at h2 ⊢
        exact h2
    · rw [if_neg e1] at h1
      have h3 := of_decide_eq_false h1
      by_cases e2 : c = b
      · subst e2
        rw [if_neg e1]
        exact h1
      · rw [if_neg e2] at h2
        have h4 := of_decide_eq_false h2
        rw [if_neg (by omega)]
        exact decide_eq_false (by omega)
theorem ltR_swo : SrtO.Swo ltR := ⟨ltR_asym, ltR_tr⟩
section
variable {prog : Program} {w : World} {A : Around} {s : Shared} {Q : Bool → Shared → Prop}
theorem lexI {b fin : Bool} : ∀ {xs ys : List Value} {ns ms : List Int} (i : Nat), PyProof.Rows.IntsAre xs ns → PyProof.Rows.IntsAre ys ms → fin = decide (ns.length < ms.length) → Q (ltR ns ms) s → PySem.W.KatLex prog w A b fin Q (xs.zip ys) i s
  | _, _, _, _, i, .nil, .nil, hf, h => by
    rw [hf]
    exact h
  | _, _, _, _, i, .nil, .cons q u hy, hf, h => by
    rw [hf]
    exact h
  | _, _, _, _, i, .cons p t hx, .nil, hf, h => by
    rw [hf]
    exact h
  | _, _, _, _, i, @PyProof.Rows.IntsAre.cons p t xs ns hx, @PyProof.Rows.IntsAre.cons q u ys ms hy, hf, h => by
    show PySem.W.KatLex prog w A b fin Q ((Value.int p t, Value.int q u) :: xs.zip ys) i s
    refine PySem.W.kat_cons (wpAny_eqBool_int ?_)
    have h : Q (if p = q then HT.lexLt ns ms else decide (p < q)) s := h
    by_cases e : p = q
    · subst e
      rw [if_pos rfl] at h
      rw [beq_self_eq_true]
      refine PySem.W.kat_yes (lexI (i + 1) hx hy ?_ h)
      rw [hf]
      simp only [List.length_cons, Nat.add_lt_add_iff_right]
    · rw [if_neg e] at h
      rw [show (p == q) = false from beq_eq_false_iff_ne.mpr e]
      exact PySem.W.kat_no (TS.oneLt_ints _ h)
def RowsIn (h : Heap) (vs : List Value) : Prop := ∀ v ∈ vs, ∃ ns, TS.TupInts h v ns ∧ ns ≠ []
theorem rows_firsts {h : Heap} : ∀ vs : List Value, RowsIn h vs → ∃ fs, PySem.W.KatTups h vs fs ∧ fs.length = vs.length ∧ ∀ f ∈ fs, ∃ n t, f = Value.int n t
  | [], _ => ⟨[], PySem.W.KatTups.nil, rfl, fun f hf => by cases hf⟩
  | v :: vs, x => by
    obtain ⟨fs, k, hl, hi⟩ := rows_firsts vs fun u hu => x u (List.mem_cons_of_mem _ hu)
    obtain ⟨ns, ⟨a, xs, ev, ⟨o, ho, hc, n, hdt⟩, ii⟩, hne⟩ := x v List.mem_cons_self
    subst ev
    cases q : xs.toList with
    | nil =>
      rw [q] at ii
      cases ii
      exact absurd rfl hne
    | cons y ys =>
      have hy : ∃ m t, y = Value.int m t := by
        rw [q] at ii
        cases ii
        exact ⟨_, _, rfl⟩
      obtain ⟨m, t, hy⟩ := hy
      refine ⟨y :: fs, PySem.W.KatTups.cons ho hc hdt ?_ k, by rw [List.length_cons, List.length_cons, hl], fun f hf => ?_⟩
      · have z := congrArg (fun l : List Value => l[0]?) q
        simpa using z
      · rcases List.mem_cons.mp hf with e | e
        · exact ⟨m, t, e.trans hy⟩
        · exact hi f e
theorem rows_sortable {h0 : Heap} {a : Addr} {vs : List Value} (x : RowsIn s.heap vs) (h2 : 2 ≤ vs.length) (ha : ∀ o, s.heap.get? a = some o → o.cls ≠ .type "tuple") (hf : ∀ v ∈ vs, ∀ ns, TS.TupInts s.heap v ns → TS.intsOf h0 v = ns) :
    SrtO.SortableO prog w A s a vs fun v u => ltR (TS.intsOf h0 v) (TS.intsOf h0 u) := by
  intro h' keep
  have kp : ∀ {v : Value} {ns : List Int}, TS.TupInts s.heap v ns → TS.TupInts h' v ns := fun q => q.keeps fun b o e c => keep b o (fun z => by subst z; exact ha o e c) e
  have x' : RowsIn h' vs := fun v hv => by
    obtain ⟨ns, h1, h2⟩ := x v hv
    exact ⟨ns, kp h1, h2⟩
  obtain ⟨fs, k1, k2, k3⟩ := rows_firsts vs x'
  refine ⟨PyProof.Rows.tuples' true, fun Q E hq => ?_, fun p q hp hq => ?_⟩
  · refine PySem.W.kat_kind (T := .type "int") k1 (by omega) (fun f hm => ?_) (by rfl) ?_
    · obtain ⟨m, t, e⟩ := k3 f hm
      subst e
      exact PySem.W.Looks.now
    · have e : (Value.type "int" != Value.type "tuple") = true := by first | decide +kernel | rfl | decide
      rw [e]
      exact hq
  · obtain ⟨ns, t1, _⟩ := x p.1 hp
    obtain ⟨ms, t2, _⟩ := x q.1 hq
    have e1 := hf _ hp _ t1
    have e2 := hf _ hq _ t2
    show wpAny (model prog w) A (PyProof.Rows.keyLt' (PyProof.Rows.tuples' true) p.1 q.1) (fun r s' => s' = { s with heap := h' } ∧ r = ltR (TS.intsOf h0 p.1) (TS.intsOf h0 q.1)) (fun _ _ => False) _
    rw [e1, e2]
    obtain ⟨a1, xs, f1, ⟨o1, ho1, hc1, n1, hd1⟩, i1⟩ := kp t1
    obtain ⟨a2, ys, f2, ⟨o2, ho2, hc2, n2, hd2⟩, i2⟩ := kp t2
    rw [f1, f2]
    refine PySem.W.kat_lt ho1 hd1 ho2 hd2 (lexI 0 i1 i2 ?_ ⟨rfl, rfl⟩)
    have l1 := i1.length
    have l2 := i2.length
    rw [Array.length_toList] at l1 l2
    rw [l1, l2]
end
def RowV (K : PySem.W.Frag) (H : Hp) (x : V) (ns : List Int) : Prop := ns ≠ [] ∧ ∃ t, x = .ref t ∧ SqT K H t (ns.map V.int)
def rSortR (K : PySem.W.Frag) : List V → Hp → VK → Prop := fun vs H Q => ∃ (a : Addr) (xs : List V) (rows : List (List Int)) (Pr : V → List Int → Prop), vs = [V.ref a] ∧ SqL K H a xs ∧ (∀ x ns, Pr x ns → RowV K H x ns) ∧ Paired Pr xs rows ∧
  ∀ ys p, Paired Pr ys (sortL ltR rows) → H p = none → Q (.ref p) (upd H p (.lst ys))
theorem paired_mem {α β : Type} {Pr : α → β → Prop} : ∀ {xs : List α} {ys : List β} {i : Nat} {x : α}, Paired Pr xs ys → xs[i]? = some x → ∃ y, ys[i]? = some y ∧ Pr x y
  | _, _, i, _, .nil, e => by simp at e
  | _, _, 0, _, .cons r _, e => by simp at e; subst e; exact ⟨_, rfl, r⟩
  | _, _, i + 1, x, .cons _ t, e => by
    obtain ⟨v, h1, h2⟩ := paired_mem (i := i) (x := x) t (by simpa using e)
    exact ⟨v, by simpa using h1, h2⟩
theorem paired_of_map {α β γ : Type} {Pr : β → γ → Prop} {f : α → β} {g : α → γ} : ∀ {l : List α}, (∀ u ∈ l, Pr (f u) (g u)) → Paired Pr (l.map f) (l.map g)
  | [], _ => .nil
  | u :: l, h => .cons (h u List.mem_cons_self) (paired_of_map fun v hv => h v (List.mem_cons_of_mem _ hv))
theorem cr_sortR {X : Cx} : CallR X (.builtin "sorted") (rSortR X.K) := by
  intro pins s g H vs us Q I r h
  obtain ⟨a, xs, rows, Pr, rfl, hs, hP, pr, q⟩ := h
  obtain ⟨its, rv, hl, hz⟩ := I.list hs
  rw [Vals.ref1 r]
  have rowOf : ∀ (i : Nat) (u : Value), its[i]? = some u → ∃ t ns, u = .ref t ∧ rows[i]? = some ns ∧ Pr (.ref t) ns ∧ TS.TupInts s.heap u ns ∧ ns ≠ [] := fun i u hu => by
    have hi : i < xs.length := by
      rw [rv.length]
      exact (List.getElem?_eq_some_iff.mp hu).1
    obtain ⟨ns, h1, h2⟩ := paired_mem pr (List.getElem?_eq_getElem hi)
    obtain ⟨u', h3, h4⟩ := rv.get (List.getElem?_eq_getElem hi)
    rw [hu] at h3
    cases h3
    obtain ⟨hne, t, et, hT⟩ := hP _ _ h2
    rw [et] at h4 h2
    cases h4
    exact ⟨t, ns, rfl, h1, h2, tupI_raw I hT, hne⟩
  have mem : ∀ u ∈ its, ∃ t ns, u = .ref t ∧ Pr (.ref t) ns ∧ TS.TupInts s.heap u ns ∧ ns ≠ [] := fun u hu => by
    obtain ⟨i, hi, e⟩ := List.mem_iff_getElem.mp hu
    obtain ⟨t, ns, h1, _, h2, h3, h4⟩ := rowOf i u (by rw [List.getElem?_eq_getElem hi, e])
    exact ⟨t, ns, h1, h2, h3, h4⟩
  have erow : its.map (TS.intsOf s.heap) = rows := by
    refine List.ext_getElem? fun i => ?_
    rw [List.getElem?_map]
    cases e : its[i]? with
    | none =>
      have h1 : its.length ≤ i := List.getElem?_eq_none_iff.mp e
      rw [List.getElem?_eq_none (by rw [← Paired.length pr, rv.length]; exact h1)]
      rfl
    | some u =>
      obtain ⟨t, ns, _, h1, _, h3, _⟩ := rowOf i u e
      rw [h1, ← h3.ints]
      rfl
  have rin : RowsIn s.heap its := fun u hu => by
    obtain ⟨t, ns, _, _, h3, h4⟩ := mem u hu
    exact ⟨ns, h3, h4⟩
  refine SrtO.sorted_ord (ltv := fun v u => ltR (TS.intsOf s.heap v) (TS.intsOf s.heap u)) ⟨fun x y => ltR_swo.asym _ _, fun x y z => ltR_swo.tr _ _ _⟩ hl.isList (by rw [← rv.length]; exact hz) (fun h2 h1 b hb kk => ?_) fun out h1 h2 => ?_
  · refine rows_sortable (s := { s with heap := h1 }) (h0 := s.heap) (fun v hv => ?_) h2 (fun o e => ?_) fun v hv ns t => ?_
    · obtain ⟨ns, t, hne⟩ := rin v hv
      exact ⟨ns, t.keeps fun b o e _ => (kk b o e).2, hne⟩
    · have e' : some o = some (PyProof.Rows.seqObj "list" its.toArray 0) := e.symm.trans hb
      cases e'
      intro c
      exact absurd (Value.type.inj c) (by decide)
    · obtain ⟨ms, t', _⟩ := rin v hv
      have t2 := t'.keeps (h' := h1) fun b o e _ => (kk b o e).2
      rw [t'.ints, ← t2.ints]
      exact t.ints
  · obtain ⟨n, hn⟩ := PyProof.Rows.sortedAll_at s.heap its out.toArray
    have mo : ∀ u ∈ out, ∃ t ns, u = .ref t ∧ Pr (.ref t) ns ∧ TS.TupInts s.heap u ns ∧ ns ≠ [] := fun u hu => mem u (h2.perm.mem_iff.mp hu)
    have eo : out.map (TS.intsOf s.heap) = sortL ltR rows := by
      rw [← erow]
      exact sortL_uniq ltR_swo (SrtO.srtd_map h1) (SrtO.Stb.map ltR_swo _ h2)
    have hp : Paired Pr (out.map backV) (sortL ltR rows) := by
      rw [← eo]
      exact paired_of_map fun u hu => by
        obtain ⟨t, ns, e, h3, h4, _⟩ := mo u hu
        rw [h4.ints, e]
        exact h3
    refine ⟨.ref _, upd H (s.heap.objs.size + 1) (.lst (out.map backV)), I.laid (t' := s.toks) (fun _ _ => PyProof.Rows.sortedAll_old) (Nat.le_succ _) ⟨?_, out, n, vals_back fun u hu => ?_, hn⟩, rfl, q _ _ hp (I.hok.fresh (Nat.le_succ _))⟩
    · rw [List.length_map, h2.len, ← rv.length]
      exact hz
    · obtain ⟨t, ns, e, _⟩ := mo u hu
      exact ⟨t, e⟩
def rowD (ns : List Int) : D := .tup (ns.map D.int)
def rowsOf : List D → Option (List (List Int))
  | [] => some []
  | .tup xs :: ds => (intsOf xs).bind fun ns => if ns = [] then none else (rowsOf ds).map (ns :: ·)
  | _ :: _ => none
theorem rowsOf_some : ∀ {ds : List D} {rows : List (List Int)}, rowsOf ds = some rows → ds = rows.map rowD ∧ ∀ ns ∈ rows, ns ≠ []
  | [], _, e => by cases e; exact ⟨rfl, fun _ h => by cases h⟩
  | d :: ds, rows, e => by
    cases d <;> try cases e
    rename_i xs
    simp only [rowsOf] at e
    cases q : intsOf xs with
    | none => rw [q] at e; cases e
    | some ns =>
      rw [q] at e
      have e : (if ns = [] then none else (rowsOf ds).map (ns :: ·)) = some rows := e
      split at e
      · cases e
      · rename_i hne
        cases q2 : rowsOf ds with
        | none => rw [q2] at e; cases e
        | some rs =>
          rw [q2] at e
          cases e
          obtain ⟨h1, h2⟩ := rowsOf_some q2
          refine ⟨by rw [h1, intsOf_some q]; rfl, fun m hm => (List.mem_cons.mp hm).elim (fun e => by rw [e]; exact hne) (h2 m)⟩
theorem rowsOf_map : ∀ {rows : List (List Int)}, (∀ ns ∈ rows, ns ≠ []) → rowsOf (rows.map rowD) = some rows
  | [], _ => rfl
  | ns :: rows, h => by
    show (intsOf (ns.map D.int)).bind (fun ns => if ns = [] then none else (rowsOf (rows.map rowD)).map (ns :: ·)) = _
    rw [intsOf_map, rowsOf_map fun m hm => h m (List.mem_cons_of_mem _ hm)]
    show (if ns = [] then none else some (ns :: rows)) = _
    rw [if_neg (h ns List.mem_cons_self)]
def sortD (ds : List D) (_ : Store) : Option D := match ds with
  | [.lst xs] => match intsOf xs with
    | some ns => some (.lst ((sortL ltI ns).map D.int))
    | none => (rowsOf xs).map fun rows => .lst ((sortL ltR rows).map rowD)
  | _ => none
section
variable {X : Cx} {K : PySem.W.Frag} {mg : Str → Option Value}
def rSortA (K : PySem.W.Frag) : List V → Hp → VK → Prop := fun vs H Q => rSortedI K vs H Q ∨ rSortR K vs H Q
theorem cr_sortA : CallR X (.builtin "sorted") (rSortA X.K) := cr_sortedI.or cr_sortR
theorem sortI_uniq {ns ms : List Int} (h1 : ms.Perm ns) (h2 : ms.Pairwise (· ≤ ·)) : ms = sortL ltI ns := by
  refine sortL_uniq ltI_swo (h2.imp fun {x y} h => decide_eq_false (by omega)) ⟨h1, fun z => ?_⟩
  have e : SrtO.eqv ltI z = fun y => decide (y = z) := funext fun y => by
    unfold SrtO.eqv ltI
    by_cases q : y = z
    · subst q
      simp
    · rw [decide_eq_false q]
      by_cases q2 : z < y
      · simp [q2]
      · have q3 : y < z := by omega
        simp [q3]
  rw [e]
  have h3 := h1.filter (fun y => decide (y = z))
  have h4 : ∀ l : List Int, l.filter (fun y => decide (y = z)) = List.replicate (l.filter (fun y => decide (y = z))).length z := fun l => List.eq_replicate_iff.mpr ⟨rfl, fun y hy => of_decide_eq_true (List.mem_filter.mp hy).2⟩
  rw [h4 ms, h4 ns, h3.length_eq]
theorem RepL.pr {T : Tb} {H : Hp} : ∀ {vs : List V} {rows : List (List Int)}, RepL K T H vs (rows.map rowD) → (∀ ns ∈ rows, ns ≠ []) → Paired (fun x ns => ns ≠ [] ∧ Rep K T H x (rowD ns)) vs rows
  | _, [], .nil, _ => .nil
  | _, ns :: rows, .cons h r, hn => .cons ⟨hn ns List.mem_cons_self, h⟩ (RepL.pr r fun m hm => hn m (List.mem_cons_of_mem _ hm))
theorem RepL.of_pr {T : Tb} {H : Hp} : ∀ {vs : List V} {rows : List (List Int)}, Paired (fun x ns => ns ≠ [] ∧ Rep K T H x (rowD ns)) vs rows → RepL K T H vs (rows.map rowD)
  | _, _, .nil => .nil
  | _, _, .cons h r => .cons h.2 (RepL.of_pr r)
theorem pok_sort : POk K mg (rSortA K) sortD := fun T S H vs ds d Q sim rep e k => by
  unfold sortD at e
  split at e
  · rename_i xs
    obtain ⟨v, rfl, r⟩ := rep.one
    cases r with
    | @lst a ys _ h n r =>
      split at e
      · rename_i ns q
        cases e
        have e3 := intsOf_some q
        subst e3
        rw [r.of_ints] at h
        refine .inl ⟨a, ns, rfl, SqL.of h, fun ms p h1 h2 hp => ?_⟩
        have e4 := sortI_uniq h1 h2
        subst e4
        have st := sim.stepNew (o := .lst ((sortL ltI ns).map V.int)) hp
        refine k _ _ st (sim.new hp (hlen_lst sim.hl ?_)) (.lst upd_same (sim.off hp) (RepL.ints _))
        have := sim.hl _ _ (.inl (.inl h))
        rw [List.length_map] at this ⊢
        rw [sortL_len]
        exact this
      · rename_i q
        cases q2 : rowsOf xs with
        | none => rw [q2] at e; cases e
        | some rows =>
          rw [q2] at e
          cases e
          obtain ⟨e3, hne⟩ := rowsOf_some q2
          subst e3
          refine .inr ⟨a, ys, rows, fun x ns => ns ≠ [] ∧ Rep K T H x (rowD ns), rfl, SqL.of h, fun x ns hx => ⟨hx.1, ?_⟩, r.pr hne, fun zs p hz hp => ?_⟩
          · obtain ⟨_, hx⟩ := hx
            cases hx with
            | tup h1 h2 h3 =>
              rw [h3.of_ints] at h1
              exact ⟨_, rfl, SqT.of h1⟩
          · have rz := RepL.of_pr hz
            have st := sim.stepNew (o := .lst zs) hp
            refine k _ _ st (sim.new hp (hlen_lst sim.hl ?_)) (.lst upd_same (sim.off hp) (rz.step st))
            have h1 := sim.hl _ _ (.inl (.inl h))
            have h2 := rz.length
            rw [List.length_map, sortL_len] at h2
            have h3 := r.length
            rw [List.length_map] at h3
            omega
  · cases e
end
theorem room65 {k : Nat} {A : Around} (r : Room k A) : A.units + 65 < cLine := by
  have := r.un
  omega
end Dv
namespace Dv
open PySem L2
theorem hlen_of {P : Program} {w : World} {H : Hp} {h : Heap} (x : HOk P w H h) : HLen H := fun a xs q => by
  rcases q with q | q
  · obtain ⟨z, _⟩ := q.ok x
    exact z
  · obtain ⟨z, _⟩ := q.ok x
    exact z
def spLaw (K : PySem.W.Frag) : Sp := fun vs H Q _ => ∃ (a : Addr) (ns : List Int), vs = [.ref a] ∧ SqL K H a (ns.map V.int) ∧ ns.length ≤ 63 ∧ ∀ H', Q (.bl true) H'
theorem sp_start {K : PySem.W.Frag} {H : Hp} {a : Addr} {ns : List Int} (hl : ns.length ≤ 63) (hS : SqL K H a (ns.map V.int)) : spLaw K [.ref a] H (fun v _ => v = .bl true) fun _ _ _ => False := ⟨a, ns, rfl, hS, hl, fun _ => rfl⟩
theorem no_exc {P : Program} {w : World} {l : List PySem.Env} {H : Hp} {s : Shared} {e : Value} {s' : Shared} (h : L2.CX P w l H s (fun _ _ _ => False) e s') : False := by
  obtain ⟨_, _, _, _, _, _, _, _, _, _, _, _, z⟩ := h
  exact z
end Dv
namespace Dv
open PySem L2
section
variable {r : Env} {S : Store} {ma mb mc m mo mi : EM} {ms : AM} {ta tb : BM} {sa sb : SM}
@[simp] theorem rb_ok {α β : Type} (a : α) (S : Store) (f : α → Store → R β) : (R.ok a S).bind f = f a S := rfl
@[simp] theorem rb_exc {α β : Type} (n : Str) (S : Store) (f : α → Store → R β) : (R.exc n S : R α).bind f = .exc n S := rfl
@[simp] theorem rb_bad {α β : Type} (f : α → Store → R β) : (R.bad : R α).bind f = .bad := rfl
@[simp] theorem ofO_some {α : Type} (a : α) : ofO (some a) S = .ok a S := rfl
@[simp] theorem ofO_none {α : Type} : ofO (none : Option α) S = .bad := rfl
@[simp] theorem mVar_ap (i : Nat) : mVar i r S = (match r[i]? with | some (some d) => .ok d S | _ => .bad) := rfl
@[simp] theorem mC_ap (d : D) : mC d r S = .ok d S := rfl
@[simp] theorem mNil_ap : mNil r S = .ok [] S := rfl
@[simp] theorem mCons_ap : mCons m ms r S = (m r S).bind fun d S1 => (ms r S1).bind fun ds S2 => .ok (d :: ds) S2 := rfl
@[simp] theorem mTup_ap : mTup ms r S = (ms r S).bind fun ds S1 => if ds.length ≤ 100000 then .ok (.tup ds) S1 else .bad := rfl
@[simp] theorem mLst_ap : mLst ms r S = (ms r S).bind fun ds S1 => if ds.length ≤ 100000 then .ok (.lst ds) S1 else .bad := rfl
@[simp] theorem mNewL_ap : mNewL ms r S = (ms r S).bind fun ds S1 => if ds.length ≤ 100000 then .ok (.loc S1.length) (S1 ++ [.lst ds]) else .bad := rfl
@[simp] theorem mBin_ap (f : D → D → Store → Option D) : mBin f ma mb r S = (ma r S).bind fun a S1 => (mb r S1).bind fun b S2 => ofO (f a b S2) S2 := rfl
@[simp] theorem mCall_ap (f : List D → Store → Option D) : mCall f ms r S = (ms r S).bind fun ds S1 => ofO (f ds S1) S1 := rfl
@[simp] theorem mT_ap : mT m r S = (m r S).bind fun d S1 => ofO (asB d) S1 := rfl
@[simp] theorem asB_bl (b : Bool) : asB (.bl b) = some b := rfl
@[simp] theorem mTru_ap : mTru m r S = (m r S).bind fun d S1 => ofO (truD d S1) S1 := rfl
@[simp] theorem mNotT_ap : mNotT ta r S = (ta r S).bind fun b S1 => .ok (!b) S1 := rfl
@[simp] theorem mAndT_ap : mAndT ta tb r S = (ta r S).bind fun b S1 => if b = true then tb r S1 else .ok false S1 := rfl
@[simp] theorem mOrT_ap : mOrT ta tb r S = (ta r S).bind fun b S1 => if b = true then .ok true S1 else tb r S1 := rfl
@[simp] theorem mAnd_ap : mAnd ma mb r S = (ma r S).bind fun d S1 => match d with
  | .bl true => mb r S1
  | .bl false => .ok (.bl false) S1
  | _ => .bad := rfl
@[simp] theorem mNot_ap : mNot ma r S = (ma r S).bind fun d S1 => match d with
  | .bl b => .ok (.bl (!b)) S1
  | _ => .bad := rfl
@[simp] theorem mIf_ap : mIf ta ma mb r S = (ta r S).bind fun b S1 => if b = true then ma r S1 else mb r S1 := rfl
@[simp] theorem bs_ok {α : Type} (a : α) (f : α → Store → Z) : bindS (.ok a S) r f = f a S := rfl
@[simp] theorem bs_exc {α : Type} (n : Str) (f : α → Store → Z) : bindS (.exc n S : R α) r f = .exc n r S := rfl
@[simp] theorem bs_bad {α : Type} (f : α → Store → Z) : bindS (.bad : R α) r f = .bad := rfl
@[simp] theorem sNil_ap : sNil r S = .ok .next r S := rfl
@[simp] theorem sSeq_ap : sSeq sa sb r S = (match sa r S with | .ok .next r1 S1 => sb r1 S1 | z => z) := rfl
@[simp] theorem sSet_ap (i : Nat) : sSet i m r S = bindS (m r S) r fun d S1 => .ok .next (r.set i (some d)) S1 := rfl
@[simp] theorem sDrop_ap : sDrop m r S = bindS (m r S) r fun _ S1 => .ok .next r S1 := rfl
@[simp] theorem sRet_ap : sRet m r S = bindS (m r S) r fun d S1 => .ok (.ret d) r S1 := rfl
@[simp] theorem sIf_ap : sIf ta sa sb r S = bindS (ta r S) r fun k S1 => if k = true then sa r S1 else sb r S1 := rfl
@[simp] theorem sAug_ap (i : Nat) (f : Int → Int → Int) : sAug i f m r S = (match r[i]? with
  | some (some (.int a)) => bindS (m r S) r fun d S1 => match d with
    | .int b => .ok .next (r.set i (some (.int (f a b)))) S1
    | _ => .bad
  | _ => .bad) := rfl
@[simp] theorem sPar_ap (i j : Nat) : sPar i j ms r S = bindS (ms r S) r fun ds S1 => match ds with
  | [a, b] => .ok .next ((r.set i (some a)).set j (some b)) S1
  | _ => .bad := rfl
@[simp] theorem tgN_ap (i : Nat) (d : D) : tgN i d r = some (r.set i (some d)) := rfl
@[simp] theorem tgsNil_ap : tgsNil [] r = some r := rfl
@[simp] theorem tgsCons_ap (a : D → Env → Option Env) (b : List D → Env → Option Env) (d : D) (ds : List D) : tgsCons a b (d :: ds) r = (a d r).bind fun r1 => b ds r1 := rfl
@[simp] theorem tgT_ap (n : Nat) (b : List D → Env → Option Env) (ds : List D) : tgT n b (.tup ds) r = if ds.length = n then b ds r else none := rfl
@[simp] theorem sAsg_ap (gm : D → Env → Option Env) : sAsg m gm r S = bindS (m r S) r fun d S1 => match gm d r with
  | some r1 => .ok .next r1 S1
  | none => .bad := rfl
@[simp] theorem sFor_ap (im : IM) (gm : D → Env → Option Env) : sFor im gm sb r S = bindS (im r S) r fun ds S1 => sLoop gm sb ds r S1 := rfl
@[simp] theorem mIter_ap : mIter m r S = (m r S).bind fun d S1 => ofO (seqD d) S1 := rfl
@[simp] theorem mRng1_ap : mRng1 ms r S = (ms r S).bind fun ds S1 => ofO (rng1 ds) S1 := rfl
@[simp] theorem mZip_ap : mZip ms r S = (ms r S).bind fun ds S1 => ofO (zipD ds) S1 := rfl
@[simp] theorem mLc_ap (im : IM) (vs : List Nat) (gm : D → Env → Option Env) (te : EM) : mLc im vs gm ta te r S = (im r S).bind fun ds S1 => (lcL gm ta te (wipeE r vs) ds S1).bind fun ys S2 => .ok (.lst ys) S2 := rfl
@[simp] theorem mYes_ap : mYes r S = .ok true S := rfl
@[simp] theorem nox_ok {α : Type} (a : α) : nox (.ok a S) = .ok a S := rfl
@[simp] theorem mApp_ap (n : Nat) (F : List D → Store → R D) : mApp n F ms r S = (ms r S).bind fun ds S1 => if ds.length = n then F ds S1 else .bad := rfl
@[simp] theorem mNoP_ap : mNoP r S = .ok none S := rfl
@[simp] theorem mP_ap : mP m r S = (m r S).bind fun d S1 => match d with
  | .int i => .ok (some i) S1
  | _ => .bad := rfl
@[simp] theorem mSl_ap (ml mh : OM) : mSl m ml mh r S = (m r S).bind fun d S1 => (ml r S1).bind fun lo S2 => (mh r S2).bind fun hi S3 => ofO (slD d lo hi S3) S3 := rfl
@[simp] theorem mAppend_ap : mAppend mo m r S = (mo r S).bind fun o S1 => if isLoc o S1 = true then (m r S1).bind fun d S2 => appD o d S2 else .bad := rfl
@[simp] theorem isLoc_ap (n : Nat) : isLoc (.loc n) S = (match S[n]? with | some (.lst _) => true | _ => false) := rfl
@[simp] theorem appD_ap (n : Nat) (d : D) : appD (.loc n) d S = (match S[n]? with
    | some (.lst xs) => if xs.length < 100000 then .ok .non (S.set n (.lst (xs ++ [d]))) else .bad
    | _ => .bad) := rfl
@[simp] theorem sSetIx_ap : sSetIx mo mi m r S = bindS (m r S) r fun d S1 => bindS (mo r S1) r fun o S2 => bindS (mi r S2) r fun i S3 => putD o i d r S3 := rfl
@[simp] theorem putD_ap (n : Nat) (k : Int) (d : D) : putD (.loc n) (.int k) d r S = (match S[n]? with
    | some (.lst xs) => match ixN xs.length k with
      | some j => .ok .next r (S.set n (.lst (xs.set j d)))
      | none => .bad
    | _ => .bad) := rfl
@[simp] theorem sLoop_nil (gm : D → Env → Option Env) : sLoop gm sb [] r S = .ok .next r S := rfl
@[simp] theorem subD_int (i j : Int) : subD (.int i) (.int j) S = some (.int (i - j)) := rfl
@[simp] theorem addD_int (i j : Int) : addD (.int i) (.int j) S = some (.int (i + j)) := rfl
@[simp] theorem addD_lst (xs ys : List D) : addD (.lst xs) (.lst ys) S = if xs.length + ys.length ≤ 100000 then some (.lst (xs ++ ys)) else none := rfl
@[simp] theorem addD_tup (xs ys : List D) : addD (.tup xs) (.tup ys) S = if xs.length + ys.length ≤ 100000 then some (.tup (xs ++ ys)) else none := rfl
@[simp] theorem fdivD_int (i j : Int) : fdivD (.int i) (.int j) S = if 0 < j ∧ j < 1073741824 then some (.int (i / j)) else none := rfl
@[simp] theorem modD_int (i j : Int) : modD (.int i) (.int j) S = if 0 < j then some (.int (i % j)) else none := rfl
@[simp] theorem mulD_int (i j : Int) : mulD (.int i) (.int j) S = if (-(2 ^ 64) < i ∧ i < 2 ^ 64) ∨ (-(2 ^ 64) < j ∧ j < 2 ^ 64) then some (.int (i * j)) else none := rfl
@[simp] theorem mulD_lst (xs : List D) (k : Int) : mulD (.lst xs) (.int k) S = if -100000 ≤ k ∧ k ≤ 100000 ∧ xs.length * k.toNat ≤ 100000 then some (.lst (List.replicate k.toNat xs).flatten) else none := rfl
@[simp] theorem ltD_int (i j : Int) : ltD (.int i) (.int j) S = some (.bl (decide (i < j))) := rfl
@[simp] theorem gtD_int (i j : Int) : gtD (.int i) (.int j) S = some (.bl (decide (j < i))) := rfl
@[simp] theorem eqD_int (i j : Int) : eqD (.int i) (.int j) S = some (.bl (decide (i = j))) := rfl
@[simp] theorem neD_int (i j : Int) : neD (.int i) (.int j) S = some (.bl (!decide (i = j))) := rfl
@[simp] theorem lenD_lst (xs : List D) : lenD [.lst xs] S = some (.int xs.length) := rfl
@[simp] theorem lenD_tup (xs : List D) : lenD [.tup xs] S = some (.int xs.length) := rfl
@[simp] theorem lenD_scr (xs : List Int) : lenD [.scr xs] S = some (.int xs.length) := rfl
@[simp] theorem lenD_loc (n : Nat) : lenD [.loc n] S = (match S[n]? with
    | some (.lst xs) => some (.int xs.length)
    | _ => none) := rfl
@[simp] theorem absD_int (i : Int) : absD [.int i] S = some (.int (if i < 0 then -i else i)) := rfl
@[simp] theorem intD_bl (b : Bool) : intD [.bl b] S = some (.int (if b = true then 1 else 0)) := rfl
@[simp] theorem tupD_lst (xs : List D) : tupD [.lst xs] S = some (.tup xs) := rfl
@[simp] theorem tupD_loc (n : Nat) : tupD [.loc n] S = (match S[n]? with
    | some (.lst xs) => some (.tup xs)
    | _ => none) := rfl
@[simp] theorem maxD_ints (ns : List Int) : maxD [.lst (ns.map D.int)] S = (maxI ns).map D.int := by
  show ((intsOf (ns.map D.int)).bind maxI).map D.int = _
  rw [intsOf_map]
  rfl
@[simp] theorem sumD_ints (ns : List Int) : sumD [.lst (ns.map D.int)] S = some (.int ns.sum) := by
  show (intsOf (ns.map D.int)).map _ = _
  rw [intsOf_map]
  rfl
@[simp] theorem allD_bls (bs : List Bool) : allD [.lst (bs.map D.bl)] S = some (.bl (bs.all id)) := by
  show (blsOf (bs.map D.bl)).map _ = _
  rw [blsOf_map]
  rfl
@[simp] theorem truD_bl (b : Bool) : truD (.bl b) S = some b := rfl
@[simp] theorem truD_int (i : Int) : truD (.int i) S = some (i != 0) := rfl
@[simp] theorem truD_tup (xs : List D) : truD (.tup xs) S = some (!xs.isEmpty) := rfl
@[simp] theorem truD_lst (xs : List D) : truD (.lst xs) S = some (!xs.isEmpty) := rfl
@[simp] theorem truD_scr (xs : List Int) : truD (.scr xs) S = some (!xs.isEmpty) := rfl
@[simp] theorem truD_loc (n : Nat) : truD (.loc n) S = (match S[n]? with
    | some (.lst xs) => some (!xs.isEmpty)
    | _ => none) := rfl
@[simp] theorem ixD_lst (xs : List D) (i : Int) : ixD (.lst xs) (.int i) S = atI xs i := rfl
@[simp] theorem ixD_tup (xs : List D) (i : Int) : ixD (.tup xs) (.int i) S = atI xs i := rfl
@[simp] theorem ixD_scr (xs : List Int) (i : Int) : ixD (.scr xs) (.int i) S = (atI xs i).map .int := rfl
@[simp] theorem ixD_loc (n : Nat) (i : Int) : ixD (.loc n) (.int i) S = (match S[n]? with
    | some (.lst xs) => atI xs i
    | _ => none) := rfl
@[simp] theorem seqD_lst (xs : List D) : seqD (.lst xs) = some xs := rfl
@[simp] theorem seqD_tup (xs : List D) : seqD (.tup xs) = some xs := rfl
@[simp] theorem seqD_scr (xs : List Int) : seqD (.scr xs) = some (xs.map D.int) := rfl
@[simp] theorem rng1_int (j : Int) : rng1 [.int j] = if -100000 ≤ j ∧ j ≤ 100000 then some (rng 0 j.toNat) else none := rfl
@[simp] theorem slD_lst (xs : List D) (lo hi : Option Int) : slD (.lst xs) lo hi S = some (.lst (cutL xs lo hi)) := rfl
@[simp] theorem slD_tup (xs : List D) (lo hi : Option Int) : slD (.tup xs) lo hi S = some (.tup (cutL xs lo hi)) := rfl
@[simp] theorem wipeE_nil : wipeE r [] = r := rfl
@[simp] theorem wipeE_cons (v : Nat) (vs : List Nat) : wipeE r (v :: vs) = (wipeE r vs).set v none := rfl
@[simp] theorem isND_non : isND .non .non S = some (.bl true) := rfl
end
theorem atI_zero {α : Type} (x : α) (xs : List α) : atI (x :: xs) 0 = some x := atI_nat (j := 0) rfl
theorem ixN_nat {n j : Nat} (h : j < n) : ixN n (j : Int) = some j := by
  unfold ixN
  rw [if_pos (by omega), if_pos (by omega)]
  simp
theorem ixN_zero {n : Nat} (h : 0 < n) : ixN n 0 = some 0 := ixN_nat (j := 0) h
end Dv
namespace Dv
open PySem L2
def mDraw2 : SM :=
    (sSeq (sDrop (mAppend (mVar 1) (mC (.int 0))))
    (sSeq (sSet 3 (mCall lenD (mCons (mVar 1) mNil)))
    (sSeq (sSet 4 (mIf (mTru (mVar 0)) (mBin ixD (mVar 0) (mBin modD (mVar 3) (mCall lenD (mCons (mVar 0) mNil)))) (mC (.int 0))))
    (sSeq (sSet 5 (mBin modD (mBin ixD (mVar 1) (mC (.int 0))) (mC (.int 65536))))
    (sSeq (sSetIx (mVar 1) (mC (.int 0)) (mBin fdivD (mBin ixD (mVar 1) (mC (.int 0))) (mC (.int 65536))))
    (sSeq (sSet 6 (mBin modD (mBin addD (mBin addD (mVar 4) (mBin mulD (mC (.int 40503)) (mVar 5))) (mBin mulD (mC (.int 104729)) (mVar 3))) (mC (.int 4294967291))))
    (sSeq (sSet 6 (mBin modD (mBin mulD (mBin modD (mBin mulD (mVar 6) (mVar 6)) (mC (.int 4294967279))) (mC (.int 48271))) (mC (.int 4294967291))))
    (sSeq (sSet 7 (mBin modD (mBin mulD (mBin modD (mBin mulD (mVar 6) (mVar 6)) (mC (.int 4294967279))) (mC (.int 69621))) (mC (.int 4294967291))))
    (sRet (mBin modD (mBin addD (mBin mulD (mBin fdivD (mVar 6) (mC (.int 64))) (mC (.int 67108864))) (mBin fdivD (mVar 7) (mC (.int 64)))) (mVar 2)))))))))))
def mDraw : SM :=
    (sSeq (sIf (mNotT (mTru (mVar 1))) (sDrop (mAppend (mVar 1) (mCall maxD (mCons (mBin addD (mLc (mIter (mVar 0)) [4] (tgN 4) mYes (mCall absD (mCons (mVar 4) mNil))) (mLst (mCons (mC (.int 0)) mNil))) mNil)))) sNil)
    mDraw2)
def FDraw : List D → Store → R D := runT 8 mDraw
def absI (i : Int) : Int := if i < 0 then -i else i
theorem lc_abs (r0 : Env) (h4 : 4 < r0.length) (S : Store) : ∀ ns : List Int, lcL (tgN 4) mYes (mCall absD (mCons (mVar 4) mNil)) r0 (ns.map D.int) S = .ok ((ns.map absI).map D.int) S
  | [] => rfl
  | n :: ns => by
    have e : (r0.set 4 (some (D.int n)))[4]? = some (some (D.int n)) := List.getElem?_set_self h4
    rw [List.map_cons, lcL]
    simp [lc_abs r0 h4 S ns, absI, h4]
theorem maxI_cons : ∀ (x : Int) (xs : List Int), ∃ m, maxI (x :: xs) = some m
  | x, [] => ⟨x, rfl⟩
  | x, y :: ys => by
    obtain ⟨m, e⟩ := maxI_cons y ys
    show ∃ m, (maxI (y :: ys)).map (fun m => if m < x then x else m) = some m
    rw [e]
    exact ⟨_, rfl⟩
theorem maxI_app : ∀ (xs : List Int) (x : Int), ∃ m, maxI (xs ++ [x]) = some m
  | [], x => ⟨x, rfl⟩
  | y :: ys, x => maxI_cons y (ys ++ [x])
theorem atI_mod {α : Type} (x : α) (xs : List α) (k : Int) : ∃ y, atI (x :: xs) (k % ((xs.length : Int) + 1)) = some y := by
  have h1 : 0 ≤ k % ((xs.length : Int) + 1) := Int.emod_nonneg _ (by omega)
  have h2 : k % ((xs.length : Int) + 1) < xs.length + 1 := Int.emod_lt_of_pos _ (by omega)
  obtain ⟨j, ej⟩ : ∃ j : Nat, k % ((xs.length : Int) + 1) = j := ⟨_, (Int.toNat_of_nonneg h1).symm⟩
  rw [ej] at h2 ⊢
  have h3 : j < (x :: xs).length := by rw [List.length_cons]; omega
  exact ⟨(x :: xs)[j], atI_nat (List.getElem?_eq_getElem h3)⟩
theorem gs {S : Store} {t : Nat} {o : O} (h : S[t]? = some o) (o' : O) : (List.set S t o')[t]? = some o' := List.getElem?_set_self (List.getElem?_eq_some_iff.mp h).1
theorem draw_tail (ns ts : List Int) (t0 many : Int) (S : Store) (t : Nat) (hS : S[t]? = some (.lst ((t0 :: ts).map D.int))) (hl : ts.length < 99990) (hm : 0 < many) (y4 : Option D) : ∃ (r : Int) (ts' : List Int) (rho : Env), 0 ≤ r ∧ r < many ∧ ts'.length = ts.length + 2 ∧
    mDraw2 [some (.scr ns), some (.loc t), some (.int many), none, y4, none, none, none] S =
      .ok (.ret (.int r)) rho (S.set t (.lst (ts'.map D.int))) := by
  have ht : t < S.length := (List.getElem?_eq_some_iff.mp hS).1
  obtain ⟨c, hc⟩ : ∃ c, ∀ S' : Store, (mIf (mTru (mVar 0)) (mBin ixD (mVar 0) (mBin modD (mVar 3) (mCall lenD (mCons (mVar 0) mNil)))) (mC (.int 0))) [some (.scr ns), some (.loc t), some (.int many), some (.int ((ts.length : Int) + 1 + 1)), y4, none, none, none] S' = .ok (.int c) S' := by
    cases ns with
    | nil => exact ⟨0, fun _ => rfl⟩
    | cons n ns =>
      obtain ⟨x, ex⟩ := atI_mod n ns ((ts.length : Int) + 1 + 1)
      refine ⟨x, fun S' => ?_⟩
      have hp : (0 : Int) < (ns.length : Int) + 1 := by omega
      simp [hp, ex]
  have hlt : ts.length + 1 < 100000 := by omega
  have e1 : atI (D.int t0 :: (List.map D.int ts ++ [D.int 0])) 0 = some (D.int t0) := atI_zero _ _
  have e2 : ixN (ts.length + 1 + 1) 0 = some 0 := ixN_zero (by omega)
  have sm : ∀ a : Int, (-18446744073709551616 < a % 4294967291 ∧ a % 4294967291 < 18446744073709551616) := fun a => by omega
  have h : ∃ (a : Int) (rho : Env), mDraw2 [some (.scr ns), some (.loc t), some (.int many), none, y4, none, none, none] S = .ok (.ret (.int (a % many))) rho (S.set t (.lst (((t0 / 65536) :: (ts ++ [0])).map D.int))) := by
    unfold mDraw2
    simp [hS, gs hS, hlt, hc, e1, e2, sm, hm, -mIf_ap]
    exact ⟨_, rfl⟩
  obtain ⟨a, rho, e⟩ := h
  exact ⟨a % many, _, rho, Int.emod_nonneg _ (by omega), Int.emod_lt_of_pos _ hm, by simp, e⟩
theorem start_draw (ns : List Int) (t : Nat) (many : Int) : frame 8 [.scr ns, .loc t, .int many] = [some (.scr ns), some (.loc t), some (.int many), none, none, none, none, none] := rfl
section
variable {S S1 : Store} {rho : Env} {d d' : D}
open Classical in
theorem finT_ret (tr : Tr S S1) (e : fzD S.length S1 d = some d') : finT S (.ok (.ret d) rho S1) = .ok d' (S1.take S.length) := by
  have e' : fzE S.length S1 d = some d' := by unfold fzE; rw [e]
  simp only [finT, if_pos tr, e']
open Classical in
theorem finT_retE (tr : Tr S S1) (e : fzE S.length S1 d = some d') : finT S (.ok (.ret d) rho S1) = .ok d' (S1.take S.length) := by
  simp only [finT, if_pos tr, e]
theorem take_app (E : Store) : (S ++ E).take S.length = S := by simp
theorem fz_clo (h : clo S.length d = true) : fzD S.length S1 d = some d := by
  cases d with
  | loc m =>
    have : m < S.length := of_decide_eq_true h
    show (if m < S.length then _ else _) = _
    rw [if_pos this]
  | _ => exact (if_pos h : (if clo S.length _ = true then some _ else none) = some _)
theorem fin_ret0 (h : clo S.length d = true) : finT S (.ok (.ret d) rho S) = .ok d S := by
  have t := Tr.app S []
  rw [List.append_nil] at t
  rw [finT_ret t (fz_clo h), List.take_length]
theorem fin_ret_app (E : Store) (h : fzD S.length (S ++ E) d = some d') : finT S (.ok (.ret d) rho (S ++ E)) = .ok d' S := by
  rw [finT_ret (Tr.app S E) h, take_app]
theorem fin_ret_set (n : Nat) (o : O) (ho : cloO S.length o = true) (h : clo S.length d = true) : finT S (.ok (.ret d) rho (List.set S n o)) = .ok d (List.set S n o) := by
  have t := Tr.set S [] n o ho
  rw [List.append_nil] at t
  rw [finT_ret t (fz_clo h), List.take_of_length_le (by rw [List.length_set]; exact Nat.le_refl _)]
end
theorem draw_ok (ns ts : List Int) (many : Int) (S : Store) (t : Nat) (hS : S[t]? = some (.lst (ts.map D.int))) (h63 : ns.length ≤ 63) (hl : ts.length < 99990) (hm : 0 < many) : ∃ (r : Int) (ts' : List Int), 0 ≤ r ∧ r < many ∧ ts'.length ≤ ts.length + 2 ∧
    FDraw [.scr ns, .loc t, .int many] S = .ok (.int r) (S.set t (.lst (ts'.map D.int))) := by
  have ht : t < S.length := (List.getElem?_eq_some_iff.mp hS).1
  obtain ⟨r, ts', rho, h0, h1, h2, e⟩ : ∃ (r : Int) (ts' : List Int) (rho : Env), 0 ≤ r ∧ r < many ∧ ts'.length ≤ ts.length + 2 ∧ mDraw (frame 8 [.scr ns, .loc t, .int many]) S = .ok (.ret (.int r)) rho (S.set t (.lst (ts'.map D.int))) := by
    rw [start_draw]
    unfold mDraw
    cases ts with
    | nil =>
      obtain ⟨m, em⟩ := maxI_app (ns.map absI) 0
      have hS' : (S.set t (.lst ([m].map D.int)))[t]? = some (.lst ([m].map D.int)) := gs hS _
      obtain ⟨r, ts', rho, h0, h1, h2, e⟩ := draw_tail ns [] m many (S.set t (.lst ([m].map D.int))) t hS' (by simp) hm none
      refine ⟨r, ts', rho, h0, h1, by simp at h2; simp [h2], ?_⟩
      rw [List.set_set] at e
      have hx : ns.length + 1 ≤ 100000 := by omega
      have em' : maxD [D.lst (List.map D.int (List.map absI ns) ++ [D.int 0])] S = some (.int m) := by
        rw [show List.map D.int (List.map absI ns) ++ [D.int 0] = (ns.map absI ++ [0]).map D.int by simp, maxD_ints, em]
        rfl
      rw [← e]
      simp only [List.map_nil] at hS
      have hlc := lc_abs [some (D.scr ns), some (D.loc t), some (D.int many), none, none, none, none, none] (by simp) S ns
      simp [hS, hlc, hx, em', -List.map_map]
    | cons t0 ts =>
      obtain ⟨r, ts', rho, h0, h1, h2, e⟩ := draw_tail ns ts t0 many S t hS (by simp at hl; omega) hm none
      refine ⟨r, ts', rho, h0, h1, by simp [h2], ?_⟩
      rw [← e]
      simp only [List.map_cons] at hS
      simp [hS]
  refine ⟨r, ts', h0, h1, h2, ?_⟩
  show finT S (mDraw (frame 8 _) S) = _
  rw [e]
  exact fin_ret_set t _ (cloL_ints _ _) rfl
end Dv
namespace Dv
open PySem L2
noncomputable instance : DecidableEq D := fun a b => Classical.propDecidable (a = b)
def pl : Nat → D → Bool
  | _, .non => true
  | _, .int _ => true
  | _, .str x => PyData.strOk x
  | k + 1, .tup xs => xs.all (pl k)
  | k + 1, .lst xs => xs.all (pl k)
  | _, _ => false
theorem pl_dat : ∀ (k : Nat) (d : D), pl k d = true → dat d = true ∧ (pyD d).canLay0 = true ∧ (pyD d).depth ≤ k
  | _, .non, _ => ⟨rfl, rfl, Nat.zero_le _⟩
  | _, .int _, _ => ⟨rfl, rfl, Nat.zero_le _⟩
  | _, .str x, h => ⟨rfl, by cases ‹Nat› <;> exact h, Nat.zero_le _⟩
  | 0, .tup _, h => by cases h
  | 0, .lst _, h => by cases h
  | 0, .bl _, h => by cases h
  | _ + 1, .bl _, h => by cases h
  | 0, .scr _, h => by cases h
  | _ + 1, .scr _, h => by cases h
  | 0, .dct _, h => by cases h
  | _ + 1, .dct _, h => by cases h
  | 0, .dtt _, h => by cases h
  | _ + 1, .dtt _, h => by cases h
  | 0, .dpr _ _, h => by cases h
  | _ + 1, .dpr _ _, h => by cases h
  | 0, .adr _, h => by cases h
  | _ + 1, .adr _, h => by cases h
  | 0, .loc _, h => by cases h
  | _ + 1, .loc _, h => by cases h
  | 0, .ty _, h => by cases h
  | _ + 1, .ty _, h => by cases h
  | 0, .tux _, h => by cases h
  | _ + 1, .tux _, h => by cases h
  | k + 1, .tup xs, h => by
    have h : xs.all (pl k) = true := h
    have r : ∀ ys : List D, ys.all (pl k) = true → dats ys = true ∧ PyData.canLayAll0 (pyDs ys) = true ∧ PyData.depthAll (pyDs ys) ≤ k := fun ys => by
      induction ys with
      | nil => exact fun _ => ⟨rfl, rfl, Nat.zero_le _⟩
      | cons y ys ih =>
        intro h
        rw [List.all_cons, Bool.and_eq_true] at h
        obtain ⟨a, b, c⟩ := pl_dat k y h.1
        obtain ⟨a', b', c'⟩ := ih h.2
        refine ⟨by show (dat y && dats ys) = true; rw [a, a']; rfl, by show (PyData.canLay0 (pyD y) && PyData.canLayAll0 (pyDs ys)) = true; rw [b, b']; rfl, ?_⟩
        show max (PyData.depth (pyD y)) (PyData.depthAll (pyDs ys)) ≤ k
        omega
    obtain ⟨a, b, c⟩ := r xs h
    exact ⟨a, b, by show PyData.depthAll (pyDs xs) + 1 ≤ _; omega⟩
  | k + 1, .lst xs, h => by
    have h : xs.all (pl k) = true := h
    have r : ∀ ys : List D, ys.all (pl k) = true → dats ys = true ∧ PyData.canLayAll0 (pyDs ys) = true ∧ PyData.depthAll (pyDs ys) ≤ k := fun ys => by
      induction ys with
      | nil => exact fun _ => ⟨rfl, rfl, Nat.zero_le _⟩
      | cons y ys ih =>
        intro h
        rw [List.all_cons, Bool.and_eq_true] at h
        obtain ⟨a, b, c⟩ := pl_dat k y h.1
        obtain ⟨a', b', c'⟩ := ih h.2
        refine ⟨by show (dat y && dats ys) = true; rw [a, a']; rfl, by show (PyData.canLay0 (pyD y) && PyData.canLayAll0 (pyDs ys)) = true; rw [b, b']; rfl, ?_⟩
        show max (PyData.depth (pyD y)) (PyData.depthAll (pyDs ys)) ≤ k
        omega
    obtain ⟨a, b, c⟩ := r xs h
    exact ⟨a, b, by show PyData.depthAll (pyDs xs) + 1 ≤ _; omega⟩
theorem pl_ok {k : Nat} {d : D} (h : pl k d = true) (hk : k ≤ 64) : okD d = true := by
  obtain ⟨a, b, c⟩ := pl_dat k d h
  unfold okD SeqAt.shaped
  rw [a, b, decide_eq_true (show (pyD d).depth ≤ 64 by omega)]
  rfl
theorem pl_all_eqv (k : Nat) (ih : ∀ a b : D, pl k a = true → pl k b = true → (PyData.eqv (pyD a) (pyD b) = true ↔ a = b)) : ∀ xs ys : List D, xs.all (pl k) = true → ys.all (pl k) = true → (PyData.eqvAll (pyDs xs) (pyDs ys) = true ↔ xs = ys)
  | [], [], _, _ => ⟨fun _ => rfl, fun _ => rfl⟩
  | [], y :: ys, _, _ => ⟨(by intro h; cases h), (by intro h; cases h)⟩
  | x :: xs, [], _, _ => ⟨(by intro h; cases h), (by intro h; cases h)⟩
  | x :: xs, y :: ys, h1, h2 => by
    rw [List.all_cons, Bool.and_eq_true] at h1 h2
    show (PyData.eqv (pyD x) (pyD y) && PyData.eqvAll (pyDs xs) (pyDs ys)) = true ↔ _
    rw [Bool.and_eq_true, ih x y h1.1 h2.1, pl_all_eqv k ih xs ys h1.2 h2.2, List.cons.injEq]
theorem pl_eqv : ∀ (k : Nat) (a b : D), pl k a = true → pl k b = true → (PyData.eqv (pyD a) (pyD b) = true ↔ a = b) := fun k => by
  induction k with
  | zero =>
    intro a b ha hb
    cases a <;> cases b <;> first | (simp [pl] at ha; done) | (simp [pl] at hb; done) | simp [pyD, PyData.eqv]
  | succ k ih =>
    intro a b ha hb
    cases a <;> cases b <;> first | (simp [pl] at ha; done) | (simp [pl] at hb; done) | simp [pyD, PyData.eqv]
    · exact pl_all_eqv k ih _ _ ha hb
    · exact pl_all_eqv k ih _ _ ha hb
theorem pl_eqvD {k : Nat} {a b : D} (ha : pl k a = true) (hb : pl k b = true) : eqvD a b = decide (a = b) := by
  by_cases h : a = b
  · rw [decide_eq_true h]
    exact (pl_eqv k a b ha hb).mpr h
  · rw [decide_eq_false h]
    cases q : eqvD a b with
    | false => rfl
    | true => exact absurd ((pl_eqv k a b ha hb).mp q) h
theorem eqO_pl {k : Nat} {a b : D} (ha : pl k a = true) (hb : pl k b = true) (hk : k ≤ 64) : eqO a b = some (decide (a = b)) := by
  have h : (if okD a = true ∧ okD b = true then some (eqvD a b) else none) = some (decide (a = b)) := by
    rw [if_pos ⟨pl_ok ha hk, pl_ok hb hk⟩, pl_eqvD ha hb]
  unfold eqO
  split
  · congr 1
    simp
  · congr 1
    simp
  · congr 1
    simp
  · exact h
theorem eqD_pl {k : Nat} {a b : D} {S : Store} (ha : pl k (now a S) = true) (hb : pl k (now b S) = true) (hk : k ≤ 64) : eqD a b S = some (.bl (decide (now a S = now b S))) := by
  unfold eqD
  rw [eqO_pl ha hb hk]
  rfl
theorem any_pl {k : Nat} {a : D} (ha : pl k a = true) : ∀ xs : List D, xs.all (pl k) = true → (xs.any fun z => eqvD z a) = decide (a ∈ xs)
  | [], _ => by simp
  | x :: xs, h => by
    rw [List.all_cons, Bool.and_eq_true] at h
    rw [List.any_cons, any_pl ha xs h.2, pl_eqvD h.1 ha]
    by_cases e : a = x
    · subst e; simp
    · have : ¬ x = a := fun z => e z.symm
      simp [e, this]
theorem inO_pl {k : Nat} {a : D} {xs : List D} (ha : pl k a = true) (hb : xs.all (pl k) = true) (hk : k + 1 ≤ 64) : inO a (.lst xs) = some (decide (a ∈ xs)) := by
  show (if okD a = true ∧ okD (.lst xs) = true then some (xs.any fun z => eqvD z a) else none) = _
  rw [if_pos ⟨pl_ok ha (by omega), pl_ok (k := k + 1) hb hk⟩, any_pl ha xs hb]
theorem pl_rowD (k : Nat) (ns : List Int) : pl (k + 1) (rowD ns) = true := by
  show (ns.map D.int).all (pl k) = true
  rw [List.all_map, List.all_eq_true]
  intro n _
  cases k <;> rfl
theorem pl_rows (k : Nat) (rows : List (List Int)) : (rows.map rowD).all (pl (k + 1)) = true := by
  rw [List.all_map, List.all_eq_true]
  intro n _
  exact pl_rowD k n
theorem map_int_inj {a b : List Int} (h : a.map D.int = b.map D.int) : a = b := by
  induction a generalizing b with
  | nil => cases b with
    | nil => rfl
    | cons => cases h
  | cons x xs ih => cases b with
    | nil => cases h
    | cons y ys =>
      rw [List.map_cons, List.map_cons, List.cons.injEq, D.int.injEq] at h
      rw [h.1, ih h.2]
theorem rowD_inj {a b : List Int} (h : rowD a = rowD b) : a = b := by
  unfold rowD at h
  injection h with h
  exact map_int_inj h
theorem mem_rowD {a : List Int} {rows : List (List Int)} : rowD a ∈ rows.map rowD ↔ a ∈ rows := by
  constructor
  · intro h
    obtain ⟨b, hb, e⟩ := List.mem_map.mp h
    rw [← rowD_inj e]
    exact hb
  · exact fun h => List.mem_map.mpr ⟨a, h, rfl⟩
end Dv
namespace Dv
open PySem L2
theorem sLoop_cons (gm : D → Env → Option Env) (b : SM) (d : D) (ds : List D) (r : Env) (S : Store) : sLoop gm b (d :: ds) r S = (match gm d r with
    | none => .bad
    | some r1 => match b r1 S with
      | .ok .next r2 S2 => sLoop gm b ds r2 S2
      | .ok .cont r2 S2 => sLoop gm b ds r2 S2
      | .ok .brk r2 S2 => .ok .next r2 S2
      | .ok (.ret d) r2 S2 => .ok (.ret d) r2 S2
      | .exc x r2 S2 => .exc x r2 S2
      | .bad => .bad) := rfl
theorem loop_inv {gm : D → Env → Option Env} {b : SM} (I : Nat → Env → Store → Prop) : ∀ (ds : List D) (k : Nat) (r : Env) (S : Store),
    (∀ i d r S, ds[i]? = some d → I (k + i) r S → ∃ r1 r2 S2, gm d r = some r1 ∧ (b r1 S = .ok .next r2 S2 ∨ b r1 S = .ok .cont r2 S2) ∧ I (k + i + 1) r2 S2) →
    I k r S → ∃ r' S', sLoop gm b ds r S = .ok .next r' S' ∧ I (k + ds.length) r' S'
  | [], k, r, S, _, h => ⟨r, S, rfl, h⟩
  | d :: ds, k, r, S, st, h => by
    obtain ⟨r1, r2, S2, e1, e2, h2⟩ := st 0 d r S rfl h
    obtain ⟨r', S', e3, h3⟩ := loop_inv I ds (k + 1) r2 S2 (fun i d' r S q h => by
      have := st (i + 1) d' r S q
      rw [show k + (i + 1) = k + 1 + i by omega] at this
      exact this h) h2
    refine ⟨r', S', ?_, by rw [List.length_cons, show k + (ds.length + 1) = k + 1 + ds.length by omega]; exact h3⟩
    rw [sLoop_cons, e1]
    rcases e2 with e2 | e2 <;> simp only [e2] <;> exact e3
theorem lcL_cons (gm : D → Env → Option Env) (tt : BM) (te : EM) (r0 : Env) (d : D) (ds : List D) (S : Store) : lcL gm tt te r0 (d :: ds) S = (match gm d r0 with
    | none => .bad
    | some r1 => (nox (tt r1 S)).bind fun b S1 => if b = true then (nox (te r1 S1)).bind fun y S2 => (lcL gm tt te r0 ds S2).bind fun ys S3 => .ok (y :: ys) S3 else lcL gm tt te r0 ds S1) := rfl
theorem lc_inv {gm : D → Env → Option Env} {te : EM} {r0 : Env} (I : Nat → List D → Store → Prop) : ∀ (ds : List D) (k : Nat) (zs : List D) (S : Store),
    (∀ i d zs S, ds[i]? = some d → I (k + i) zs S → ∃ r1 y S2, gm d r0 = some r1 ∧ te r1 S = .ok y S2 ∧ I (k + i + 1) (zs ++ [y]) S2) →
    I k zs S → ∃ ys S', lcL gm mYes te r0 ds S = .ok ys S' ∧ I (k + ds.length) (zs ++ ys) S'
  | [], k, zs, S, _, h => ⟨[], S, rfl, by rw [List.append_nil]; exact h⟩
  | d :: ds, k, zs, S, st, h => by
    obtain ⟨r1, y, S2, e1, e2, h2⟩ := st 0 d zs S rfl h
    obtain ⟨ys, S', e3, h3⟩ := lc_inv I ds (k + 1) (zs ++ [y]) S2 (fun i d' zs S q h => by
      have := st (i + 1) d' zs S q
      rw [show k + (i + 1) = k + 1 + i by omega] at this
      exact this h) h2
    refine ⟨y :: ys, S', ?_, by rw [List.length_cons, show k + (ds.length + 1) = k + 1 + ds.length by omega]; rwa [List.append_assoc] at h3⟩
    rw [lcL_cons, e1]
    simp [e2, e3]
theorem lc_pure {gm : D → Env → Option Env} {tt : BM} {te : EM} {r0 : Env} {S : Store} (p : D → Bool) (f : D → D) : ∀ ds : List D,
    (∀ d ∈ ds, ∃ r1, gm d r0 = some r1 ∧ tt r1 S = .ok (p d) S ∧ (p d = true → te r1 S = .ok (f d) S)) → lcL gm tt te r0 ds S = .ok ((ds.filter p).map f) S
  | [], _ => rfl
  | d :: ds, h => by
    obtain ⟨r1, e1, e2, e3⟩ := h d List.mem_cons_self
    have ih := lc_pure p f ds fun d h' => h d (List.mem_cons_of_mem _ h')
    rw [lcL_cons, e1]
    cases q : p d with
    | false => simp [e2, q, ih]
    | true => simp [e2, q, e3 q, ih]
theorem lc_map {gm : D → Env → Option Env} {te : EM} {r0 : Env} {S : Store} (f : D → D) (ds : List D)
    (h : ∀ d ∈ ds, ∃ r1, gm d r0 = some r1 ∧ te r1 S = .ok (f d) S) : lcL gm mYes te r0 ds S = .ok (ds.map f) S := by
  have := lc_pure (gm := gm) (tt := mYes) (te := te) (r0 := r0) (S := S) (fun _ => true) f ds fun d hd => by
    obtain ⟨r1, a, b⟩ := h d hd
    exact ⟨r1, a, rfl, fun _ => b⟩
  rw [this, List.filter_eq_self.mpr fun _ _ => rfl]
theorem rng_get {lo : Int} {n i : Nat} {d : D} (h : (rng lo n)[i]? = some d) : i < n ∧ d = .int (lo + i) := by
  unfold rng at h
  rw [List.getElem?_map] at h
  by_cases hi : i < n
  · rw [List.getElem?_range hi] at h
    cases h
    exact ⟨hi, rfl⟩
  · rw [List.getElem?_eq_none (by rw [List.length_range]; omega)] at h
    cases h
theorem rng0_get {n i : Nat} {d : D} (h : (rng 0 n)[i]? = some d) : i < n ∧ d = .int i := by
  obtain ⟨a, b⟩ := rng_get h
  exact ⟨a, by rw [b, Int.zero_add]⟩
def Twn (t n : Nat) (S : Store) : Prop := ∃ ts : List Int, ts.length ≤ n ∧ S[t]? = some (.lst (ts.map D.int))
def Dif (t : Nat) (S S' : Store) : Prop := ∃ ts : List Int, S' = List.set S t (.lst (ts.map D.int))
theorem Twn.mono {t n m : Nat} {S : Store} (h : Twn t n S) (hm : n ≤ m) : Twn t m S := by
  obtain ⟨ts, a, b⟩ := h
  exact ⟨ts, by omega, b⟩
theorem Dif.trans {t : Nat} {S S' S'' : Store} (h : Dif t S S') (h' : Dif t S' S'') : Dif t S S'' := by
  obtain ⟨a, rfl⟩ := h
  obtain ⟨b, rfl⟩ := h'
  exact ⟨b, by rw [List.set_set]⟩
theorem Twn.dif {t n : Nat} {S : Store} (h : Twn t n S) : Dif t S S := by
  obtain ⟨ts, _, b⟩ := h
  refine ⟨ts, ?_⟩
  obtain ⟨h1, h2⟩ := List.getElem?_eq_some_iff.mp b
  rw [← h2, List.set_getElem_self]
theorem Dif.len {t : Nat} {S S' : Store} (h : Dif t S S') : S'.length = S.length := by
  obtain ⟨a, rfl⟩ := h
  exact List.length_set
theorem Dif.other {t i : Nat} {S S' : Store} (h : Dif t S S') (hi : i ≠ t) : S'[i]? = S[i]? := by
  obtain ⟨a, rfl⟩ := h
  exact List.getElem?_set_ne (fun e => hi e.symm)
theorem Dif.fin {t : Nat} {S S' : Store} {rho : Env} {d : D} (h : Dif t S S') (hd : clo S.length d = true) : finT S (.ok (.ret d) rho S') = .ok d S' := by
  obtain ⟨a, rfl⟩ := h
  exact fin_ret_set t _ (cloL_ints _ _) hd
theorem draw_tw {ns : List Int} {many : Int} {S : Store} {t n : Nat} (h63 : ns.length ≤ 63) (h : Twn t n S) (hn : n < 99990) (hm : 0 < many) : ∃ (r : Nat) (S' : Store), (r : Int) < many ∧ Twn t (n + 2) S' ∧ Dif t S S' ∧ FDraw [.scr ns, .loc t, .int many] S = .ok (.int r) S' := by
  obtain ⟨ts, h1, h2⟩ := h
  obtain ⟨r, ts', a, b, c, e⟩ := draw_ok ns ts many S t h2 h63 (by omega) hm
  refine ⟨r.toNat, _, ?_, ⟨ts', ?_, ?_⟩, ⟨ts', rfl⟩, ?_⟩
  · omega
  · omega
  · exact gs h2 _
  · rw [Int.toNat_of_nonneg a]
    exact e
theorem ltR_tri : ∀ a b : List Int, ltR a b = false → ltR b a = false → a = b
  | [], [], _, _ => rfl
  | [], _ :: _, h, _ => by cases h
  | _ :: _, [], _, h => by cases h
  | x :: xs, y :: ys, h1, h2 => by
    rw [ltR, HT.lexLt_cons] at h1 h2
    by_cases e : x = y
    · subst e
      simp only [if_true] at h1 h2
      rw [ltR_tri xs ys h1 h2]
    · rw [if_neg e] at h1
      rw [if_neg (fun z => e z.symm)] at h2
      have := of_decide_eq_false h1
      have := of_decide_eq_false h2
      omega
theorem sortL_strict {α : Type} {lt : α → α → Bool} (O : SrtO.Swo lt) (tri : ∀ a b, lt a b = false → lt b a = false → a = b) {l : List α} (nd : l.Nodup) : (sortL lt l).Pairwise fun a b => lt a b = true := by
  have h1 : (sortL lt l).Pairwise fun a b => lt b a = false := sortL_srtd O l
  have h2 : (sortL lt l).Nodup := (sortL_perm l).nodup_iff.mpr nd
  refine (h1.and h2).imp fun {a b} h => ?_
  cases q : lt a b with
  | true => rfl
  | false => exact absurd (tri a b q h.1) h.2
theorem intsOf_row (r : List Int) (rs : List (List Int)) : intsOf ((r :: rs).map rowD) = none := rfl
theorem sortD_rows {S : Store} (rows : List (List Int)) (h : ∀ r ∈ rows, r ≠ []) : sortD [.lst (rows.map rowD)] S = some (.lst ((sortL ltR rows).map rowD)) := by
  cases rows with
  | nil => rfl
  | cons r rs =>
    show (match intsOf ((r :: rs).map rowD) with
      | some ns => some (D.lst ((sortL ltI ns).map D.int))
      | none => (rowsOf ((r :: rs).map rowD)).map fun rows => D.lst ((sortL ltR rows).map rowD)) = _
    rw [intsOf_row, rowsOf_map h]
    rfl
theorem cloL_rows (n : Nat) (rows : List (List Int)) : cloL n (rows.map rowD) = true := (cloL_iff n _).mpr fun d hd => by
  obtain ⟨r, _, rfl⟩ := List.mem_map.mp hd
  exact cloL_ints n r
def mRowsB : SM := (sSeq (sSet 7 (mCall tupD (mCons (mLc (mRng1 (mCons (mVar 2) mNil)) [8] (tgN 8) mYes (mApp 3 FDraw (mCons (mVar 0) (mCons (mVar 1) (mCons (mVar 4) mNil))))) mNil)))
    (sSet 5 (mBin addD (mVar 5) (mBin mulD (mLst (mCons (mVar 7) mNil)) (mCall intD (mCons (mBin ninD (mVar 7) (mVar 5)) mNil))))))
def mRows : SM :=
    (sSeq (sSet 5 (mLst mNil))
    (sSeq (sFor (mRng1 (mCons (mApp 3 FDraw (mCons (mVar 0) (mCons (mVar 1) (mCons (mBin addD (mVar 3) (mC (.int 1))) mNil)))) mNil)) (tgN 6) mRowsB)
    (sRet (mCall tupD (mCons (mCall sortD (mCons (mVar 5) mNil)) mNil)))))
def FRows : List D → Store → R D := runT 9 mRows
def Row (width : Nat) (far : Int) (r : List Int) : Prop := r.length = width ∧ ∀ x ∈ r, 0 ≤ x ∧ x < far
theorem rowsB_ok {ns : List Int} {t n width : Nat} {most far : Int} {S : Store} {rows : List (List Int)} (h63 : ns.length ≤ 63) (hw : width ≤ 1000) (hf : 0 < far) (ht : Twn t n S) (hn : n + 2 * width < 99000) (hr : rows.length < 90000) (y6 y7 y8 : Option D) :
    ∃ (row : List Int) (S' : Store) (y7' y8' : Option D), Row width far row ∧ Twn t (n + 2 * width) S' ∧ Dif t S S' ∧
    mRowsB [some (.scr ns), some (.loc t), some (.int width), some (.int most), some (.int far), some (.lst (rows.map rowD)), y6, y7, y8] S =
      .ok .next [some (.scr ns), some (.loc t), some (.int width), some (.int most), some (.int far), some (.lst ((if row ∈ rows then rows else rows ++ [row]).map rowD)), y6, y7', y8'] S' := by
  obtain ⟨ys, S', e, row, h0, h1, h2, h3, h4⟩ := lc_inv (gm := tgN 8) (te := mApp 3 FDraw (mCons (mVar 0) (mCons (mVar 1) (mCons (mVar 4) mNil))))
    (r0 := [some (.scr ns), some (.loc t), some (.int width), some (.int most), some (.int far), some (.lst (rows.map rowD)), y6, y7, none])
    (fun i zs S' => ∃ row : List Int, i ≤ width ∧ zs = row.map D.int ∧ Row i far row ∧ Twn t (n + 2 * i) S' ∧ Dif t S S') (rng 0 width) 0 [] S (fun i d zs S1 hd hi => by
      obtain ⟨hi2, rfl⟩ := rng_get hd
      obtain ⟨row, h0, h1, h2, h3, h4⟩ := hi
      obtain ⟨x, S2, a, b, c, e⟩ := draw_tw h63 h3 (by omega) hf
      refine ⟨_, .int x, S2, rfl, ?_, row ++ [(x : Int)], by omega, ?_, ⟨?_, ?_⟩, b.mono (by omega), h4.trans c⟩
      · simp
        exact e
      · rw [h1]; simp
      · simp [h2.1]
      · intro z hz
        rw [List.mem_append] at hz
        rcases hz with hz | hz
        · exact h2.2 z hz
        · rw [List.mem_singleton] at hz
          subst hz
          omega) ⟨[], Nat.zero_le _, rfl, ⟨rfl, by intro x hx; cases hx⟩, ht.mono (by omega), ht.dif⟩
  rw [rng_len, Nat.zero_add] at h0 h2 h3
  have hin : inO (rowD row) (.lst (rows.map rowD)) = some (decide (row ∈ rows)) := by
    rw [inO_pl (k := 1) (pl_rowD 0 row) (pl_rows 0 rows) (by decide)]
    congr 1
    exact decide_eq_decide.mpr mem_rowD
  have hnin : ninD (rowD row) (.lst (rows.map rowD)) S' = some (.bl (!decide (row ∈ rows))) := by
    show (inO (rowD row) (.lst (rows.map rowD))).map (fun k => D.bl (!k)) = _
    rw [hin]
    rfl
  have hys : ys = row.map D.int := by simpa using h1
  subst hys
  refine ⟨row, S', some (rowD row), y8, h2, h3, h4, ?_⟩
  have hw' : -100000 ≤ (width : Int) ∧ (width : Int) ≤ 100000 := by omega
  have hr' : rows.length ≤ 100000 := by omega
  have hr2 : rows.length + 1 ≤ 100000 := by omega
  unfold mRowsB
  have e' : D.tup (row.map D.int) = rowD row := rfl
  by_cases hm : row ∈ rows
  · simp [hw', e, e', hnin, hm, hr']
  · simp [hw', e, e', hnin, hm, hr', hr2]
theorem rows_ok {ns : List Int} {t n width most : Nat} {far : Int} {S : Store} (h63 : ns.length ≤ 63) (hw0 : 0 < width) (hw : width ≤ 1000) (hf : 0 < far) (ht : Twn t n S) (hn : n + 2 + 2 * width * most < 99000) (hr : most < 90000) :
    ∃ (rows : List (List Int)) (S' : Store), rows.length ≤ most ∧ (∀ r ∈ rows, Row width far r) ∧ (rows.Pairwise fun a b => ltR a b = true) ∧ Twn t (n + 2 + 2 * width * most) S' ∧ Dif t S S' ∧
    FRows [.scr ns, .loc t, .int width, .int most, .int far] S = .ok (.tup (rows.map rowD)) S' := by
  obtain ⟨m, S1, hm, t1, d1, e1⟩ := draw_tw (many := (most : Int) + 1) h63 ht (by omega) (by omega)
  have hmm : m ≤ most := by omega
  obtain ⟨r', S', e, rows, y6, y7, y8, rfl, h0, h1, h2, h3, h4⟩ := loop_inv (gm := tgN 6) (b := mRowsB)
    (fun i r S' => ∃ (rows : List (List Int)) (y6 y7 y8 : Option D), r = [some (.scr ns), some (.loc t), some (.int width), some (.int most), some (.int far), some (.lst (rows.map rowD)), y6, y7, y8] ∧
      rows.length ≤ i ∧ rows.Nodup ∧ (∀ r ∈ rows, Row width far r) ∧ Twn t (n + 2 + 2 * width * i) S' ∧ Dif t S S') (rng 0 m) 0 [some (.scr ns), some (.loc t), some (.int width), some (.int most), some (.int far), some (.lst (([] : List (List Int)).map rowD)), none, none, none] S1 (fun i d r S2 hd hi => by
      obtain ⟨hi2, rfl⟩ := rng_get hd
      obtain ⟨rows, y6, y7, y8, rfl, h0, h1, h2, h3, h4⟩ := hi
      have hle : 2 * width * (0 + i + 1) ≤ 2 * width * most := Nat.mul_le_mul_left _ (by omega)
      have hsu : 2 * width * (0 + i + 1) = 2 * width * (0 + i) + 2 * width := Nat.mul_succ _ _
      obtain ⟨row, S3, y7', y8', a, b, c, e⟩ := rowsB_ok (most := (most : Int)) h63 hw hf h3 (by omega) (show rows.length < 90000 by omega) (some (.int (0 + (i : Int)))) y7 y8
      refine ⟨_, _, S3, rfl, .inl e, (if row ∈ rows then rows else rows ++ [row]), _, _, _, rfl, ?_, ?_, ?_, b.mono (by omega), h4.trans c⟩
      · split
        · omega
        · rw [List.length_append, List.length_singleton]; omega
      · split
        · exact h1
        · rename_i q
          rw [List.nodup_append]
          refine ⟨h1, by simp, fun x hx y hy => ?_⟩
          rw [List.mem_singleton] at hy
          subst hy
          intro e
          subst e
          exact q hx
      · intro z hz
        split at hz
        · exact h2 z hz
        · rw [List.mem_append] at hz
          rcases hz with hz | hz
          · exact h2 z hz
          · rw [List.mem_singleton] at hz
            subst hz
            exact a) ⟨[], none, none, none, rfl, Nat.zero_le _, List.nodup_nil, (by intro x hx; cases hx), t1.mono (by omega), d1⟩
  rw [rng_len, Nat.zero_add] at h0 h3
  have hle : 2 * width * m ≤ 2 * width * most := Nat.mul_le_mul_left _ hmm
  have hne : ∀ r ∈ rows, r ≠ [] := fun r hr e => by
    have := (h2 r hr).1
    rw [e, List.length_nil] at this
    omega
  refine ⟨sortL ltR rows, S', by rw [sortL_len]; omega, fun r hr => h2 r ((sortL_perm rows).mem_iff.mp hr), sortL_strict ltR_swo ltR_tri h1, h3.mono (by omega), h4, ?_⟩
  show finT S (mRows (frame 9 _) S) = _
  have hmr : -100000 ≤ (m : Int) ∧ (m : Int) ≤ 100000 := by omega
  have ef : frame 9 [.scr ns, .loc t, .int width, .int most, .int far] = [some (.scr ns), some (.loc t), some (.int width), some (.int most), some (.int far), none, none, none, none] := rfl
  have eb : ∃ rho, mRows (frame 9 [.scr ns, .loc t, .int width, .int most, .int far]) S = .ok (.ret (.tup ((sortL ltR rows).map rowD))) rho S' := by
    rw [ef]
    unfold mRows
    simp only [List.map_nil] at e
    simp [e1, hmr, e, sortD_rows rows hne]
  obtain ⟨rho, eb⟩ := eb
  rw [eb]
  refine h4.fin ?_
  show cloL _ _ = true
  exact cloL_rows _ _
end Dv
namespace Dv
open PySem L2
end Dv
namespace Dv
open PySem L2
section
variable {S : Store} {l v : Nat} {rows : List (List Int)} {lv : List (Nat × Nat × Nat)} {m : Int}
end
end Dv
set_option maxHeartbeats 4000000
namespace Dv
open PySem PySem.Spec PyProof.Rows L2
abbrev nset (w : World) : Obj := { cls := .type "set", dict := none, data := .set #[] 0 (.fresh 0 0 (!w.params.followText "set-order")) }
abbrev liter (l : Addr) : Obj := { cls := .type "list_iterator", data := .fields #[.ref l, .int 0 0] }
section
variable {P : Program} {w : World} {A : Around} {E : Value → Shared → Prop} {s : Shared}
theorem set_of_list {l : Addr} {xs : Array Value} {Q : Value → Shared → Prop} (G : Heap → Prop) (hl : s.heap.IsList l xs)
    (lp : ∀ R : Result → Shared → Prop, (∀ h' tk, G h' → (∀ b o, s.heap.get? b = some o → h'.get? b = some o) → R (.ok (.ret .none)) { s with heap := h', toks := tk }) →
      ((s.heap.push (nset w)).push (liter l)).IsList l xs → codeAny (model P w) A.in1.in1 (.builtin "set.update.loop" ⟨[.ref s.heap.objs.size, .ref (s.heap.objs.size + 1)], []⟩) R { s with heap := (s.heap.push (nset w)).push (liter l) })
    (fin : ∀ h' tk, G h' → (∀ b o, s.heap.get? b = some o → h'.get? b = some o) → Q (.ref s.heap.objs.size) { s with heap := h', toks := tk }) : wpAny (model P w) A (call (.type "set") [.ref l]) Q E s := by
  obtain ⟨cc, tt, hmro⟩ := F.called_set.mro
  have k1 := F.called_set.made
  have k2 := F.called_set.sub
  refine wpAny_call (codeAny_of_tree ?_)
  show wpAny _ _ (callAny (.type "set") _) _ _ _
  refine wpAny_pure ⟨Code.quiet_builtin _ (by decide +kernel), codeAny_builtin F.entry_type_call ?_⟩
  rw [Around.under_plain (weight_type_call_type "set" [.ref l] []) rfl]
  have k3 := F.called_set.notType
  have k4 := F.called_set.canCreate
  have k5 := F.typeCall_set_1 (.ref l)
  repeat (any_goals (first | assumption | wp_step))
  have e0 : (s.heap.push (nset w)).get? s.heap.objs.size = some (nset w) := Heap.get?_push_size _ rfl
  refine codeAny_mono (code_set_led1 (.ref l) (E := E) (Q₁ := fun v u => v = .ref s.heap.objs.size ∧ u = { s with heap := s.heap.push (nset w) }) ⟨rfl, rfl⟩) fun r u hr => ?_
  cases r with
  | error e => exact hr
  | ok fl =>
    cases fl with
    | ret obj =>
      obtain ⟨rfl, rfl⟩ := hr
      have ty : Shared.TypeIs { s with heap := s.heap.push (nset w) } (.ref s.heap.objs.size) "set" := ⟨_, e0, rfl⟩
      have k6 := F.called_set.init.lookup
      have k7 := F.called_set.init.bind (.ref s.heap.objs.size)
      repeat (any_goals (first | assumption | wp_step))
      refine codeAny_mono (codeAny_call_builtin (R := wants (fun r u => r = .none ∧ ∃ h' tk, u = { s with heap := h', toks := tk } ∧ G h' ∧ ∀ b o, s.heap.get? b = some o → h'.get? b = some o) E) F.called_set.init.plain F.entry_set_init (check_set_init_1 ty ?_)) fun r2 u2 hr2 => ?_
      · obtain ⟨ol, hol, hcl, nl, hdl⟩ := hl
        obtain ⟨ocls, odict, odata, oslots⟩ := ol
        simp only at hcl hdl
        subst hcl; subst hdl
        have there : (s.heap.push (nset w)).get? l = some { cls := .type "list", dict := odict, data := .seq xs nl, slots := oslots } := Heap.get?_push_of_some _ hol
        have k8 := F.sub_list_set
        have k9 := F.sub_list_frozenset
        have k10 : (Value.type "list" == Value.type "dict") = false := by decide
        have isl : (s.heap.push (nset w)).IsList l xs := ⟨_, there, rfl, nl, rfl⟩
        unfold Builtin.«set.__init__» noKeywords Builtin.Frozenset.updateFrom
        generalize hPI : pyIter = PI
        wp_walk
        subst hPI
        refine wpAny_pyIter_list isl ?_
        refine wpAny_bind (wpAny_runValue ?_)
        have sz : (s.heap.push (nset w)).objs.size = s.heap.objs.size + 1 := Heap.size_push ..
        rw [sz]
        refine lp _ (fun h' tk g k => ?_) (isl.push _)
        show wpAny _ _ _ _ _ _
        refine wpAny_pure ?_
        show wpAny _ _ (ret Value.none) _ _ _
        exact wpAny_pure ⟨rfl, h', tk, rfl, g, k⟩
      · cases r2 with
        | error e => exact hr2
        | ok f2 =>
          cases f2 with
          | ret r =>
            obtain ⟨rfl, h', tk, rfl, g, k⟩ := hr2
            repeat (any_goals (first | assumption | wp_step))
            exact fin h' tk g k
          | _ => exact hr2.elim
    | _ => exact hr.elim
theorem set_of_ints {l : Addr} {xs : Array Value} (ns : List Int) {Q : Value → Shared → Prop} (hh : A.handled = none) (hl : s.heap.IsList l xs) (hi : IntsAre xs.toList ns) (hb : ns.length + 1 < scanBound)
    (fin : ∀ h' tk c, SetR w h' s.heap.objs.size (fun j => decide (j ∈ ns)) c → c ≤ ns.length → (∀ b o, s.heap.get? b = some o → h'.get? b = some o) → Q (.ref s.heap.objs.size) { s with heap := h', toks := tk }) : wpAny (model P w) A (call (.type "set") [.ref l]) Q E s := by
  have hsz : xs.size = ns.length := by
    have q := IntsAre.length hi
    rw [Array.length_toList] at q
    exact q
  have hlS : l < s.heap.objs.size := by
    obtain ⟨o, ho, _⟩ := hl
    exact Heap.lt_size ho
  refine set_of_list (fun h' => ∃ c, SetR w h' s.heap.objs.size (fun j => decide (j ∈ ns)) c ∧ c ≤ ns.length) hl (fun R hR isl => ?_) fun h' tk ⟨c, h1, h2⟩ k => fin h' tk c h1 h2 k
  have sz : (s.heap.push (nset w)).objs.size = s.heap.objs.size + 1 := Heap.size_push ..
  have hne : l ≠ s.heap.objs.size + 1 := Nat.ne_of_lt (Nat.lt_succ_of_lt hlS)
  have hnf : s.heap.objs.size ∉ [s.heap.objs.size + 1, l] := by
    simp only [List.mem_cons, List.not_mem_nil, or_false, not_or]
    exact ⟨Nat.ne_of_lt (Nat.lt_succ_self _), Nat.ne_of_gt hlS⟩
  have vals : ∀ (i : Nat) (v : Value), xs[i]? = some v → ∃ k t, ns[i]? = some k ∧ v = .int k t := fun i v hv => by
    have h1 : i < ns.length := by rw [← hsz]; exact (Array.getElem?_eq_some_iff.mp hv).1
    obtain ⟨t, e⟩ := PyProof.Rows.IntsAre.int_at hi i v (by rw [Array.getElem?_toList]; exact hv)
    refine ⟨ns[i], t, List.getElem?_eq_getElem h1, ?_⟩
    rw [e, List.getD_eq_getElem?_getD, List.getElem?_eq_getElem h1] <;> rfl
  have h3 : A.in1.in1.in1.handled = none := by simp [hh]
  have git : ((s.heap.push (nset w)).push (liter l)).get? (s.heap.objs.size + 1) = some (liter l) := by
    rw [← sz]
    exact Heap.get?_push_size _ rfl
  refine set_update_ints ((Walks.list h3 (s.heap.objs.size + 1) l hne xs).toS) s.heap.objs.size hnf ns hsz hb vals (xs.size - 0) 0 _ (by omega) (Nat.zero_le _) ⟨⟨_, git, rfl, rfl⟩, isl⟩ ⟨0, Nat.le_refl 0, setR_new_at (Heap.get?_push_of_some _ (Heap.get?_push_size _ rfl))⟩ fun s' c hm hc hS => ?_
  obtain ⟨h', g2, d', tk', os'⟩ := s'
  have eg : g2 = s.gens := hm.gens
  have ed : d' = s.drawn := hm.drawn
  have eo : os' = s.os := hm.os
  subst eg; subst ed; subst eo
  refine hR h' tk' ⟨c, hS, by omega⟩ fun b o e => ?_
  have hb0 : b < s.heap.objs.size := Heap.lt_size e
  exact hm.heap b o (by simp only [List.mem_cons, List.not_mem_nil, or_false, not_or]; exact ⟨Nat.ne_of_lt hb0, Nat.ne_of_lt (Nat.lt_succ_of_lt hb0)⟩) (Heap.get?_push_of_some _ (Heap.get?_push_of_some _ e))
end
end Dv
namespace Dv
open PySem PySem.Spec PyProof.Rows L2
section
variable {X : Cx}
def rSetI (K : PySem.W.Frag) (w : World) : List V → Hp → VK → Prop := fun vs H Q => ∃ (l : Addr) (ns : List Int), vs = [.ref l] ∧ SqL K H l (ns.map V.int) ∧ ns.length ≤ 1000 ∧ ∀ (a : Addr) (c : Nat), H a = none → c ≤ ns.length → Q (.ref a) (upd H a (SetO w a (fun j => decide (j ∈ ns)) c))
theorem cr_setI (hc : X.calm = true) : CallR X (.type "set") (rSetI X.K X.w) := by
  intro pins s σ H vs us Q I r h
  obtain ⟨l, ns, rfl, hl, hz, q⟩ := h
  rw [Vals.ref1 r]
  obtain ⟨its, rv, pl, _⟩ := I.list hl
  have hn : H s.heap.objs.size = none := I.hok.fresh (Nat.le_refl _)
  refine set_of_ints (P := X.prog) (w := X.w) ns (I.ok.hd hc) pl.isList (by simpa using ints_of_vals rv) (by unfold scanBound; omega) fun h' tk c R hcn k => ?_
  exact ⟨.ref s.heap.objs.size, upd H s.heap.objs.size (SetO X.w s.heap.objs.size (fun j => decide (j ∈ ns)) c), I.laid (t' := tk) k (Nat.le_refl _) (setO_new R), rfl, q _ c hn hcn⟩
theorem j_callBT {Wx : WX} {ms : AM} {es : List Expr} {x y : Str} {p p' pos pos' : Pos} {e : Expr} {id id' : String} {r r' : List V → Hp → VK → Prop} {f : List D → Store → Option D} (hc' : CallR X (.builtin id') r') (hc : CallR X (.type id) r)
    (hf : POk X.K X.mg (fun vs H Q => r vs H fun v H1 => r' [v] H1 Q) f) (hg' : Gl X y) (hm' : X.mg y = none) (hv' : bootBuiltins y = some (.builtin id')) (hg : Gl X x) (hm : X.mg x = none) (hv : bootBuiltins x = some (.type id)) (ha : PA X (e :: es) (tDA X.K X.mg Wx ms))
    (hn' : y ≠ "__name__" := by decide) (hdb' : (y == ("__debug__" : Str)) = false := by decide) (hn : x ≠ "__name__" := by decide) (hdb : (x == ("__debug__" : Str)) = false := by decide)
    (he : starEach (e :: es) X.env = (false, eval e X.env) :: starEach es X.env := by rfl) (hpl : (backTo pos (starEach es X.env)).any (·.1) = false := by rfl) :
    PE X (.Call (.Name y p') [.Call (.Name x p) (e :: es) [] pos] [] pos') (tD X.K X.mg Wx (mCall f ms)) :=
  pe_imp (pe_callB hc' hg' hm' hv' (pa_cons (pe_callTy hc hg hm hv ha hn hdb he hpl) pa_nil) hn' hdb') fun g H Q h => tCB_of hf g H Q h
end
theorem strict_ext {α : Type} {lt : α → α → Bool} (O : SrtO.Swo lt) : ∀ {a b : List α}, (a.Pairwise fun x y => lt x y = true) → (b.Pairwise fun x y => lt x y = true) → (∀ x, x ∈ a ↔ x ∈ b) → a = b
  | [], [], _, _, _ => rfl
  | [], y :: ys, _, _, h => absurd ((h y).mpr List.mem_cons_self) (by intro h; cases h)
  | x :: xs, [], _, _, h => absurd ((h x).mp List.mem_cons_self) (by intro h; cases h)
  | x :: xs, y :: ys, h1, h2, h => by
    rw [List.pairwise_cons] at h1 h2
    have e : x = y := by
      have hx := (h x).mp List.mem_cons_self
      have hy := (h y).mpr List.mem_cons_self
      rcases List.mem_cons.mp hx with e | e
      · exact e
      · rcases List.mem_cons.mp hy with e2 | e2
        · exact e2.symm
        · have q1 := h2.1 x e
          have q2 := h1.1 y e2
          rw [O.asym _ _ q1] at q2
          cases q2
    subst e
    have nx : x ∉ xs := fun m => by
      have q := h1.1 x m
      rw [O.refl x] at q
      cases q
    have ny : x ∉ ys := fun m => by
      have q := h2.1 x m
      rw [O.refl x] at q
      cases q
    refine congrArg (x :: ·) (strict_ext O h1.2 h2.2 fun z => ?_)
    constructor
    · intro m
      rcases List.mem_cons.mp ((h z).mp (List.mem_cons_of_mem _ m)) with e | e
      · subst e
        exact absurd m nx
      · exact e
    · intro m
      rcases List.mem_cons.mp ((h z).mpr (List.mem_cons_of_mem _ m)) with e | e
      · subst e
        exact absurd m ny
      · exact e
theorem ltI_tri (a b : Int) (h1 : ltI a b = false) (h2 : ltI b a = false) : a = b := by
  have := of_decide_eq_false h1
  have := of_decide_eq_false h2
  omega
def dedL {α : Type} [DecidableEq α] : List α → List α
  | [] => []
  | x :: xs => if x ∈ dedL xs then dedL xs else x :: dedL xs
theorem mem_dedL {α : Type} [DecidableEq α] (z : α) : ∀ xs : List α, z ∈ dedL xs ↔ z ∈ xs
  | [] => Iff.rfl
  | x :: xs => by
    have ih := mem_dedL z xs
    unfold dedL
    split
    · rename_i h
      rw [ih, List.mem_cons]
      refine ⟨.inr, fun q => ?_⟩
      rcases q with rfl | q
      · exact (mem_dedL z xs).mp h
      · exact q
    · rw [List.mem_cons, List.mem_cons, ih]
theorem nodup_dedL {α : Type} [DecidableEq α] : ∀ xs : List α, (dedL xs).Nodup
  | [] => List.nodup_nil
  | x :: xs => by
    unfold dedL
    split
    · exact nodup_dedL xs
    · rename_i h
      exact List.nodup_cons.mpr ⟨h, nodup_dedL xs⟩
def ssI (ns : List Int) : List Int := sortL ltI (dedL ns)
theorem mem_ssI {z : Int} {ns : List Int} : z ∈ ssI ns ↔ z ∈ ns := by
  unfold ssI
  rw [(sortL_perm _).mem_iff, mem_dedL]
theorem ssI_strict (ns : List Int) : (ssI ns).Pairwise (· < ·) := (sortL_strict ltI_swo ltI_tri (nodup_dedL ns)).imp fun {x y} h => of_decide_eq_true h
theorem ssI_ext {a ns : List Int} (h : a.Pairwise (· < ·)) (m : ∀ z, z ∈ a ↔ z ∈ ns) : a = ssI ns :=
  strict_ext ltI_swo (h.imp fun {x y} h => decide_eq_true h) (sortL_strict ltI_swo ltI_tri (nodup_dedL ns)) fun z => by
    rw [m z]
    exact mem_ssI.symm
def sortSetD (ds : List D) (S : Store) : Option D := match ds with
  | [.lst xs] => match intsOf xs with
    | some ns => if ns.length < 64 then some (.lst ((ssI ns).map D.int)) else none
    | none => none
  | _ => none
theorem sortSetD_ints {S : Store} {ns : List Int} (h : ns.length < 64) : sortSetD [.lst (ns.map D.int)] S = some (.lst ((ssI ns).map D.int)) := by
  show (match intsOf (ns.map D.int) with
    | some ns => if ns.length < 64 then some (D.lst ((ssI ns).map D.int)) else none
    | none => none) = _
  rw [intsOf_map]
  exact if_pos h
theorem pok_sortSet {K : PySem.W.Frag} {mg : Str → Option Value} {w : World} : POk K mg (fun vs H Q => rSetI K w vs H fun v H1 => rSortedSet w [v] H1 Q) sortSetD := fun T S H vs ds d Q sim rep e k => by
  unfold sortSetD at e
  split at e
  · rename_i xs
    split at e
    · rename_i ns hi
      split at e
      · rename_i h64
        cases e
        have hx := intsOf_some hi
        subst hx
        cases rep with
        | cons r1 rt =>
          cases rt
          cases r1 with
          | @lst a vs' _ hH off rl =>
            have hv := rl.of_ints
            subst hv
            refine ⟨a, ns, rfl, .inl (.inl hH), by omega, fun p c hp hc => ⟨p, _, c, rfl, upd_same .., by omega, fun ms q hs hm hl hq => ?_⟩⟩
            have em : ms = ssI ns := ssI_ext hs fun z => by rw [hm z, decide_eq_true_eq]
            subst em
            have st1 := sim.stepNew (o := SetO w p (fun j => decide (j ∈ ns)) c) hp
            have sim1 := sim.new (o := SetO w p (fun j => decide (j ∈ ns)) c) hp (hlen_oth sim.hl fun xs => ⟨(by intro z; cases z), (by intro z; cases z), (by intro x z; cases z), (by intro x z; cases z)⟩)
            have hlen : (List.map V.int (ssI ns)).length ≤ sizeLine := by rw [List.length_map, hl, sizeLine_eq]; omega
            exact k _ (.ref q) (st1.trans (sim1.stepNew hq)) (sim1.new hq (hlen_lst sim1.hl hlen)) (.lst (upd_same ..) (sim1.off hq) (RepL.ints _))
      · cases e
    · cases e
  · cases e
end Dv
namespace Dv
open PySem L2
section
variable (K : PySem.W.Frag) (mg : Str → Option Value)
end
section
variable {X : Cx} {Wx : WX} {a b : Expr} {es : List Expr} {pos : Pos} {ma mb : EM} {ms : AM}
end
section
variable {K : PySem.W.Frag} {mg : Str → Option Value} {T : Tb} {S : Store} {H : Hp}
end
section
variable {K : PySem.W.Frag} {mg : Str → Option Value}
theorem fn_bad {P : Program} {w : World} {base : Heap} {CX : CXT} {k : Nat} {f : Addr} {fd : FuncData} {ps : List Str} : FnOk P w K mg base CX k f fd ps (spD K mg ps.length fun _ _ => .bad) := by
  refine ⟨fun vs H Q E q => q.1, fun A outer s H args us vs Q E hr he hb hv hs => ?_⟩
  obtain ⟨hl, T, S, ds, rep, sim, out⟩ := hs
  exact out.elim
end
end Dv
namespace Dv
open PySem L2
def tk (rows : List (List Int)) (d i : Nat) : List Int := (rows.getD i []).take d
def cl (rows : List (List Int)) (k i : Nat) : Int := (rows.getD i []).getD k 0
section
variable {rows : List (List Int)} {w : Nat}
structure Blk (rows : List (List Int)) (k lo far : Nat) : Prop where
  lt : lo < far
  le : far ≤ rows.length
  iff : ∀ i, i < rows.length → (tk rows k i = tk rows k lo ↔ lo ≤ i ∧ i < far)
structure St (rows : List (List Int)) (k : Nat) (x : Nat × Nat × Nat) : Prop where
  blk : Blk rows k x.1 x.2.1
  lo : x.1 ≤ x.2.2
  hi : x.2.2 ≤ x.2.1
  gs : x.2.2 < x.2.1 → ∀ i, x.1 ≤ i → i < x.2.2 → cl rows k i < cl rows k x.2.2
end
end Dv
namespace Dv
open PySem L2
section
variable {S : Store} {l v : Nat} {rows : List (List Int)} {lv : List (Nat × Nat × Nat)} {m : Int} {w : Nat}
end
end Dv
namespace Dv
open PySem L2
section
variable {S S1 : Store} {l v : Nat} {rows : List (List Int)} {lv : List (Nat × Nat × Nat)} {m : Int} {w : Nat}
end
end Dv
namespace Dv
open PySem L2
def mSame (self : List D → Store → R D) : SM :=
    (sSeq (sIf (mT (mBin isND (mVar 1) (mC .non))) (sRet (mBin isND (mVar 0) (mC .non))) sNil)
    (sSeq (sIf (mTru (mCall isiD (mCons (mVar 1) (mCons (mC (.ty "bool")) mNil)))) (sRet (mAnd (mCall isiD (mCons (mVar 0) (mCons (mC (.ty "bool")) mNil))) (mBin eqD (mVar 0) (mVar 1)))) sNil)
    (sSeq (sIf (mTru (mCall isiD (mCons (mVar 1) (mCons (mC (.ty "tuple")) mNil)))) (sSeq (sIf (mOrT (mNotT (mTru (mCall isiD (mCons (mVar 0) (mCons (mC (.ty "tuple")) mNil))))) (mT (mBin neD (mCall lenD (mCons (mVar 0) mNil)) (mCall lenD (mCons (mVar 1) mNil))))) (sRet (mC (.bl false))) sNil)
    (sRet (mCall allD (mCons (mLc (mZip (mCons (mVar 0) (mCons (mVar 1) mNil))) [2, 3] (tgT 2 (tgsCons (tgN 2) (tgsCons (tgN 3) tgsNil))) mYes (mApp 2 self (mCons (mVar 2) (mCons (mVar 3) mNil)))) mNil)))) sNil)
    (sSeq (sIf (mTru (mCall isiD (mCons (mVar 1) (mCons (mC (.ty "str")) mNil)))) (sRet (mAnd (mCall isiD (mCons (mVar 0) (mCons (mC (.ty "str")) mNil))) (mBin eqD (mVar 0) (mVar 1)))) sNil)
    (sRet (mAnd (mCall isiD (mCons (mVar 0) (mCons (mC (.ty "int")) mNil))) (mAnd (mNot (mCall isiD (mCons (mVar 0) (mCons (mC (.ty "bool")) mNil)))) (mBin eqD (mVar 0) (mVar 1)))))))))
def FSame : Nat → List D → Store → R D
  | 0 => fun _ _ => .bad
  | n + 1 => runT 4 (mSame (FSame n))
def pt : Nat → D → Bool
  | _, .non => true
  | _, .bl _ => true
  | _, .int _ => true
  | _, .str _ => true
  | k + 1, .tup xs => xs.all (pt k)
  | _, _ => false
theorem same_zip {S : Store} (f : List D → Store → R D) (k : Nat) (ih : ∀ a b, pt k a = true → pt k b = true → f [a, b] S = .ok (.bl (decide (a = b))) S) (r0 : Env) (h0 : r0.length = 4) : ∀ xs ys : List D, xs.all (pt k) = true → ys.all (pt k) = true →
    lcL (tgT 2 (tgsCons (tgN 2) (tgsCons (tgN 3) tgsNil))) mYes (mApp 2 f (mCons (mVar 2) (mCons (mVar 3) mNil))) r0 (List.zipWith (fun a b => D.tup [a, b]) xs ys) S = .ok ((List.zipWith (fun a b => decide (a = b)) xs ys).map D.bl) S
  | [], _, _, _ => by simp [lcL]
  | x :: xs, [], _, _ => by simp [lcL]
  | x :: xs, y :: ys, h1, h2 => by
    rw [List.all_cons, Bool.and_eq_true] at h1 h2
    rw [List.zipWith_cons_cons, lcL_cons]
    have e := same_zip f k ih r0 h0 xs ys h1.2 h2.2
    have e2 := ih x y h1.1 h2.1
    simp [h0, e, e2]
theorem zip_all : ∀ xs ys : List D, xs.length = ys.length → ((List.zipWith (fun a b => decide (a = b)) xs ys).all id) = decide (xs = ys)
  | [], [], _ => by simp
  | x :: xs, y :: ys, h => by
    rw [List.zipWith_cons_cons, List.all_cons, zip_all xs ys (by simpa using h)]
    by_cases e : x = y
    · subst e; simp
    · simp [e]
theorem same_ok {S : Store} : ∀ (n k : Nat), k < n → ∀ a b, pt k a = true → pt k b = true → FSame n [a, b] S = .ok (.bl (decide (a = b))) S
  | 0, k, h, _, _, _, _ => absurd h (Nat.not_lt_zero _)
  | n + 1, k, h, a, b, ha, hb => by
    have eb : ∃ rho, mSame (FSame n) (frame 4 [a, b]) S = .ok (.ret (.bl (decide (a = b)))) rho S := by
      rw [show frame 4 [a, b] = [some a, some b, none, none] from rfl]
      unfold mSame
      have i1 : ∀ d, pt k d = true → ∀ S, isiD [d, .ty "bool"] S = some (.bl (match d with | .bl _ => true | _ => false)) := fun d hd S => by
        cases d <;> first | rfl | (cases k <;> cases hd)
      have i2 : ∀ d, pt k d = true → ∀ S, isiD [d, .ty "tuple"] S = some (.bl (match d with | .tup _ => true | _ => false)) := fun d hd S => by
        cases d <;> first | rfl | (cases k <;> cases hd)
      have i3 : ∀ d, pt k d = true → ∀ S, isiD [d, .ty "str"] S = some (.bl (match d with | .str _ => true | _ => false)) := fun d hd S => by
        cases d <;> first | rfl | (cases k <;> cases hd)
      have i4 : ∀ d, pt k d = true → ∀ S, isiD [d, .ty "int"] S = some (.bl (match d with | .int _ => true | .bl _ => true | _ => false)) := fun d hd S => by
        cases d <;> first | rfl | (cases k <;> cases hd)
      have j1 : ∀ d, pt k d = true → ∀ S, isND d .non S = some (.bl (match d with | .non => true | _ => false)) := fun d hd S => by
        cases d <;> rfl
      have q1 : ∀ x y : Bool, ∀ S, eqD (.bl x) (.bl y) S = some (.bl (decide (x = y))) := fun _ _ _ => rfl
      have q2 : ∀ x y : Str, ∀ S, eqD (.str x) (.str y) S = some (.bl (decide (x = y))) := fun _ _ _ => rfl
      cases b with
      | tup ys =>
        cases a with
        | tup xs =>
          cases k with
          | zero => cases ha
          | succ k =>
            have z := same_zip (S := S) (FSame n) k (fun a b h1 h2 => same_ok n k (by omega) a b h1 h2) [some (.tup xs), some (.tup ys), none, none] rfl xs ys ha hb
            by_cases hl : xs.length = ys.length
            · have hz := zip_all xs ys hl
              have e1 : ((xs.length : Int) = (ys.length : Int)) := by rw [hl]
              have e2 : zipD [.tup xs, .tup ys] = some (List.zipWith (fun a b => D.tup [a, b]) xs ys) := rfl
              have e3 := allD_bls (S := S) (List.zipWith (fun a b => decide (a = b)) xs ys)
              simp [i1 _ ha, i1 _ hb, i2 _ ha, i2 _ hb, j1 _ hb, e1, e2, z, e3, hz, -List.map_zipWith]
            · have e1 : ¬ ((xs.length : Int) = (ys.length : Int)) := by omega
              have e2 : ¬ xs = ys := fun e => hl (by rw [e])
              simp [i1 _ ha, i1 _ hb, i2 _ ha, i2 _ hb, j1 _ hb, e1, e2]
        | _ => simp [i1 _ ha, i1 _ hb, i2 _ ha, i2 _ hb, j1 _ hb]
      | _ => cases a <;> simp [i1 _ ha, i1 _ hb, i2 _ ha, i2 _ hb, i3 _ ha, i3 _ hb, i4 _ ha, j1 _ hb, j1 _ ha, q1, q2] <;> (first | done | (cases k <;> cases hb) | (cases k <;> cases ha))
    obtain ⟨rho, eb⟩ := eb
    show finT S (mSame (FSame n) (frame 4 _) S) = _
    rw [eb]
    exact fin_ret0 rfl
end Dv
namespace Dv
open PySem L2
def mPick : SM := (sRet (mBin ixD (mVar 2) (mApp 3 FDraw (mCons (mVar 0) (mCons (mVar 1) (mCons (mCall lenD (mCons (mVar 2) mNil)) mNil))))))
def FPick : List D → Store → R D := runT 3 mPick
theorem pick_tw {ns : List Int} {S : Store} {t n : Nat} {seq : D} {xs : List D} (h63 : ns.length ≤ 63) (h : Twn t n S) (hn : n < 99990) (hs : seq = .lst xs ∨ seq = .tup xs) (hne : xs ≠ []) (hc : ∀ m, cloL m xs = true) : ∃ (i : Nat) (d : D) (S' : Store), xs[i]? = some d ∧ Twn t (n + 2) S' ∧ Dif t S S' ∧ FPick [.scr ns, .loc t, seq] S = .ok d S' := by
  have hl : 0 < xs.length := List.length_pos_iff.mpr hne
  obtain ⟨r, S', a, b, c, e⟩ := draw_tw (many := (xs.length : Int)) h63 h hn (by omega)
  have hr : r < xs.length := by omega
  refine ⟨r, xs[r], S', List.getElem?_eq_getElem hr, b, c, ?_⟩
  have eb : ∃ rho, mPick (frame 3 [.scr ns, .loc t, seq]) S = .ok (.ret xs[r]) rho S' := by
    rw [show frame 3 [.scr ns, .loc t, seq] = [some (.scr ns), some (.loc t), some seq] from rfl]
    unfold mPick
    have ea : atI xs (r : Int) = some xs[r] := atI_nat (List.getElem?_eq_getElem hr)
    rcases hs with rfl | rfl
    · simp [e, ea]
    · simp [e, ea]
  obtain ⟨rho, eb⟩ := eb
  show finT S (mPick (frame 3 _) S) = _
  rw [eb]
  exact c.fin ((cloL_iff _ _).mp (hc _) _ (List.getElem_mem hr))
end Dv
namespace Dv
open PySem L2
def lcL2 (gm : D → Env → Option Env) (tt : BM) (mi1 : IM) (vs1 : List Nat) (gm1 : D → Env → Option Env) (tt1 : BM) (te : EM) (r0 : Env) : List D → Store → R (List D)
  | [], S => .ok [] S
  | d :: ds, S => match gm d r0 with
    | none => .bad
    | some r1 => (nox (tt r1 S)).bind fun b S1 => if b = true then (nox (mi1 r1 S1)).bind fun es S2 => (lcL gm1 tt1 te (wipeE r1 vs1) es S2).bind fun ys S3 => (lcL2 gm tt mi1 vs1 gm1 tt1 te r0 ds S3).bind fun zs S4 => .ok (ys ++ zs) S4
      else lcL2 gm tt mi1 vs1 gm1 tt1 te r0 ds S1
def lcFin (zs : List D) (S : Store) : R D := if zs.length ≤ 100000 then .ok (.lst zs) S else .bad
def mLc2 (mi : IM) (vs : List Nat) (gm : D → Env → Option Env) (tt : BM) (mi1 : IM) (vs1 : List Nat) (gm1 : D → Env → Option Env) (tt1 : BM) (te : EM) : EM := fun r S => (mi r S).bind fun ds S1 => (lcL2 gm tt mi1 vs1 gm1 tt1 te (wipeE r vs) ds S1).bind fun ys S2 => lcFin ys S2
def noE {α : Type} (x : R α) : Prop := ∀ n S, x ≠ .exc n S
theorem noE_nox {α : Type} (x : R α) : noE (nox x) := by
  cases x <;> intro n S h <;> cases h
theorem noE_bind {α β : Type} {x : R α} {f : α → Store → R β} (hx : noE x) (hf : ∀ a S, noE (f a S)) : noE (x.bind f) := by
  cases x with
  | ok a S => exact hf a S
  | exc n S => exact absurd rfl (hx n S)
  | bad => intro n S h; cases h
theorem noE_ok {α : Type} (a : α) (S : Store) : noE (R.ok a S) := fun n S h => by cases h
theorem noE_lcL {gm : D → Env → Option Env} {tt : BM} {te : EM} {r0 : Env} : ∀ (ds : List D) (S : Store), noE (lcL gm tt te r0 ds S)
  | [], S => noE_ok _ _
  | d :: ds, S => by
    rw [lcL_cons]
    split
    · intro n S h; cases h
    · refine noE_bind (noE_nox _) fun b S1 => ?_
      split
      · exact noE_bind (noE_nox _) fun y S2 => noE_bind (noE_lcL ds S2) fun _ _ => noE_ok _ _
      · exact noE_lcL ds S1
theorem lcL2_cons {gm : D → Env → Option Env} {tt : BM} {mi1 : IM} {vs1 : List Nat} {gm1 : D → Env → Option Env} {tt1 : BM} {te : EM} {r0 : Env} (d : D) (ds : List D) (S : Store) : lcL2 gm tt mi1 vs1 gm1 tt1 te r0 (d :: ds) S = (match gm d r0 with
    | none => .bad
    | some r1 => (nox (tt r1 S)).bind fun b S1 => if b = true then (nox (mi1 r1 S1)).bind fun es S2 => (lcL gm1 tt1 te (wipeE r1 vs1) es S2).bind fun ys S3 => (lcL2 gm tt mi1 vs1 gm1 tt1 te r0 ds S3).bind fun zs S4 => .ok (ys ++ zs) S4
      else lcL2 gm tt mi1 vs1 gm1 tt1 te r0 ds S1) := rfl
theorem noE_lcL2 {gm : D → Env → Option Env} {tt : BM} {mi1 : IM} {vs1 : List Nat} {gm1 : D → Env → Option Env} {tt1 : BM} {te : EM} {r0 : Env} : ∀ (ds : List D) (S : Store), noE (lcL2 gm tt mi1 vs1 gm1 tt1 te r0 ds S)
  | [], S => noE_ok _ _
  | d :: ds, S => by
    rw [lcL2_cons]
    split
    · intro n S h; cases h
    · refine noE_bind (noE_nox _) fun b S1 => ?_
      split
      · exact noE_bind (noE_nox _) fun es S2 => noE_bind (noE_lcL es S2) fun _ S3 => noE_bind (noE_lcL2 ds S3) fun _ _ => noE_ok _ _
      · exact noE_lcL2 ds S1
section
variable {K : PySem.W.Frag} {mg : Str → Option Value} {Wx : WX} {T : Tb} {H : Hp} {g : L2.St}
theorem fin_bound {x : R (List D)} {ys : List D} {Q : VK} (hx : noE x) (h : Out K mg Wx (Rep K) T g H (x.bind fun zs S2 => lcFin (ys ++ zs) S2) Q) : ∃ zs S2, x = .ok zs S2 ∧ ys.length + zs.length ≤ 100000 := by
  cases x with
  | bad => exact h.elim
  | exc n S => exact absurd rfl (hx n S)
  | ok zs S =>
    refine ⟨zs, S, rfl, ?_⟩
    by_cases q : (ys ++ zs).length ≤ 100000
    · rw [List.length_append] at q
      exact q
    · have h : Out K mg Wx (Rep K) T g H (lcFin (ys ++ zs) S) Q := h
      unfold lcFin at h
      rw [if_neg q] at h
      exact h.elim
end
section
variable {X : Cx} {Wx : WX} {elt tg iter tg1 iter1 : Expr} {ifs ifs1 : List Expr} {scope : Scope} {own : List (Str × Nat)} {pos : Pos} {mi mi1 : IM} {sl sl1 vs1 : List Nat} {gm gm1 : D → Env → Option Env} {tt tt1 : BM} {te : EM}
theorem tLc2_of {K : PySem.W.Frag} {mg : Str → Option Value} {vs : List Nat} (hsl : ∀ i ∈ sl, i ∈ vs) (hsl1 : ∀ i ∈ sl1, i ∈ vs1) : ∀ g H Q, tD K mg Wx (mLc2 mi vs gm tt mi1 vs1 gm1 tt1 te) g H Q →
    tLc2 (iD K mg Wx mi) (gD K mg sl gm) (tDT K mg W0 tt) (iD K mg W0 mi1) (gD K mg sl1 gm1) (tDT K mg W0 tt1) (tD K mg W0 te) vs vs1 g H Q := by
  intro g H Q h
  obtain ⟨T, r, S, rs, sim, h⟩ := h
  refine ⟨T, r, S, rs, sim, Out.bind h fun ds S1 T1 H1 J st sim1 rel h1 => ?_⟩
  obtain ⟨wk, hz⟩ := rel
  intro Dl hD
  have hl0 : HLen (upd H1 Dl (.lst [])) := hlen_lst sim1.hl (Nat.zero_le _)
  obtain ⟨kp0, simh⟩ := sim1.hide (u := .lst []) hD hl0
  have rs1 := rs.step st
  -- steps of the hidden table are steps of the open one
  have opn : ∀ {Ta Tb : Tb} {Ha Hb : Hp}, Ta.hid = Dl :: T1.hid → Step T1 H1 ⟨Ta.loc, T1.hid⟩ Ha → Step Ta Ha Tb Hb → Tb.hid = Dl :: T1.hid ∧ Step T1 H1 ⟨Tb.loc, T1.hid⟩ Hb := fun {Ta Tb Ha Hb} e1 s1 s2 => by
    refine ⟨s2.hid.trans e1, s1.trans ⟨s2.ext, rfl, fun b hb => s2.hkeep b (by rw [e1]; exact List.mem_cons_of_mem _ hb), fun b u n q => ?_, s2.new⟩⟩
    by_cases hb : b = Dl
    · subst hb
      rw [s2.hkeep b (by rw [e1]; exact List.mem_cons_self)]
      exact q
    · exact s2.keep b u ⟨n.1, fun z => by
        rw [e1] at z
        exact (List.mem_cons.mp z).elim hb n.2⟩ q
  have kpO : ∀ {T2 : Tb} {H2 : Hp}, T2.hid = Dl :: T1.hid → Step T1 H1 ⟨T2.loc, T1.hid⟩ H2 → Kf T1 H1 T2 H2 := fun {T2 H2} eh st2 => by
    have off2 : ∀ b, T1.off b → H1 b ≠ none → T2.off b := fun b n q => ⟨(st2.out q n).1, fun z => by
      rw [eh] at z
      rcases List.mem_cons.mp z with z | z
      · exact q (by rw [z]; exact hD)
      · exact n.2 z⟩
    exact ⟨⟨fun b u k n q => ⟨st2.keep b u n q, off2 b n (some_ne q)⟩, fun b u n q => ⟨st2.rd q n, off2 b n (rd_some q)⟩, fun n a q => st2.get q⟩, fun b o u n q => ⟨st2.keep b _ n q, off2 b n (some_ne q)⟩⟩
  refine ⟨fun i m H => ∃ T S acc ys, m = ds.length - i ∧ i ≤ ds.length ∧ T.hid = Dl :: T1.hid ∧ Step T1 H1 ⟨T.loc, T1.hid⟩ H ∧ Sim K mg T S H ∧ H Dl = some (.lst acc) ∧ RepL K T H acc ys ∧
    Out K mg Wx (Rep K) T1 g H1 ((lcL2 gm tt mi1 vs1 gm1 tt1 te (wipeE r vs) (ds.drop i) S).bind fun zs S2 => lcFin (ys ++ zs) S2) Q, ⟨ds.length, T1.hide Dl, S1, [], [], by simp, Nat.zero_le _, rfl, sim1.stepNew hD, simh, upd_same, .nil, by simpa using h1⟩, ?_⟩
  rintro i m H2 ⟨T2, S2, acc, ys, rfl, hi, eh, st2, sim2, hD2, ra, ho⟩
  have kf2 : Kf T1 H1 T2 H2 := kpO eh st2
  have kp2 := kf2.toKp
  obtain ⟨stop, go⟩ := wk T2 S2 H2 kf2 sim2
  by_cases hlt : i < ds.length
  · have ed : ds.drop i = ds[i] :: ds.drop (i + 1) := List.drop_eq_getElem_cons hlt
    rw [ed] at ho
    obtain ⟨g1, yl⟩ := go i ds[i] (List.getElem?_eq_getElem hlt)
    refine .inr ⟨g1, fun H => ∃ T S acc ys, T.hid = Dl :: T1.hid ∧ Step T1 H1 ⟨T.loc, T1.hid⟩ H ∧ Sim K mg T S H ∧ H Dl = some (.lst acc) ∧ RepL K T H acc ys ∧
      Out K mg Wx (Rep K) T1 g H1 ((lcL2 gm tt mi1 vs1 gm1 tt1 te (wipeE r vs) (ds.drop (i + 1)) S).bind fun zs S2 => lcFin (ys ++ zs) S2) Q, fun H3 q => ?_, fun x H3 y => ?_⟩
    · obtain ⟨T3, S3, acc3, ys3, q1, q2, q3, q4, q5, q7⟩ := q
      exact ⟨ds.length - (i + 1), by omega, T3, S3, acc3, ys3, rfl, hlt, q1, q2, q3, q4, q5, q7⟩
    · obtain ⟨st3, sim3, rep3⟩ := yl x H3 y
      simp only [lcL2] at ho
      obtain ⟨eh3, op3⟩ := opn eh st2 st3
      have hid3 : Dl ∈ T2.hid := by rw [eh]; exact List.mem_cons_self
      split at ho
      · exact ho.elim
      · rename_i r1 eg
        refine ⟨T2, wipeE r vs, S2, ds[i], r1, ((rs1.wipe vs).kp kp2).step st3, sim3, rep3, eg, fun g4 rs4 lg kg => ⟨wipe_same hsl (by rw [lg, wipe_length]) kg, T2, r1, S2, rs4, sim3, ?_⟩⟩
        rw [R.bind_assoc] at ho
        refine lc_bind ho fun b S4 T4 H4 v st4 sim4 rel4 ho4 => ?_
        subst rel4
        obtain ⟨eh4, op4⟩ := opn eh3 op3 st4
        have hid4 : Dl ∈ T4.hid := by rw [eh4]; exact List.mem_cons_self
        have hD4 : H4 Dl = some (.lst acc) := (st4.hkeep Dl hid3).trans ((st3.hkeep Dl hid3).trans hD2)
        cases v with
        | false =>
          rw [if_neg Bool.false_ne_true] at ho4 ⊢
          exact ⟨T4, S4, acc, ys, eh4, op4, sim4, hD4, ra.step (st3.trans st4), ho4⟩
        | true =>
          rw [if_pos rfl, R.bind_assoc] at ho4
          rw [if_pos rfl]
          -- the inner for
          refine ⟨T4, r1, S4, rs4.step st4, sim4, lc_bind ho4 fun es S5 T5 H5 J1 st5 sim5 rel5 ho5 => ?_⟩
          obtain ⟨wk1, hz1⟩ := rel5
          obtain ⟨eh5, op5⟩ := opn eh4 op4 st5
          have rs5 : RepSt K T5 H5 r1 g4 := (rs4.step st4).step st5
          refine ⟨fun j k H => ∃ T S acc ys, k = es.length - j ∧ j ≤ es.length ∧ T.hid = Dl :: T1.hid ∧ Step T1 H1 ⟨T.loc, T1.hid⟩ H ∧ Kf T5 H5 T H ∧ Sim K mg T S H ∧ H Dl = some (.lst acc) ∧ RepL K T H acc ys ∧
            Out K mg Wx (Rep K) T1 g H1 (((lcL gm1 tt1 te (wipeE r1 vs1) (es.drop j) S).bind fun ys S3 => (lcL2 gm tt mi1 vs1 gm1 tt1 te (wipeE r vs) (ds.drop (i + 1)) S3).bind fun zs S4 => .ok (ys ++ zs) S4).bind fun zs S2 => lcFin (ys ++ zs) S2) Q,
            ⟨es.length, T5, S5, acc, ys, by simp, Nat.zero_le _, eh5, op5, (Step.refl T5 H5).kf, sim5, (st5.hkeep Dl hid4).trans hD4, ra.step ((st3.trans st4).trans st5), by rw [List.drop_zero]; exact ho5⟩, ?_⟩
          rintro j k H6 ⟨T6, S6, acc6, ys6, rfl, hj, eh6, st6, kp6, sim6, hD6, ra6, ho6⟩
          obtain ⟨stop1, go1⟩ := wk1 T6 S6 H6 kp6 sim6
          by_cases hlt1 : j < es.length
          · have ed1 : es.drop j = es[j] :: es.drop (j + 1) := List.drop_eq_getElem_cons hlt1
            rw [ed1] at ho6
            obtain ⟨g7, yl1⟩ := go1 j es[j] (List.getElem?_eq_getElem hlt1)
            refine .inr ⟨g7, fun H => ∃ T S acc ys, T.hid = Dl :: T1.hid ∧ Step T1 H1 ⟨T.loc, T1.hid⟩ H ∧ Kf T5 H5 T H ∧ Sim K mg T S H ∧ H Dl = some (.lst acc) ∧ RepL K T H acc ys ∧
              Out K mg Wx (Rep K) T1 g H1 (((lcL gm1 tt1 te (wipeE r1 vs1) (es.drop (j + 1)) S).bind fun ys S3 => (lcL2 gm tt mi1 vs1 gm1 tt1 te (wipeE r vs) (ds.drop (i + 1)) S3).bind fun zs S4 => .ok (ys ++ zs) S4).bind fun zs S2 => lcFin (ys ++ zs) S2) Q, fun H7 q => ?_, fun x7 H7 y7 => ?_⟩
            · obtain ⟨T8, S8, acc8, ys8, q1, q2, q3, q4, q5, q6, q7⟩ := q
              exact ⟨es.length - (j + 1), by omega, T8, S8, acc8, ys8, rfl, hlt1, q1, q2, q3, q4, q5, q6, q7⟩
            · obtain ⟨st7, sim7, rep7⟩ := yl1 x7 H7 y7
              have noe := noE_bind (noE_lcL (gm := gm1) (tt := tt1) (te := te) (r0 := wipeE r1 vs1) (es[j] :: es.drop (j + 1)) S6) fun ys S3 => noE_bind (noE_lcL2 (gm := gm) (tt := tt) (mi1 := mi1) (vs1 := vs1) (gm1 := gm1) (tt1 := tt1) (te := te) (r0 := wipeE r vs) (ds.drop (i + 1)) S3) fun zs S4 => noE_ok (ys ++ zs) S4
              obtain ⟨zz, Sz, ez, hzz⟩ := fin_bound noe ho6
              simp only [lcL] at ho6 ez
              obtain ⟨eh7, op7⟩ := opn eh6 st6 st7
              have hid7 : Dl ∈ T6.hid := by rw [eh6]; exact List.mem_cons_self
              split at ho6
              · exact ho6.elim
              · rename_i r8 eg8
                rw [eg8] at ez
                simp only at ez
                refine ⟨T6, wipeE r1 vs1, S6, es[j], r8, ((rs5.wipe vs1).kp kp6.toKp).step st7, sim7, rep7, eg8, fun g9 rs9 lg9 kg9 => ⟨wipe_same hsl1 (by rw [lg9, wipe_length]) kg9, T6, r8, S6, rs9, sim7, ?_⟩⟩
                rw [R.bind_assoc, R.bind_assoc] at ho6
                refine lc_bind (x := tt1 r8 S6) ho6 fun b S9 T9 H9 v st9 sim9 rel9 ho9 => ?_
                subst rel9
                obtain ⟨eh9, op9⟩ := opn eh7 op7 st9
                have hid9 : Dl ∈ T9.hid := by rw [eh9]; exact List.mem_cons_self
                have hD9 : H9 Dl = some (.lst acc6) := (st9.hkeep Dl hid7).trans ((st7.hkeep Dl hid7).trans hD6)
                cases v with
                | false =>
                  rw [if_neg Bool.false_ne_true] at ho9 ⊢
                  exact ⟨T9, S9, acc6, ys6, eh9, op9, kp6.trans (st7.trans st9).kf, sim9, hD9, ra6.step (st7.trans st9), by rw [R.bind_assoc]; exact ho9⟩
                | true =>
                  rw [if_pos rfl, R.bind_assoc] at ho9
                  rw [if_pos rfl]
                  refine ⟨T9, r8, S9, rs9.step st9, sim9, lc_bind ho9 fun yd Sa Ta Ha yv sta sima rela hoa => ?_⟩
                  obtain ⟨eha, opa⟩ := opn eh9 op9 sta
                  have hida : Dl ∈ Ta.hid := by rw [eha]; exact List.mem_cons_self
                  have raa : RepL K Ta Ha acc6 ys6 := ra6.step ((st7.trans st9).trans sta)
                  have e5 : (fun zs S2 => lcFin (ys6 ++ [yd] ++ zs) S2) = fun zs S2 => (R.ok (yd :: zs) S2).bind fun zs S2 => lcFin (ys6 ++ zs) S2 := by
                    funext zs S2
                    show _ = lcFin (ys6 ++ (yd :: zs)) S2
                    rw [List.append_assoc]
                    rfl
                  have hoa' : Out K mg Wx (Rep K) T1 g H1 (((lcL gm1 tt1 te (wipeE r1 vs1) (es.drop (j + 1)) Sa).bind fun ys S3 => (lcL2 gm tt mi1 vs1 gm1 tt1 te (wipeE r vs) (ds.drop (i + 1)) S3).bind fun zs S4 => .ok (ys ++ zs) S4).bind fun zs S2 => lcFin (ys6 ++ [yd] ++ zs) S2) Q := by
                    have e6 : ((lcL gm1 tt1 te (wipeE r1 vs1) (es.drop (j + 1)) Sa).bind fun ys S3 => (lcL2 gm tt mi1 vs1 gm1 tt1 te (wipeE r vs) (ds.drop (i + 1)) S3).bind fun zs S4 => R.ok (ys ++ zs) S4).bind (fun zs S2 => lcFin (ys6 ++ [yd] ++ zs) S2) =
                        ((lcL gm1 tt1 te (wipeE r1 vs1) (es.drop (j + 1)) Sa).bind fun ys S3 => R.ok (yd :: ys) S3).bind fun a S => ((lcL2 gm tt mi1 vs1 gm1 tt1 te (wipeE r vs) (ds.drop (i + 1)) S).bind fun zs S4 => R.ok (a ++ zs) S4).bind fun zs S2 => lcFin (ys6 ++ zs) S2 := by
                      cases lcL gm1 tt1 te (wipeE r1 vs1) (es.drop (j + 1)) Sa with
                      | bad => rfl
                      | exc n S => rfl
                      | ok q Sq =>
                        show (((lcL2 gm tt mi1 vs1 gm1 tt1 te (wipeE r vs) (ds.drop (i + 1)) Sq).bind fun zs S4 => R.ok (q ++ zs) S4).bind fun zs S2 => lcFin (ys6 ++ [yd] ++ zs) S2) = (((lcL2 gm tt mi1 vs1 gm1 tt1 te (wipeE r vs) (ds.drop (i + 1)) Sq).bind fun zs S4 => R.ok (yd :: q ++ zs) S4).bind fun zs S2 => lcFin (ys6 ++ zs) S2)
                        cases lcL2 gm tt mi1 vs1 gm1 tt1 te (wipeE r vs) (ds.drop (i + 1)) Sq with
                        | bad => rfl
                        | exc n S => rfl
                        | ok q2 Sq2 =>
                          show lcFin (ys6 ++ [yd] ++ (q ++ q2)) Sq2 = lcFin (ys6 ++ (yd :: q ++ q2)) Sq2
                          simp
                    rw [e6]
                    exact hoa
                  have noea := noE_bind (noE_lcL (gm := gm1) (tt := tt1) (te := te) (r0 := wipeE r1 vs1) (es.drop (j + 1)) Sa) fun ys S3 => noE_bind (noE_lcL2 (gm := gm) (tt := tt) (mi1 := mi1) (vs1 := vs1) (gm1 := gm1) (tt1 := tt1) (te := te) (r0 := wipeE r vs) (ds.drop (i + 1)) S3) fun zs S4 => noE_ok (ys ++ zs) S4
                  obtain ⟨za, Sz2, _, hza⟩ := fin_bound noea hoa'
                  rw [List.length_append, List.length_singleton] at hza
                  have hal : acc6.length + 1 ≤ sizeLine := by rw [raa.length]; exact sz5 (by omega)
                  have hla : HLen (upd Ha Dl (.lst (acc6 ++ [yv]))) := hlen_lst sima.hl (by rw [List.length_append, List.length_singleton]; exact hal)
                  obtain ⟨kpa, simb⟩ := sima.setHid (u := .lst (acc6 ++ [yv])) hida hla
                  refine ⟨acc6, (sta.hkeep Dl hid9).trans hD9, hal, Ta, Sa, acc6 ++ [yv], ys6 ++ [yd], eha, ⟨opa.ext, rfl, fun b hb => ?_, fun b u n q => ?_, opa.new⟩, (kp6.trans ((st7.trans st9).trans sta).kf).trans kpa, simb, upd_same, RepL.append (raa.kp kpa.toKp) (.cons (rela.kp kpa.toKp) .nil), hoa'⟩
                  · rw [upd_ne fun e => sim1.hid b hb (by rw [e]; exact hD)]
                    exact opa.hkeep b hb
                  · rw [upd_ne (ne_of_none q hD)]
                    exact opa.keep b u n q
          · have e : j = es.length := by omega
            subst e
            rw [List.drop_length] at ho6
            refine .inl ⟨stop1, T6, S6, acc6, ys6, eh6, st6, sim6, hD6, ra6, ?_⟩
            have e7 : (lcL gm1 tt1 te (wipeE r1 vs1) [] S6).bind (fun ys S3 => (lcL2 gm tt mi1 vs1 gm1 tt1 te (wipeE r vs) (ds.drop (i + 1)) S3).bind fun zs S4 => R.ok (ys ++ zs) S4) = lcL2 gm tt mi1 vs1 gm1 tt1 te (wipeE r vs) (ds.drop (i + 1)) S6 := by
              show (lcL2 gm tt mi1 vs1 gm1 tt1 te (wipeE r vs) (ds.drop (i + 1)) S6).bind (fun zs S4 => R.ok zs S4) = _
              cases lcL2 gm tt mi1 vs1 gm1 tt1 te (wipeE r vs) (ds.drop (i + 1)) S6 <;> rfl
            rw [e7] at ho6
            exact ho6
  · have e : i = ds.length := by omega
    subst e
    rw [List.drop_length] at ho
    have ho : Out K mg Wx (Rep K) T1 g H1 (lcFin (ys ++ []) S2) Q := ho
    unfold lcFin at ho
    split at ho
    · refine .inl ⟨stop, ho ⟨T2.loc, T1.hid⟩ H2 _ st2 ?_ ?_⟩
      · have h9 := sim2
        obtain ⟨l2, h2⟩ := T2
        cases eh
        exact h9.unhide
      · obtain ⟨l2, h2⟩ := T2
        cases eh
        rw [List.append_nil]
        refine .lst hD2 ⟨fun z => ?_, fun z => ?_⟩ (ra.kp kp_unhide)
        · exact sim2.apart z List.mem_cons_self
        · have nd := (List.nodup_append.mp sim2.nd).2.1
          exact (List.nodup_cons.mp nd).1 z
    · exact ho.elim
theorem j_lc2 (hsl : ∀ i ∈ sl, i ∈ own.map (·.2)) (hsl1 : ∀ i ∈ sl1, i ∈ vs1) (hv : ∀ i ∈ vs1, i ∈ own.map (·.2)) (hc : X.calm = true) (hN : X.N.Nodup) (hi : PI X tg iter (iD X.K X.mg Wx mi)) (ok : BlkOk X.N X.env.scope scope own)
    (hg : ∀ (s : Shared) (H : Hp) (C : Addr) (cl : List (Str × Addr)) (fp : List Addr), PG (X.blk s H scope (compEnvC scope cl C X.env) fp) tg (gD X.K X.mg sl gm)) (ht : ∀ (s : Shared) (H : Hp) (C : Addr) (cl : List (Str × Addr)) (fp : List Addr), PTs (X.blk s H scope (compEnvC scope cl C X.env) fp) ifs (tDT X.K X.mg W0 tt))
    (hi1 : ∀ (s : Shared) (H : Hp) (C : Addr) (cl : List (Str × Addr)) (fp : List Addr), PI (X.blk s H scope (compEnvC scope cl C X.env) fp) tg1 iter1 (iD X.K X.mg W0 mi1))
    (hg1 : ∀ (s : Shared) (H : Hp) (C : Addr) (cl : List (Str × Addr)) (fp : List Addr), PG (X.blk s H scope (compEnvC scope cl C X.env) fp) tg1 (gD X.K X.mg sl1 gm1)) (ht1 : ∀ (s : Shared) (H : Hp) (C : Addr) (cl : List (Str × Addr)) (fp : List Addr), PTs (X.blk s H scope (compEnvC scope cl C X.env) fp) ifs1 (tDT X.K X.mg W0 tt1))
    (he : ∀ (s : Shared) (H : Hp) (C : Addr) (cl : List (Str × Addr)) (fp : List Addr), PE (X.blk s H scope (compEnvC scope cl C X.env) fp) elt (tD X.K X.mg W0 te)) (hs : ∀ x, foldedSetIterable iter X.env x = pure x := by intro _; rfl) (hs1 : ∀ env x, foldedSetIterable iter1 env x = pure x := by intro _ _; rfl) :
    PE X (.ListComp elt [⟨tg, iter, ifs, 0⟩, ⟨tg1, iter1, ifs1, 0⟩] scope pos) (tD X.K X.mg Wx (mLc2 mi (own.map (·.2)) gm tt mi1 vs1 gm1 tt1 te)) := pe_imp (pe_lc2 hc hN hi ok hv hg ht hi1 hg1 ht1 he hs hs1) (tLc2_of hsl hsl1)
theorem js_setLc2 {i : Nat} {y : Str} {py spos : Pos} (hsl : ∀ i ∈ sl, i ∈ own.map (·.2)) (hsl1 : ∀ i ∈ sl1, i ∈ vs1) (hv : ∀ i ∈ vs1, i ∈ own.map (·.2)) (hc : X.calm = true) (hN : X.N.Nodup) (hy : X.N[i]? = some y) (hyl : X.env.scope.names.lookup y = some .local)
    (hsw : swapsWith (.ListComp elt [⟨tg, iter, ifs, 0⟩, ⟨tg1, iter1, ifs1, 0⟩] scope pos) (some (.Name y py)) spos.line X.env = pure true) (hi : PI X tg iter (iD X.K X.mg Wx mi)) (ok : BlkOk X.N X.env.scope scope own)
    (hg : ∀ (s : Shared) (H : Hp) (C : Addr) (cl : List (Str × Addr)) (fp : List Addr), PG (X.blk s H scope (compEnvC scope cl C X.env) fp) tg (gD X.K X.mg sl gm)) (ht : ∀ (s : Shared) (H : Hp) (C : Addr) (cl : List (Str × Addr)) (fp : List Addr), PTs (X.blk s H scope (compEnvC scope cl C X.env) fp) ifs (tDT X.K X.mg W0 tt))
    (hi1 : ∀ (s : Shared) (H : Hp) (C : Addr) (cl : List (Str × Addr)) (fp : List Addr), PI (X.blk s H scope (compEnvC scope cl C X.env) fp) tg1 iter1 (iD X.K X.mg W0 mi1))
    (hg1 : ∀ (s : Shared) (H : Hp) (C : Addr) (cl : List (Str × Addr)) (fp : List Addr), PG (X.blk s H scope (compEnvC scope cl C X.env) fp) tg1 (gD X.K X.mg sl1 gm1)) (ht1 : ∀ (s : Shared) (H : Hp) (C : Addr) (cl : List (Str × Addr)) (fp : List Addr), PTs (X.blk s H scope (compEnvC scope cl C X.env) fp) ifs1 (tDT X.K X.mg W0 tt1))
    (he : ∀ (s : Shared) (H : Hp) (C : Addr) (cl : List (Str × Addr)) (fp : List Addr), PE (X.blk s H scope (compEnvC scope cl C X.env) fp) elt (tD X.K X.mg W0 te)) (hs : ∀ x, foldedSetIterable iter X.env x = pure x := by intro _; rfl) (hs1 : ∀ env x, foldedSetIterable iter1 env x = pure x := by intro _ _; rfl) :
    PS X (.Assign [.Name y py] (.ListComp elt [⟨tg, iter, ifs, 0⟩, ⟨tg1, iter1, ifs1, 0⟩] scope pos) spos) (tDS X.K X.mg Wx (sSet i (mLc2 mi (own.map (·.2)) gm tt mi1 vs1 gm1 tt1 te))) :=
  ps_imp (ps_setLc2 hc hN hy hyl hsw hi ok hv hg ht hi1 hg1 ht1 he hs hs1) fun E g H h => by
    obtain ⟨T, r, S, rs, sim, h⟩ := h
    refine tLc2_of hsl hsl1 g H _ ⟨T, r, S, rs, sim, ZOut.bind h rs fun d S1 T1 H1 v st sim1 rel rs1 h1 => ?_⟩
    exact h1.nx sim1 (rs1.set rel)
end
end Dv
namespace Dv
open PySem L2
def keyD : Key → D
  | .inl i => .int i
  | .inr x => .str x
def keyOf : D → Option Key
  | .int i => some (.inl i)
  | .str x => some (.inr x)
  | _ => none
@[simp] theorem keyOf_int (i : Int) : keyOf (.int i) = some (.inl i) := rfl
@[simp] theorem keyOf_str (x : Str) : keyOf (.str x) = some (.inr x) := rfl
def valKD (kds : List (Key × D)) (k : Key) : Option D := (kds.find? fun kv => decide (kv.1 = k)).map (·.2)
def putKD (kds : List (Key × D)) (k : Key) (d : D) : List (Key × D) :=
  if (kds.any fun kv => decide (kv.1 = k)) = true then kds.map fun kv => if kv.1 = k then (kv.1, d) else kv else kds ++ [(k, d)]
section
variable {K : PySem.W.Frag} {mg : Str → Option Value} {T : Tb} {H : Hp} {S : Store}
theorem key_rep {v : V} {d : D} {k : Key} (h : Rep K T H v d) (e : keyOf d = some k) : v = kV k := by
  cases h <;> cases e <;> rfl
theorem rep_key (k : Key) : Rep K T H (kV k) (keyD k) := by
  cases k with
  | inl i => exact .int i
  | inr x => exact .str x
def RepK (K : PySem.W.Frag) (T : Tb) (H : Hp) (kvs : List (Key × V)) (kds : List (Key × D)) : Prop := kvs.map (·.1) = kds.map (·.1) ∧ RepL K T H (kvs.map (·.2)) (kds.map (·.2))
theorem RepK.nil : RepK K T H [] [] := ⟨rfl, .nil⟩
theorem RepK.uncons {kvs : List (Key × V)} {k : Key} {d : D} {kds : List (Key × D)} (h : RepK K T H kvs ((k, d) :: kds)) : ∃ v r, kvs = (k, v) :: r ∧ Rep K T H v d ∧ RepK K T H r kds := by
  obtain ⟨h1, h2⟩ := h
  cases kvs with
  | nil => cases h1
  | cons p r =>
    obtain ⟨k', v⟩ := p
    rw [List.map_cons, List.map_cons, List.cons.injEq] at h1
    obtain ⟨rfl, h1⟩ := h1
    cases h2 with
    | cons a b => exact ⟨v, r, rfl, a, h1, b⟩
theorem RepK.cons {kvs : List (Key × V)} {k : Key} {v : V} {d : D} {kds : List (Key × D)} (a : Rep K T H v d) (h : RepK K T H kvs kds) : RepK K T H ((k, v) :: kvs) ((k, d) :: kds) := ⟨by rw [List.map_cons, List.map_cons, h.1], .cons a h.2⟩
theorem RepK.kp {T' : Tb} {H' : Hp} {kvs : List (Key × V)} {kds : List (Key × D)} (s : Kp T H T' H') (h : RepK K T H kvs kds) : RepK K T' H' kvs kds := ⟨h.1, h.2.kp s⟩
theorem RepK.step {T' : Tb} {H' : Hp} {kvs : List (Key × V)} {kds : List (Key × D)} (s : Step T H T' H') (h : RepK K T H kvs kds) : RepK K T' H' kvs kds := h.kp s.kp
theorem RepK.length {kvs : List (Key × V)} {kds : List (Key × D)} (h : RepK K T H kvs kds) : kvs.length = kds.length := by
  have := congrArg List.length h.1
  simpa using this
theorem RepK.val (k : Key) : ∀ {kds : List (Key × D)} {kvs : List (Key × V)}, RepK K T H kvs kds → (valV kvs k = none ∧ valKD kds k = none) ∨ ∃ v d, valV kvs k = some v ∧ valKD kds k = some d ∧ Rep K T H v d
  | [], kvs, h => by
    have : kvs = [] := List.eq_nil_of_length_eq_zero (by rw [h.length]; rfl)
    subst this
    exact .inl ⟨rfl, rfl⟩
  | (k', d) :: kds, kvs, h => by
    obtain ⟨v, r, rfl, a, b⟩ := h.uncons
    by_cases e : k' = k
    · refine .inr ⟨v, d, valV_pos e, ?_, a⟩
      unfold valKD
      simp [List.find?_cons, e]
    · have e2 : valKD ((k', d) :: kds) k = valKD kds k := by
        unfold valKD
        simp [List.find?_cons, e]
      rw [valV_neg (p := (k', v)) e, e2]
      exact b.val k
theorem RepK.any (k : Key) : ∀ {kds : List (Key × D)} {kvs : List (Key × V)}, RepK K T H kvs kds → (kvs.any fun kv => decide (kv.1 = k)) = kds.any fun kv => decide (kv.1 = k)
  | [], kvs, h => by
    have : kvs = [] := List.eq_nil_of_length_eq_zero (by rw [h.length]; rfl)
    subst this
    rfl
  | (k', d) :: kds, kvs, h => by
    obtain ⟨v, r, rfl, a, b⟩ := h.uncons
    rw [List.any_cons, List.any_cons, b.any k]
theorem RepK.repl {v : V} {d : D} (rv : Rep K T H v d) (k : Key) : ∀ {kds : List (Key × D)} {kvs : List (Key × V)}, RepK K T H kvs kds → RepK K T H (kvs.map fun kv => if kv.1 = k then (kv.1, v) else kv) (kds.map fun kv => if kv.1 = k then (kv.1, d) else kv)
  | [], kvs, h => by
    have : kvs = [] := List.eq_nil_of_length_eq_zero (by rw [h.length]; rfl)
    subst this
    exact .nil
  | (k', d') :: kds, kvs, h => by
    obtain ⟨v', r, rfl, a, b⟩ := h.uncons
    rw [List.map_cons, List.map_cons]
    by_cases e : k' = k
    · simp only [e, if_true]
      exact .cons rv (b.repl rv k)
    · simp only [e, if_false]
      exact .cons a (b.repl rv k)
theorem RepK.snoc {v : V} {d : D} {k : Key} {kds : List (Key × D)} {kvs : List (Key × V)} (h : RepK K T H kvs kds) (rv : Rep K T H v d) : RepK K T H (kvs ++ [(k, v)]) (kds ++ [(k, d)]) := ⟨by rw [List.map_append, List.map_append, h.1]; rfl, by
  rw [List.map_append, List.map_append]
  exact RepL.append h.2 (.cons rv .nil)⟩
theorem RepK.put {v : V} {d : D} {kds : List (Key × D)} {kvs : List (Key × V)} (h : RepK K T H kvs kds) (k : Key) (rv : Rep K T H v d) : RepK K T H (putK kvs k v) (putKD kds k d) := by
  unfold putK putKD
  rw [h.any k]
  split
  · exact h.repl rv k
  · exact h.snoc rv
def dctAt (d : D) (S : Store) : Option (List (Key × D)) := match d with
  | .dct kds => some kds
  | .loc n => match S[n]? with
    | some (.dct kds) => some kds
    | _ => none
  | _ => none
@[simp] theorem dctAt_dct (kds : List (Key × D)) (S : Store) : dctAt (.dct kds) S = some kds := rfl
@[simp] theorem dctAt_loc (n : Nat) (S : Store) : dctAt (.loc n) S = (match S[n]? with
    | some (.dct kds) => some kds
    | _ => none) := rfl
theorem dctAt_rep {v : V} {d : D} {kds : List (Key × D)} (sim : Sim K mg T S H) (r : Rep K T H v d) (e : dctAt d S = some kds) : ∃ a kvs, v = .ref a ∧ Rd H a (.dK kvs) ∧ RepK K T H kvs kds := by
  cases r with
  | dct h n e' r' =>
    cases e
    exact ⟨_, _, rfl, h, e', r'⟩
  | @loc a n h =>
    simp only [dctAt] at e
    split at e
    · rename_i ys hs
      cases e
      obtain ⟨kvs, h1, h2, h3⟩ := sim.obj n a _ h hs
      exact ⟨a, kvs, rfl, .inl h1, h2, h3⟩
    · cases e
  | _ => cases e
end
def dgetD (a b : D) (S : Store) : Option D := match dctAt a S, keyOf b with
  | some kds, some k => valKD kds k
  | _, _ => none
section
variable {X : Cx} {Wx : WX} {o i e f : Expr} {pos apos cpos : Pos} {mo mi mx : EM}
theorem j_dget (hu : X.A.units + 64 < cLine) (hs : NoSl i) (ho : PE X o (tD X.K X.mg Wx mo)) (hi : PE X i (tD X.K X.mg Wx mi)) : PE X (.Subscript o i pos) (tD X.K X.mg Wx (mBin dgetD mo mi)) := by
  refine pe_imp (pe_dget (by omega) ho hi hs) fun g H Q h => ?_
  obtain ⟨T, r, S, rs, sim, h⟩ := h
  refine ⟨T, r, S, rs, sim, Out.bind h fun x S1 T1 H1 v st sim1 rel h1 => ?_⟩
  refine ⟨T1, r, S1, rs.step st, sim1, Out.bind h1 fun y S2 T2 H2 w st2 sim2 rel2 h2 => ?_⟩
  refine Out.use h2 fun d e k => ?_
  unfold dgetD at e
  split at e
  · rename_i kds key e1 e2
    obtain ⟨a, kvs, rfl, hr, rk⟩ := dctAt_rep sim2 (rel.step st2) e1
    have ew := key_rep rel2 e2
    subst ew
    rcases rk.val key with ⟨_, z⟩ | ⟨v', d', z1, z2, z3⟩
    · rw [z] at e
      cases e
    · rw [z2] at e
      cases e
      exact ⟨a, v', rfl, .inl ⟨kvs, key, hr, rfl, z1.symm⟩, k T2 H2 v' (Step.refl T2 H2) sim2 z3⟩
  · cases e
def mNewD0 : EM := fun _ S => .ok (.loc S.length) (S ++ [.dct []])
theorem j_newD0 : PE X (.Dict [] [] pos) (tD X.K X.mg Wx mNewD0) := by
  refine pe_imp pe_dnewK fun g H Q h => ?_
  obtain ⟨T, r, S, rs, sim, h⟩ := h
  intro p hp
  have st : Step T H (T.add p) (upd H p (.dK [])) := sim.stepAlloc hp
  have hl : HLen (upd H p (.dK [])) := hlen_oth sim.hl fun xs => ⟨(by intro z; cases z), (by intro z; cases z), (by intro x z; cases z), (by intro x z; cases z)⟩
  exact h (T.add p) _ _ st (sim.alloc hp hl ⟨[], upd_same, rfl, .nil⟩) (.loc sim.newGet)
def mDct0 : EM := fun _ S => .ok (.dct []) S
theorem j_dct0 : PE X (.Dict [] [] pos) (tD X.K X.mg Wx mDct0) := by
  refine pe_imp pe_dnewK fun g H Q h => ?_
  obtain ⟨T, r, S, rs, sim, h⟩ := h
  intro p hp
  have st : Step T H T (upd H p (.dK [])) := sim.stepNew hp
  have hl : HLen (upd H p (.dK [])) := hlen_oth sim.hl fun xs => ⟨(by intro z; cases z), (by intro z; cases z), (by intro x z; cases z), (by intro x z; cases z)⟩
  exact h T _ _ st (sim.new hp hl) (.dct (.inl upd_same) (sim.off hp) rfl .nil)
end
end Dv
namespace Dv
open PySem L2
def dcL (gm : D → Env → Option Env) (tt : BM) (tk tv : EM) (r0 : Env) : List D → List (Key × D) → Store → R (List (Key × D))
  | [], acc, S => .ok acc S
  | d :: ds, acc, S => match gm d r0 with
    | none => .bad
    | some r1 => (nox (tt r1 S)).bind fun b S1 => if b = true then (nox (tk r1 S1)).bind fun k S2 => (nox (tv r1 S2)).bind fun v S3 => match keyOf k with
        | some key => if acc.length < 90000 then dcL gm tt tk tv r0 ds (putKD acc key v) S3 else .bad
        | none => .bad
      else dcL gm tt tk tv r0 ds acc S1
def dFin (nw : Bool) (kds : List (Key × D)) (S : Store) : R D := match nw with
  | true => .ok (.loc S.length) (S ++ [.dct kds])
  | false => .ok (.dct kds) S
@[simp] theorem dFin_t (kds : List (Key × D)) (S : Store) : dFin true kds S = .ok (.loc S.length) (S ++ [.dct kds]) := rfl
@[simp] theorem dFin_f (kds : List (Key × D)) (S : Store) : dFin false kds S = .ok (.dct kds) S := rfl
def mDc (nw : Bool) (mi : IM) (vs : List Nat) (gm : D → Env → Option Env) (tt : BM) (tk tv : EM) : EM := fun r S => (mi r S).bind fun ds S1 => (dcL gm tt tk tv (wipeE r vs) ds [] S1).bind fun kds S2 => dFin nw kds S2
def itemsOf (kds : List (Key × D)) : List D := kds.map fun kv => .tup [keyD kv.1, kv.2]
def mItems (i : Nat) : IM := fun r S => match r[i]? with
  | some (some (.dct kds)) => if kds.length ≤ 90000 then .ok (itemsOf kds) S else .bad
  | _ => .bad
@[simp] theorem mDc_ap {nw : Bool} {mi : IM} {vs : List Nat} {gm : D → Env → Option Env} {tt : BM} {tk tv : EM} {r : Env} {S : Store} : mDc nw mi vs gm tt tk tv r S = (mi r S).bind fun ds S1 => (dcL gm tt tk tv (wipeE r vs) ds [] S1).bind fun kds S2 => dFin nw kds S2 := rfl
theorem dcL_cons {gm : D → Env → Option Env} {tt : BM} {tk tv : EM} {r0 : Env} (d : D) (ds : List D) (acc : List (Key × D)) (S : Store) : dcL gm tt tk tv r0 (d :: ds) acc S = (match gm d r0 with
    | none => .bad
    | some r1 => (nox (tt r1 S)).bind fun b S1 => if b = true then (nox (tk r1 S1)).bind fun k S2 => (nox (tv r1 S2)).bind fun v S3 => match keyOf k with
        | some key => if acc.length < 90000 then dcL gm tt tk tv r0 ds (putKD acc key v) S3 else .bad
        | none => .bad
      else dcL gm tt tk tv r0 ds acc S1) := rfl
theorem nodict {H : Hp} {p : Addr} {kvs : List (Key × V)} (h : HLen H) : HLen (upd H p (.dK kvs)) := hlen_oth h fun xs => ⟨(by intro z; cases z), (by intro z; cases z), (by intro x z; cases z), (by intro x z; cases z)⟩
section
variable {K : PySem.W.Frag} {mg : Str → Option Value} {T : Tb} {H : Hp}
theorem Sim.unhideNew {S : Store} {p : Addr} {l h : List Addr} {o : O} (s : Sim K mg ⟨l, p :: h⟩ S H) (ho : ORep K mg ⟨l ++ [p], h⟩ H p o) : Sim K mg ⟨l ++ [p], h⟩ (S ++ [o]) H := by
  have h0 := List.nodup_append.mp s.nd
  have pl : p ∉ l := fun z => h0.2.2 p z p List.mem_cons_self rfl
  have kp : Kp ⟨l, p :: h⟩ H ⟨l ++ [p], h⟩ H := by
    have off : ∀ b, (Tb.mk l (p :: h)).off b → (Tb.mk (l ++ [p]) h).off b := fun b n => ⟨fun z => by
      rcases List.mem_append.mp z with z | z
      · exact n.1 z
      · exact n.2 (by rw [List.mem_singleton.mp z]; exact List.mem_cons_self), fun z => n.2 (List.mem_cons_of_mem _ z)⟩
    refine ⟨fun b _ _ n q => ⟨q, off b n⟩, fun b _ n q => ⟨q, off b n⟩, fun n a q => ?_⟩
    have q : l[n]? = some a := q
    show (l ++ [p])[n]? = some a
    rw [List.getElem?_append_left (List.getElem?_eq_some_iff.mp q).1]
    exact q
  have hlen : l.length = S.length := s.len
  refine ⟨by show (l ++ [p]).length = _; rw [List.length_append, List.length_append, hlen]; rfl, ?_, fun i a o' h1 h2 => ?_, fun a ha => s.hid' a (List.mem_cons_of_mem _ ha), s.hl⟩
  · show ((l ++ [p]) ++ h).Nodup
    rw [List.append_assoc]
    exact s.nd
  · have h1 : (l ++ [p])[i]? = some a := h1
    by_cases hi : i < l.length
    · rw [List.getElem?_append_left hi] at h1
      rw [List.getElem?_append_left (by omega)] at h2
      exact (s.obj i a o' h1 h2).kp kp rfl
    · rw [List.getElem?_append_right (by omega)] at h1
      rw [List.getElem?_append_right (by omega)] at h2
      have e : i - l.length = 0 := by
        rcases Nat.eq_zero_or_pos (i - l.length) with z | z
        · exact z
        · rw [List.getElem?_eq_none (by simp; omega)] at h1
          cases h1
      rw [e] at h1
      rw [← hlen, e] at h2
      cases h1
      cases h2
      exact ho
end
section
variable {X : Cx} {Wx : WX} {kx vx tg iter : Expr} {ifs : List Expr} {scope : Scope} {own : List (Str × Nat)} {pos : Pos} {mi : IM} {sl : List Nat} {gm : D → Env → Option Env} {tt : BM} {tk tv : EM} {nw : Bool}
theorem dc_of {K : PySem.W.Frag} {mg : Str → Option Value} {vs : List Nat} (hsl : ∀ i ∈ sl, i ∈ vs) {T1 : Tb} {H1 : Hp} {S1 : Store} {g : L2.St} {r : Env} {J : It} {ds : List D} {Q : VK} (sim1 : Sim K mg T1 S1 H1) (rs1 : RepSt K T1 H1 r g) (wk : Walks K mg T1 H1 J ds)
    (h1 : Out K mg Wx (Rep K) T1 g H1 ((dcL gm tt tk tv (wipeE r vs) ds [] S1).bind fun kds S2 => dFin nw kds S2) Q) :
    ∀ Dl, H1 Dl = none → ∃ W : Nat → Nat → Hp → Prop, (∃ m, W 0 m (upd H1 Dl (.dK []))) ∧ ∀ i m H, W i m H →
      (J.stop i H ∧ Q (.ref Dl) H) ∨ (J.go i H ∧ ∃ Nx : Hp → Prop, (∀ H', Nx H' → ∃ m', m' < m ∧ W (i + 1) m' H') ∧ ∀ x H', J.yld i H x H' → gD K mg sl gm x (wipe g vs) H' fun σ2 H2 => wipe σ2 vs = wipe g vs ∧ tDT K mg W0 tt σ2 H2 fun b H3 =>
        if b = true then tD K mg W0 tk σ2 H3 fun y H4 => tD K mg W0 tv σ2 H4 fun z H5 => ∃ kvs k, y = kV k ∧ H5 Dl = some (.dK kvs) ∧ kvs.length < sizeLine ∧ Nx (upd H5 Dl (.dK (putK kvs k z))) else Nx H3) := by
  intro Dl hD
  obtain ⟨kp0, simh⟩ := sim1.hide (u := .dK []) hD (nodict sim1.hl)
  have opn : ∀ {Ta Tb : Tb} {Ha Hb : Hp}, Ta.hid = Dl :: T1.hid → Step T1 H1 ⟨Ta.loc, T1.hid⟩ Ha → Step Ta Ha Tb Hb → Tb.hid = Dl :: T1.hid ∧ Step T1 H1 ⟨Tb.loc, T1.hid⟩ Hb := fun {Ta Tb Ha Hb} e1 s1 s2 => by
    refine ⟨s2.hid.trans e1, s1.trans ⟨s2.ext, rfl, fun b hb => s2.hkeep b (by rw [e1]; exact List.mem_cons_of_mem _ hb), fun b u n q => ?_, s2.new⟩⟩
    by_cases hb : b = Dl
    · subst hb
      rw [s2.hkeep b (by rw [e1]; exact List.mem_cons_self)]
      exact q
    · exact s2.keep b u ⟨n.1, fun z => by
        rw [e1] at z
        exact (List.mem_cons.mp z).elim hb n.2⟩ q
  refine ⟨fun i m H => ∃ T S acc ys, m = ds.length - i ∧ i ≤ ds.length ∧ T.hid = Dl :: T1.hid ∧ Step T1 H1 ⟨T.loc, T1.hid⟩ H ∧ Sim K mg T S H ∧ H Dl = some (.dK acc) ∧ RepK K T H acc ys ∧
    Out K mg Wx (Rep K) T1 g H1 ((dcL gm tt tk tv (wipeE r vs) (ds.drop i) ys S).bind fun kds S2 => dFin nw kds S2) Q, ⟨ds.length, T1.hide Dl, S1, [], [], by simp, Nat.zero_le _, rfl, sim1.stepNew hD, simh, upd_same, .nil, h1⟩, ?_⟩
  rintro i m H2 ⟨T2, S2, acc, ys, rfl, hi, eh, st2, sim2, hD2, ra, ho⟩
  have off2 : ∀ b, T1.off b → H1 b ≠ none → T2.off b := fun b n q => ⟨(st2.out q n).1, fun z => by
    rw [eh] at z
    rcases List.mem_cons.mp z with z | z
    · exact q (by rw [z]; exact hD)
    · exact n.2 z⟩
  have kf2 : Kf T1 H1 T2 H2 := ⟨⟨fun b u k n q => ⟨st2.keep b u n q, off2 b n (some_ne q)⟩, fun b u n q => ⟨st2.rd q n, off2 b n (rd_some q)⟩, fun n a q => st2.get q⟩, fun b o u n q => ⟨st2.keep b _ n q, off2 b n (some_ne q)⟩⟩
  obtain ⟨stop, go⟩ := wk T2 S2 H2 kf2 sim2
  by_cases hlt : i < ds.length
  · have ed : ds.drop i = ds[i] :: ds.drop (i + 1) := List.drop_eq_getElem_cons hlt
    rw [ed, dcL_cons] at ho
    obtain ⟨g1, yl⟩ := go i ds[i] (List.getElem?_eq_getElem hlt)
    refine .inr ⟨g1, fun H => ∃ T S acc ys, T.hid = Dl :: T1.hid ∧ Step T1 H1 ⟨T.loc, T1.hid⟩ H ∧ Sim K mg T S H ∧ H Dl = some (.dK acc) ∧ RepK K T H acc ys ∧
      Out K mg Wx (Rep K) T1 g H1 ((dcL gm tt tk tv (wipeE r vs) (ds.drop (i + 1)) ys S).bind fun kds S2 => dFin nw kds S2) Q, fun H3 q => ?_, fun x H3 y => ?_⟩
    · obtain ⟨T3, S3, acc3, ys3, q1, q2, q3, q4, q5, q7⟩ := q
      exact ⟨ds.length - (i + 1), by omega, T3, S3, acc3, ys3, rfl, hlt, q1, q2, q3, q4, q5, q7⟩
    · obtain ⟨st3, sim3, rep3⟩ := yl x H3 y
      obtain ⟨eh3, op3⟩ := opn eh st2 st3
      have hid3 : Dl ∈ T2.hid := by rw [eh]; exact List.mem_cons_self
      split at ho
      · exact ho.elim
      · rename_i r1 eg
        refine ⟨T2, wipeE r vs, S2, ds[i], r1, ((rs1.wipe vs).kp kf2.toKp).step st3, sim3, rep3, eg, fun g4 rs4 lg kg => ⟨wipe_same hsl (by rw [lg, wipe_length]) kg, T2, r1, S2, rs4, sim3, ?_⟩⟩
        rw [R.bind_assoc] at ho
        refine lc_bind ho fun b S4 T4 H4 v st4 sim4 rel4 ho4 => ?_
        subst rel4
        obtain ⟨eh4, op4⟩ := opn eh3 op3 st4
        have hid4 : Dl ∈ T4.hid := by rw [eh4]; exact List.mem_cons_self
        have hD4 : H4 Dl = some (.dK acc) := (st4.hkeep Dl hid3).trans ((st3.hkeep Dl hid3).trans hD2)
        cases v with
        | false =>
          rw [if_neg Bool.false_ne_true] at ho4 ⊢
          exact ⟨T4, S4, acc, ys, eh4, op4, sim4, hD4, ra.step (st3.trans st4), ho4⟩
        | true =>
          rw [if_pos rfl, R.bind_assoc] at ho4
          rw [if_pos rfl]
          refine ⟨T4, r1, S4, rs4.step st4, sim4, lc_bind ho4 fun kd S5 T5 H5 kv st5 sim5 rel5 ho5 => ?_⟩
          obtain ⟨eh5, op5⟩ := opn eh4 op4 st5
          have hid5 : Dl ∈ T5.hid := by rw [eh5]; exact List.mem_cons_self
          rw [R.bind_assoc] at ho5
          refine ⟨T5, r1, S5, (rs4.step st4).step st5, sim5, lc_bind ho5 fun vd S6 T6 H6 vv st6 sim6 rel6 ho6 => ?_⟩
          obtain ⟨eh6, op6⟩ := opn eh5 op5 st6
          have hid6 : Dl ∈ T6.hid := by rw [eh6]; exact List.mem_cons_self
          split at ho6
          · rename_i key ek
            split at ho6
            · rename_i hlt6
              have ekv := key_rep (rel5.step st6) ek
              subst ekv
              have ra6 : RepK K T6 H6 acc ys := ra.step (((st3.trans st4).trans st5).trans st6)
              have hal : acc.length + 1 ≤ sizeLine := by rw [ra6.length]; exact sz5 (by omega)
              obtain ⟨kp7, sim7⟩ := sim6.setHid (u := .dK (putK acc key vv)) hid6 (nodict sim6.hl)
              refine ⟨acc, key, rfl, (st6.hkeep Dl hid5).trans ((st5.hkeep Dl hid4).trans hD4), hal, T6, S6, putK acc key vv, putKD ys key vd, eh6, ⟨op6.ext, rfl, fun b hb => ?_, fun b u n q => ?_, op6.new⟩, sim7, upd_same, (ra6.put key rel6).kp kp7.toKp, ho6⟩
              · rw [upd_ne fun e => sim1.hid b hb (by rw [e]; exact hD)]
                exact op6.hkeep b hb
              · rw [upd_ne (ne_of_none q hD)]
                exact op6.keep b u n q
            · exact ho6.elim
          · exact ho6.elim
  · have e : i = ds.length := by omega
    subst e
    rw [List.drop_length] at ho
    have ho : Out K mg Wx (Rep K) T1 g H1 (dFin nw ys S2) Q := ho
    have pl : Dl ∉ T2.loc := fun z => sim2.apart z (by rw [eh]; exact List.mem_cons_self)
    have ph : Dl ∉ T1.hid := fun z => by
      have nd := (List.nodup_append.mp sim2.nd).2.1
      rw [eh] at nd
      exact (List.nodup_cons.mp nd).1 z
    refine .inl ⟨stop, ?_⟩
    obtain ⟨l2, h2⟩ := T2
    cases eh
    cases nw with
    | false => exact ho ⟨l2, T1.hid⟩ H2 _ st2 sim2.unhide (.dct (.inl hD2) ⟨pl, ph⟩ ra.1 (ra.2.kp kp_unhide))
    | true =>
      have off : ∀ b, (Tb.mk l2 (Dl :: T1.hid)).off b → (Tb.mk (l2 ++ [Dl]) T1.hid).off b := fun b n => ⟨fun z => by
        rcases List.mem_append.mp z with z | z
        · exact n.1 z
        · exact n.2 (by rw [List.mem_singleton.mp z]; exact List.mem_cons_self), fun z => n.2 (List.mem_cons_of_mem _ z)⟩
      have kp : Kp ⟨l2, Dl :: T1.hid⟩ H2 ⟨l2 ++ [Dl], T1.hid⟩ H2 := by
        refine ⟨fun b _ _ n q => ⟨q, off b n⟩, fun b _ n q => ⟨q, off b n⟩, fun n a q => ?_⟩
        have q : l2[n]? = some a := q
        show (l2 ++ [Dl])[n]? = some a
        rw [List.getElem?_append_left (List.getElem?_eq_some_iff.mp q).1]
        exact q
      have rk := ra.kp kp
      have st3 : Step T1 H1 ⟨l2 ++ [Dl], T1.hid⟩ H2 := by
        obtain ⟨m, em⟩ := st2.ext
        refine ⟨⟨m ++ [Dl], by show l2 ++ [Dl] = _; rw [← List.append_assoc]; exact congrArg (· ++ [Dl]) em⟩, rfl, st2.hkeep, st2.keep, fun a h n => ?_⟩
        rcases List.mem_append.mp h with h | h
        · exact st2.new a h n
        · rw [List.mem_singleton.mp h]
          exact hD
      have hlen : l2.length = S2.length := sim2.len
      refine ho ⟨l2 ++ [Dl], T1.hid⟩ H2 _ st3 (sim2.unhideNew ⟨acc, hD2, rk.1, rk.2⟩) (.loc ?_)
      show (l2 ++ [Dl])[S2.length]? = some Dl
      rw [← hlen, List.getElem?_append_right (Nat.le_refl _), Nat.sub_self]
      rfl
theorem j_dc (hsl : ∀ i ∈ sl, i ∈ own.map (·.2)) (hc : X.calm = true) (hN : X.N.Nodup) (hi : PI X tg iter (iD X.K X.mg Wx mi)) (ok : BlkOk X.N X.env.scope scope own)
    (hg : ∀ (s : Shared) (H : Hp) (C : Addr) (cl : List (Str × Addr)) (fp : List Addr), PG (X.blk s H scope (compEnvC scope cl C X.env) fp) tg (gD X.K X.mg sl gm)) (ht : ∀ (s : Shared) (H : Hp) (C : Addr) (cl : List (Str × Addr)) (fp : List Addr), PTs (X.blk s H scope (compEnvC scope cl C X.env) fp) ifs (tDT X.K X.mg W0 tt))
    (hk : ∀ (s : Shared) (H : Hp) (C : Addr) (cl : List (Str × Addr)) (fp : List Addr), PE (X.blk s H scope (compEnvC scope cl C X.env) fp) kx (tD X.K X.mg W0 tk))
    (he : ∀ (s : Shared) (H : Hp) (C : Addr) (cl : List (Str × Addr)) (fp : List Addr), PE (X.blk s H scope (compEnvC scope cl C X.env) fp) vx (tD X.K X.mg W0 tv)) (hs : ∀ x, foldedSetIterable iter X.env x = pure x := by intro _; rfl) :
    PE X (.DictComp kx vx [⟨tg, iter, ifs, 0⟩] scope pos) (tD X.K X.mg Wx (mDc nw mi (own.map (·.2)) gm tt tk tv)) := pe_imp (pe_dc hc hN hi ok hg ht hk he hs) fun g H Q h => by
  obtain ⟨T, r, S, rs, sim, h⟩ := h
  refine ⟨T, r, S, rs, sim, Out.bind h fun ds S1 T1 H1 J st sim1 rel h1 => ?_⟩
  exact dc_of hsl sim1 (rs.step st) rel.1 h1
end
end Dv
namespace Dv
open PySem PySem.Spec PyProof.Rows L2
section
variable {prog : Program} {w : World} {K : Type} [DecidableEq K] {knd : KeyKind prog w K} {A : Around} {E : Value → Shared → Prop} {s : Shared}
theorem setDef_pairs {d : Addr} {kvs : List (K × Value)} {k : K} {key dv : Value} {Q : Value → Shared → Prop} (hkey : knd.is k key = true) (hm : s.heap.DictOf knd d kvs) (hsz : kvs.length ≤ sizeLine)
    (old : ∀ v, valueAt kvs k = some v → Q v { s with toks := s.toks + 1 })
    (new : valueAt kvs k = none → ∀ h', h'.DictOf knd d (stored kvs k dv) → Heap.SameBut d s.heap h' → Q dv { s with heap := h', toks := s.toks + 1 }) : wpAny (model prog w) A (dictSetDefault d key dv) Q E s := by
  have mp := hm.mapOf
  obtain ⟨o, es, ep, ho, hc, hd, hk, hp, hn⟩ := hm
  have hes : es.size ≤ sizeLine := by
    have e1 := hp.length
    have e2 : es.toList.length = es.size := by simp
    omega
  have hf : ∀ k, findBy knd.is es k = valueAt kvs k := fun k => by
    rw [← hp.find k]
    obtain ⟨l⟩ := es
    simp [findBy]
  unfold dictSetDefault
  with_reducible refine wpAny_holding ?_
  refine wpAny_bind (knd.pyHash hkey ?_)
  refine wpAny_bind (wpAny_dictFind_of (s := { s with toks := s.toks + 1 }) hkey ho hd hk ?_)
  have ix : (es.findIdx? fun e => knd.is k e.key) = kvs.findIdx? fun kv => decide (kv.1 = k) := by
    rw [← hp.findIdx k]
    obtain ⟨l⟩ := es
    simp
  cases hi : es.findIdx? fun e => knd.is k e.key with
  | some i =>
    have hfk : valueAt kvs k = (es[i]?).map (·.val) := by rw [← hf k, findBy_of_findIdx?, hi]
    refine wpAny_bind (wpAny_dictEntries (s := { s with toks := s.toks + 1 }) ho hd ?_)
    cases he : es[i]? with
    | none =>
      have hlt : i < es.size := (Array.findIdx?_eq_some_iff_findIdx_eq.mp hi).1
      rw [Array.getElem?_eq_getElem hlt] at he
      cases he
    | some e =>
      rw [he] at hfk
      exact wpAny_bind (wpAny_rule (wpAny_pure (old e.val hfk)))
  | none =>
    have hfk : valueAt kvs k = none := by rw [← hf k, findBy_of_findIdx?, hi]
    have nk : k ∉ kvs.map (·.1) := not_mem_of_findIdx_none (ix ▸ hi)
    have na : ¬ (kvs.any fun kv => decide (kv.1 = k)) = true := by
      rw [List.any_eq_true]
      rintro ⟨kv, h1, h2⟩
      exact nk (List.mem_map.mpr ⟨kv, h1, of_decide_eq_true h2⟩)
    refine wpAny_bind (wpAny_rule (wpAny_bind (wpAny_updateDictKeys (hz := hes) (s := { s with toks := s.toks + 1 }) ho hd (wpAny_pure (new hfk _ ⟨_, _, ep + 1, Heap.get?_update_self _ ho (Obj.isFreed_of_dict (Obj.data_mapDictKeys hd _)), hc.mapDictKeys _, Obj.data_mapDictKeys hd _, hk.push hkey _, ?_, ?_⟩ (Heap.SameBut.update ..))))))
    · rw [stored, if_neg na]
      have q := hp.append hkey (knd.hash k) dv
      obtain ⟨l⟩ := es
      simpa using q
    · rw [stored, if_neg na, List.map_append, List.nodup_append]
      refine ⟨hn, by simp, fun a ha b hb => ?_⟩
      simp only [List.map_cons, List.map_nil, List.mem_singleton] at hb
      subst hb
      exact fun e => nk (e ▸ ha)
theorem meets_setDef {d : Addr} {kvs : List (K × Value)} {k : K} {key : Value} (hkey : knd.is k key = true) (hd : (d == sysModules) = false) (dv : Value) :
    MeetsIn prog w (Builtin.«dict.setdefault» ⟨[.ref d, key, dv], []⟩) (fun _ R s => s.heap.DictOf knd d kvs ∧ kvs.length ≤ sizeLine ∧ (∀ v, valueAt kvs k = some v → R (.ok (.ret v)) { s with toks := s.toks + 1 }) ∧
      (valueAt kvs k = none → ∀ h', h'.DictOf knd d (stored kvs k dv) → Heap.SameBut d s.heap h' → R (.ok (.ret dv)) { s with heap := h', toks := s.toks + 1 })) :=
  .of_wp fun A R s ⟨hm, hz, h1, h2⟩ => by
    unfold Builtin.«dict.setdefault»
    refine wpAny_bind ?_
    unfold Builtin.Dict.keyAndDefault
    refine wpAny_bind (wpAny_notOrdered_dict hm.mapOf.typeIs ?_)
    show wpAny _ _ (pure (d, key, some dv)) _ _ s
    refine wpAny_pure ?_
    show wpAny _ _ (if (d == sysModules) = true then _ else (dictSetDefault d key dv >>= _)) _ _ s
    rw [if_neg (by rw [hd]; exact Bool.false_ne_true)]
    exact wpAny_bind (setDef_pairs hkey hm hz (fun v hv => wpAny_pure ⟨v, rfl, h1 v hv⟩) fun hn h' hm' hs' => wpAny_pure ⟨dv, rfl, h2 hn h' hm' hs'⟩)
end
def tDSetD (td ty tx : TE) : TE := fun σ H Q => td σ H fun x H1 => ∃ a, x = .ref a ∧ IsD H1 a ∧ ty σ H1 fun y H2 => tx σ H2 fun z H3 => ∃ kvs k, H3 a = some (.dK kvs) ∧ y = kV k ∧ kvs.length < sizeLine ∧
  (∀ v, valV kvs k = some v → Q v H3) ∧ (valV kvs k = none → Q z (upd H3 a (.dK (putK kvs k z))))
section
variable {X : Cx} {o e f : Expr} {apos cpos : Pos} {td ty tx : TE}
theorem pe_dsetd (ho : PE X o td) (he : PE X e ty) (hf : PE X f tx) (m : M2 X o "setdefault" apos e f cpos) : PE X (.Call (.Attribute o "setdefault" apos) [e, f] [] cpos) (tDSetD td ty tx) := by
  refine ⟨fun pins s σ H Q I h => ?_⟩
  refine wpAny_Call_method m.base m.few m.line PySem.F.plainAttrs_dict PySem.F.slot_dict_setdefault PySem.F.type_dict_setdefault (thn (ho.run pins s σ H _ I h) fun u s1 ⟨x, H1, I1, rx, a, ex, d, q1⟩ => ?_)
  subst ex
  obtain rfl : u = Value.ref a := rx
  obtain ⟨t1, t2, hds⟩ := isD_at I1 d
  refine ⟨t1, t2, ?_⟩
  rw [m.trees]
  refine Calls.callWith_builtin rfl (Calls.evalArgs_plain (Calls.spliced_cons (thn (he.run pins s1 σ H1 _ I1 q1) fun iv s2 ⟨y, H2, I2, ry, q2⟩ =>
    Calls.spliced_cons (thn (hf.run pins s2 σ H2 _ I2 q2) fun fv s3 ⟨z, H3, I3, rz, kvs, k, ea, ey, hlt, q3, q4⟩ => Calls.spliced_nil ?_))))
  subst ey
  obtain ⟨zz, hd, vs, rel, dd⟩ := dk_of I3.hok ea
  have hz : vs.length ≤ sizeLine := by rw [← rel.length]; exact zz
  refine call_meetsIn PySem.F.slot_dict_setdefault dd.typeIs PySem.F.entry_dict_setdefault (PySem.F.args_dict_setdefault_3 _ _ _) (meets_setDef (knd := mixKind X.prog X.w) (kvs := vs) (kV_is ry) hd fv) ⟨dd, hz, fun v hv => ?_, fun hn h' dd' hs => ?_⟩
  · have r := rel.val k
    rw [hv] at r
    cases ev : valV kvs k with
    | none =>
      rw [ev] at r
      exact (show False from r).elim
    | some v0 =>
      rw [ev] at r
      exact ⟨v0, H3, I3.tok _, r, q3 v0 ev⟩
  · have r := rel.val k
    rw [hn] at r
    cases ev : valV kvs k with
    | some v0 =>
      rw [ev] at r
      exact (show False from r).elim
    | none =>
      have hl : (putK kvs k z).length ≤ sizeLine := by have := length_putK kvs k z; omega
      have he : ∃ q, h'.get? a = some q := let ⟨q, _, _, hq, _⟩ := dd'; ⟨q, hq⟩
      exact ⟨z, _, d_write I3 (by rw [ea]; exact True.intro) hs he (dk_new hl hd (rel.put k rz) dd'), rz, q4 ev⟩
end
section
variable {X : Cx} {Wx : WX} {o i e f : Expr} {pos apos cpos : Pos} {mo mi mx : EM}
def mSetDef (mo mi mx : EM) : EM := fun r S => (mo r S).bind fun o S1 => match o with
  | .loc n => if (dctAt (.loc n) S1).isSome = true then (mi r S1).bind fun y S2 => (mx r S2).bind fun z S3 => match S3[n]?, keyOf y with
    | some (.dct kds), some k => if kds.length < 90000 then (match valKD kds k with
      | some d => .ok d S3
      | none => .ok z (List.set S3 n (.dct (putKD kds k z)))) else .bad
    | _, _ => .bad else .bad
  | _ => .bad
theorem j_setdef (ho : PE X o (tD X.K X.mg Wx mo)) (he : PE X e (tD X.K X.mg Wx mi)) (hf : PE X f (tD X.K X.mg Wx mx)) (m : M2 X o "setdefault" apos e f cpos) : PE X (.Call (.Attribute o "setdefault" apos) [e, f] [] cpos) (tD X.K X.mg Wx (mSetDef mo mi mx)) := by
  refine pe_imp (pe_dsetd ho he hf m) fun g H Q h => ?_
  obtain ⟨T, r, S, rs, sim, h⟩ := h
  refine ⟨T, r, S, rs, sim, Out.bind h fun x S1 T1 H1 v st sim1 rel h1 => ?_⟩
  split at h1
  · rename_i n
    by_cases hd : (dctAt (.loc n) S1).isSome = true
    · rw [if_pos hd] at h1
      obtain ⟨kds0, e0⟩ := Option.isSome_iff_exists.mp hd
      obtain ⟨a, kvs0, rfl, hr0, _⟩ := dctAt_rep sim1 rel e0
      refine ⟨a, rfl, .inl ⟨kvs0, hr0⟩, T1, r, S1, rs.step st, sim1, Out.bind h1 fun y S2 T2 H2 w st2 sim2 rel2 h2 => ?_⟩
      refine ⟨T2, r, S2, (rs.step st).step st2, sim2, Out.bind h2 fun z S3 T3 H3 u st3 sim3 rel3 h3 => ?_⟩
      split at h3
      · rename_i kds key e1 e2
        split at h3
        · rename_i hlt
          cases (rel.step st2).step st3 with
          | loc hn =>
            obtain ⟨kvs, q1, q2, q3⟩ := sim3.obj n a _ hn e1
            have rk : RepK X.K T3 H3 kvs kds := ⟨q2, q3⟩
            have ew := key_rep rel2 e2
            subst ew
            have hz : kvs.length + 1 ≤ sizeLine := by rw [rk.length]; exact sz5 (by omega)
            refine ⟨kvs, key, q1, rfl, hz, fun v' ev => ?_, fun ev => ?_⟩
            · rcases rk.val key with ⟨z1, _⟩ | ⟨v2, d2, z1, z2, z3⟩
              · rw [z1] at ev
                cases ev
              · rw [z1] at ev
                cases ev
                rw [z2] at h3
                exact h3 T3 H3 _ (Step.refl T3 H3) sim3 z3
            · rcases rk.val key with ⟨_, z2⟩ | ⟨v2, d2, z1, z2, z3⟩
              · rw [z2] at h3
                have hmem : a ∈ T3.loc := List.mem_of_getElem? hn
                have st4 : Step T3 H3 T3 (upd H3 a (.dK (putK kvs key u))) := sim3.stepSet hmem
                have hl : HLen (upd H3 a (.dK (putK kvs key u))) := hlen_oth sim3.hl fun xs => ⟨(by intro z; cases z), (by intro z; cases z), (by intro x z; cases z), (by intro x z; cases z)⟩
                have rk4 := (rk.put key rel3).step st4
                exact h3 T3 _ _ st4 (sim3.set hn hl ⟨_, upd_same, rk4.1, rk4.2⟩) (rel3.step st4)
              · rw [z1] at ev
                cases ev
        · exact h3.elim
      · exact h3.elim
    · rw [if_neg hd] at h1
      exact h1.elim
  · exact h1.elim
end
end Dv
namespace Dv
open PySem L2
section
variable {K : PySem.W.Frag} {mg : Str → Option Value} {T : Tb} {H : Hp} {S : Store}
theorem walks_items {a : Addr} {o : Obj} {kvs : List (Key × V)} {kds : List (Key × D)} (n : T.off a) (h : H a = some (.frz o (.dK kvs))) (rk : RepK K T H kvs kds) : Walks K mg T H (Iti a o kvs) (itemsOf kds) := fun T' S' H' kf sim => by
  have hq := (kf.frz a o _ n h).1
  have hlen : (itemsOf kds).length = kvs.length := by rw [itemsOf, List.length_map, rk.length]
  refine ⟨⟨hq, by rw [hlen]; exact Nat.le_refl _⟩, fun i d e => ?_⟩
  have hi : i < kvs.length := by rw [← hlen]; exact (List.getElem?_eq_some_iff.mp e).1
  refine ⟨⟨hq, hi⟩, fun x H2 y => ?_⟩
  obtain ⟨P, k, v, e1, rfl, hP, rfl⟩ := y
  have e2 : (kvs.map (·.1))[i]? = some k := by rw [List.getElem?_map, e1]; rfl
  have e3 : (kvs.map (·.2))[i]? = some v := by rw [List.getElem?_map, e1]; rfl
  rw [rk.1, List.getElem?_map] at e2
  obtain ⟨dd, e4, r4⟩ := rk.2.getV e3
  rw [List.getElem?_map] at e4
  unfold itemsOf at e
  rw [List.getElem?_map] at e
  cases q : kds[i]? with
  | none => rw [q] at e; cases e
  | some kd =>
    rw [q] at e e2 e4
    cases e
    cases e2
    cases e4
    have st : Step T' H' T' (upd H' P (.tup [kV kd.1, v])) := sim.stepNew hP
    refine ⟨st, sim.new hP (hlen_tup sim.hl (by rw [sizeLine_eq]; simp)), .tup upd_same (sim.off hP) (.cons (rep_key kd.1) (.cons ((r4.kp kf.toKp).step st) .nil))⟩
theorem lock_kp {a : Addr} {od : Obj} {kvs : List (Key × V)} (h : H a = some (.dK kvs)) : Kp T H T (upd H a (.frz od (.dK kvs))) := by
  refine ⟨fun b u k n q => ?_, fun b ks n q => ?_, fun _ _ q => q⟩
  · have hb : b ≠ a := fun e => by
      subst e
      rw [h] at q
      cases q
      obtain ⟨xs, z | z | ⟨o, z | z⟩ | ⟨o, z⟩⟩ := k <;> cases z
    exact ⟨by rw [upd_ne hb]; exact q, n⟩
  · by_cases hb : b = a
    · subst hb
      refine ⟨.inr ⟨od, ?_⟩, n⟩
      rw [upd_same]
      cases ks with
      | inl ks =>
        rcases q with q | ⟨o, q⟩
        · rw [h] at q
          cases q
          rfl
        · rw [h] at q
          cases q
      | inr ks =>
        rcases q with q | ⟨o, q⟩
        · rw [h] at q
          cases q
        · rw [h] at q
          cases q
    · refine ⟨?_, n⟩
      rcases q with q | ⟨o, q⟩
      · exact .inl (by rw [upd_ne hb]; exact q)
      · exact .inr ⟨o, by rw [upd_ne hb]; exact q⟩
theorem unlock_kp {a : Addr} {od : Obj} {kvs : List (Key × V)} (h : H a = some (.frz od (.dK kvs))) : Kp T H T (upd H a (.dK kvs)) := by
  refine ⟨fun b u k n q => ?_, fun b ks n q => ?_, fun _ _ q => q⟩
  · have hb : b ≠ a := fun e => by
      subst e
      rw [h] at q
      cases q
      obtain ⟨xs, z | z | ⟨o, z | z⟩ | ⟨o, z⟩⟩ := k <;> cases z
    exact ⟨by rw [upd_ne hb]; exact q, n⟩
  · by_cases hb : b = a
    · subst hb
      refine ⟨.inl ?_, n⟩
      rw [upd_same]
      cases ks with
      | inl ks =>
        rcases q with q | ⟨o, q⟩
        · rw [h] at q
          cases q
        · rw [h] at q
          cases q
          rfl
      | inr ks =>
        rcases q with q | ⟨o, q⟩
        · rw [h] at q
          cases q
        · rw [h] at q
          cases q
    · refine ⟨?_, n⟩
      rcases q with q | ⟨o, q⟩
      · exact .inl (by rw [upd_ne hb]; exact q)
      · exact .inr ⟨o, by rw [upd_ne hb]; exact q⟩
theorem Sim.swap {a : Addr} {u : HO} (s : Sim K mg T S H) (n : T.off a) (kp : Kp T H T (upd H a u)) (hl : HLen (upd H a u)) : Sim K mg T S (upd H a u) :=
  ⟨s.len, s.nd, fun i b o h1 h2 => (s.obj i b o h1 h2).kp kp (upd_ne fun e => n.1 (by rw [← e]; exact List.mem_of_getElem? h1)), fun b hb => by
    rw [upd_ne fun e => n.2 (by rw [← e]; exact hb)]
    exact s.hid' b hb, hl⟩
theorem hlen_frz {p : Addr} {od : Obj} {kvs : List (Key × V)} (h : HLen H) : HLen (upd H p (.frz od (.dK kvs))) := hlen_oth h fun xs => ⟨(by intro z; cases z), (by intro z; cases z), (by intro x z; cases z), (by intro x z; cases z)⟩
end
section
variable {X : Cx} {Wx : WX} {kx vx : Expr} {ifs : List Expr} {scope : Scope} {own : List (Str × Nat)} {pos apos cpos npos tpos : Pos} {elts : List Expr} {kk : Nat} {sl : List Nat} {gm : D → Env → Option Env} {tt : BM} {tk tv : EM} {nw : Bool} {i : Nat} {x : Str}
theorem dcItems_of (hsl : ∀ i ∈ sl, i ∈ own.map (·.2)) : ∀ g H Q, tD X.K X.mg Wx (mDc nw (mItems i) (own.map (·.2)) gm tt tk tv) g H Q →
    tLockE (tDc (iItems (tVar i)) (gD X.K X.mg sl gm) (tDT X.K X.mg W0 tt) (tD X.K X.mg W0 tk) (tD X.K X.mg W0 tv) (own.map (·.2))) g H Q ∨ tDc (iItems (tVar i)) (gD X.K X.mg sl gm) (tDT X.K X.mg W0 tt) (tD X.K X.mg W0 tk) (tD X.K X.mg W0 tv) (own.map (·.2)) g H Q := by
  intro g H Q h
  obtain ⟨T, r, S, rs, sim, h⟩ := h
  simp only [mDc, mItems] at h
  split at h
  · rename_i kds er
    split at h
    · rename_i hz
      obtain ⟨v, ev, rv⟩ := rs.2 i _ er
      cases rv with
      | @dct a kvs _ hr n e1 e2 =>
        have rk : RepK X.K T H kvs kds := ⟨e1, e2⟩
        have h : Out X.K X.mg Wx (Rep X.K) T g H ((dcL gm tt tk tv (wipeE r (own.map (·.2))) (itemsOf kds) [] S).bind fun kds S2 => dFin nw kds S2) Q := h
        rcases hr with hr | ⟨o, hr⟩
        · refine .inl ⟨a, .dK kvs, hr, True.intro, fun od => ?_⟩
          have kpL : Kp T H T (upd H a (.frz od (.dK kvs))) := lock_kp hr
          have simL := sim.swap n kpL (hlen_frz sim.hl)
          refine ⟨.ref a, ev, a, od, kvs, rfl, upd_same, ?_⟩
          refine dc_of (Wx := Wx) (nw := nw) (gm := gm) (tt := tt) (tk := tk) (tv := tv) (Q := fun v H' => H' a = some (.frz od (.dK kvs)) ∧ Q v (upd H' a (.dK kvs))) hsl simL (rs.kp kpL) (walks_items n upd_same (rk.kp kpL)) ?_
          -- what is told of the locked heap is told of the open one
          cases q : (dcL gm tt tk tv (wipeE r (own.map (·.2))) (itemsOf kds) [] S).bind fun kds S2 => dFin nw kds S2 with
          | bad => rw [q] at h; exact h.elim
          | exc nm S' =>
            exfalso
            have : noE ((dcL gm tt tk tv (wipeE r (own.map (·.2))) (itemsOf kds) [] S).bind fun kds S2 => dFin nw kds S2) := by
              refine noE_bind ?_ fun kds S2 => by cases nw <;> exact noE_ok _ _
              have nd : ∀ (ds : List D) (acc : List (Key × D)) (S : Store), noE (dcL gm tt tk tv (wipeE r (own.map (·.2))) ds acc S) := fun ds => by
                induction ds with
                | nil => exact fun acc S => noE_ok _ _
                | cons d ds ih =>
                  intro acc S
                  rw [dcL_cons]
                  split
                  · intro n S h; cases h
                  · refine noE_bind (noE_nox _) fun b S1 => ?_
                    split
                    · refine noE_bind (noE_nox _) fun k S2 => noE_bind (noE_nox _) fun v S3 => ?_
                      split
                      · split
                        · exact ih _ _
                        · intro n S h; cases h
                      · intro n S h; cases h
                    · exact ih _ _
              exact nd _ _ _
            exact this nm S' q
          | ok d S' =>
            rw [q] at h
            intro T' H' v' st' sim' rep'
            have off' : T'.off a := st'.out (by rw [upd_same]; exact fun e => by cases e) n
            have ha' : H' a = some (.frz od (.dK kvs)) := st'.keep a _ n upd_same
            have kpU : Kp T' H' T' (upd H' a (.dK kvs)) := unlock_kp ha'
            refine ⟨ha', h T' _ v' ⟨st'.ext, st'.hid, fun b hb => ?_, fun b u nb qb => ?_, fun b hb nb => ?_⟩ (sim'.swap off' kpU (nodict sim'.hl)) (rep'.kp kpU)⟩
            · have nb : b ≠ a := fun e => n.2 (by rw [← e]; exact hb)
              rw [upd_ne nb, st'.hkeep b hb, upd_ne nb]
            · by_cases e : b = a
              · subst e
                rw [upd_same, ← hr]
                exact qb
              · rw [upd_ne e]
                exact st'.keep b u nb (by rw [upd_ne e]; exact qb)
            · have := st'.new b hb nb
              by_cases e : b = a
              · subst e
                rw [upd_same] at this
                cases this
              · rw [upd_ne e] at this
                exact this
        · refine .inr ⟨.ref a, ev, a, o, kvs, rfl, hr, ?_⟩
          exact dc_of (Wx := Wx) (nw := nw) hsl sim rs (walks_items n hr rk) h
    · exact h.elim
  · exact h.elim
theorem ps_setDc {i : Nat} {y : Str} {py spos : Pos} {tg iter : Expr} {wi : TI} {g : TG} {wt : TT} {wk wv : TE} (hc : X.calm = true) (hN : X.N.Nodup) (hy : X.N[i]? = some y) (hyl : X.env.scope.names.lookup y = some .local)
    (hsw : swapsWith (.DictComp kx vx [⟨tg, iter, ifs, 0⟩] scope pos) (some (.Name y py)) spos.line X.env = pure true) (hi : PI X tg iter wi) (ok : BlkOk X.N X.env.scope scope own)
    (hg : ∀ (s : Shared) (H : Hp) (C : Addr) (cl : List (Str × Addr)) (fp : List Addr), PG (X.blk s H scope (compEnvC scope cl C X.env) fp) tg g) (ht : ∀ (s : Shared) (H : Hp) (C : Addr) (cl : List (Str × Addr)) (fp : List Addr), PTs (X.blk s H scope (compEnvC scope cl C X.env) fp) ifs wt)
    (hk : ∀ (s : Shared) (H : Hp) (C : Addr) (cl : List (Str × Addr)) (fp : List Addr), PE (X.blk s H scope (compEnvC scope cl C X.env) fp) kx wk)
    (he : ∀ (s : Shared) (H : Hp) (C : Addr) (cl : List (Str × Addr)) (fp : List Addr), PE (X.blk s H scope (compEnvC scope cl C X.env) fp) vx wv) (hs : ∀ x, foldedSetIterable iter X.env x = pure x := by intro _; rfl) :
    PS X (.Assign [.Name y py] (.DictComp kx vx [⟨tg, iter, ifs, 0⟩] scope pos) spos) (tAsg (tDc wi g wt wk wv (own.map (·.2))) (gName i)) := ⟨fun pins s st H D I h => by
  rw [exec_Assign_Name_used _ _ _ _ hsw]
  refine wpAny_bind (wpAny_standAt (wpAny_bind ?_))
  show wpAny _ X.A (do let _ ← comprehension (.DictComp kx vx [⟨tg, iter, ifs, 0⟩] scope pos) scope X.env (firstIterPos [⟨tg, iter, ifs, 0⟩] pos) newDict false (eval iter X.env) (some (assign (.Name y py) X.env))) _ _ s
  refine wpAny_bind (thn (dc_core (Qf := fun _ s' => SP X pins D .next s') hc hN I hi ok hg ht hk he hs h fun d C s' m H' I' q hn f => ?_) fun _ s' hq => wpAny_pure (wpAny_pure hq))
  show wpAny _ _ (assign (.Name y py) X.env (.ref d)) _ _ _
  refine wpAny_assign_Name (store_ok2 (v := V.ref d) I' hN hy (.inl hyl) rfl (fun s2 I2 ⟨b, sb, hb⟩ => ?_) (.inr hyl))
  obtain ⟨f0, f1, f2, f3, f4, f5⟩ := f
  have ne : C ≠ b := hb.elim (fun z => by rw [z]; exact f1) fun z e => f4 y b z e.symm
  exact ⟨m, hn.sameBut sb ne, fun h3 sb3 => ⟨_, H', I2.turned (t' := s2.toks) (fun c o hc' e => (sb3.2 c hc').trans e) f0 f1 f3 f4 f5, q⟩⟩⟩
theorem swd_true {gs : List Comprehension} {py : Pos} {y : Str} {l : Nat} {env : PySem.Env} (hk : env.scope.kind = .function) (hy : env.scope.names.lookup y = some .local) (hl : (py.line == pos.line) = true)
    (ha : (scope.names.any fun (n, k) => n == y && (k == .local || k == .cell)) = false) : swapsWith (.DictComp kx vx gs scope pos) (some (.Name y py)) l env = pure true := by
  have h1 : env.kindOf y = some .local := hy
  have h2 : env.blockKind = .function := by unfold PySem.Env.blockKind; rw [hk]; rfl
  unfold swapsWith
  simp only [h2, h1, ha, Expr.pos, hl]
  rfl
theorem ps_or {st : Stmt} {t t' : TS} (h : PS X st t) (h' : PS X st t') : PS X st (fun D g H => t D g H ∨ t' D g H) := ⟨fun pins s g H D I w => w.elim (h.run pins s g H D I) (h'.run pins s g H D I)⟩
theorem js_setDcItems {j : Nat} {y : Str} {py spos : Pos} (hsl : ∀ i ∈ sl, i ∈ own.map (·.2)) (hc : X.calm = true) (hN : X.N.Nodup) (hy : X.N[j]? = some y) (hyl : X.env.scope.names.lookup y = some .local)
    (hsw : swapsWith (.DictComp kx vx [⟨.Tuple elts kk tpos, .Call (.Attribute (.Name x npos) "items" apos) [] [] cpos, ifs, 0⟩] scope pos) (some (.Name y py)) spos.line X.env = pure true)
    (hx : X.N[i]? = some x) (hvis : Vis X.env.scope x) (ok : BlkOk X.N X.env.scope scope own)
    (hg : ∀ (s : Shared) (H : Hp) (C : Addr) (cl : List (Str × Addr)) (fp : List Addr), PG (X.blk s H scope (compEnvC scope cl C X.env) fp) (.Tuple elts kk tpos) (gD X.K X.mg sl gm)) (ht : ∀ (s : Shared) (H : Hp) (C : Addr) (cl : List (Str × Addr)) (fp : List Addr), PTs (X.blk s H scope (compEnvC scope cl C X.env) fp) ifs (tDT X.K X.mg W0 tt))
    (hk : ∀ (s : Shared) (H : Hp) (C : Addr) (cl : List (Str × Addr)) (fp : List Addr), PE (X.blk s H scope (compEnvC scope cl C X.env) fp) kx (tD X.K X.mg W0 tk))
    (he : ∀ (s : Shared) (H : Hp) (C : Addr) (cl : List (Str × Addr)) (fp : List Addr), PE (X.blk s H scope (compEnvC scope cl C X.env) fp) vx (tD X.K X.mg W0 tv))
    (hd : (x == ("__debug__" : Str)) = false := by decide) (hcd : (x == ("__classdict__" : Str)) = false := by decide)
    (hbase : attributeBase (.Name x npos) "items" X.env (eval (.Name x npos) X.env) = eval (.Name x npos) X.env := by rfl) (hline : (apos.endLine == cpos.line) = true := by rfl)
    (hs : ∀ y, foldedSetIterable (.Call (.Attribute (.Name x npos) "items" apos) [] [] cpos) X.env y = pure y := by intro _; rfl) :
    PS X (.Assign [.Name y py] (.DictComp kx vx [⟨.Tuple elts kk tpos, .Call (.Attribute (.Name x npos) "items" apos) [] [] cpos, ifs, 0⟩] scope pos) spos) (tDS X.K X.mg Wx (sSet j (mDc nw (mItems i) (own.map (·.2)) gm tt tk tv))) := by
  have raw := ps_setDc (X := X) (pos := pos) hc hN hy hyl hsw (pi_items (elts := elts) (kk := kk) (tpos := tpos) (pe_var hx hvis hd hcd) hbase hline) ok hg ht hk he hs
  refine ps_imp (ps_or (ps_lock raw) raw) fun E g H h => ?_
  obtain ⟨T, r, S, rs, sim, h⟩ := h
  refine dcItems_of (Wx := Wx) (nw := nw) hsl g H (fun x H1 => gName j x g H1 E.nx) ⟨T, r, S, rs, sim, ZOut.bind h rs fun d S1 T1 H1 v st sim1 rel rs1 h1 => ?_⟩
  exact h1.nx sim1 (rs1.set rel)
end
end Dv
namespace Dv
open PySem PySem.Spec PyProof.Rows L2
section
variable {X : Cx} {Wx : WX} {o e : Expr} {apos pos : Pos} {mo m : EM}
end
end Dv
namespace Dv
open PySem PySem.Spec PyProof.Rows L2
section
variable {X : Cx}
end
section
variable {K : PySem.W.Frag} {mg : Str → Option Value} {T : Tb} {H : Hp}
end
section
variable {X : Cx} {Wx : WX} {ms : AM} {es : List Expr} {x y : Str} {p p' pos pos' : Pos} {e : Expr}
end
end Dv
namespace Dv
open PySem L2
def flatD : D → Bool
  | .non => true
  | .bl _ => true
  | .int _ => true
  | .str _ => true
  | _ => false
def inTO (a b : D) : Option Bool := match b with
  | .tup xs => if flatD a = true ∧ xs.all flatD = true then some (xs.any fun z => eqvD z a) else none
  | b => inO a b
def ninTD (a b : D) (S : Store) : Option D := (inTO (now a S) (now b S)).map fun k => .bl (!k)
section
variable {X : Cx} {K : PySem.W.Frag} {mg : Str → Option Value} {T : Tb} {H : Hp} {S : Store}
theorem flat_eq {v v' : V} {d d' : D} (h : Rep K T H v d) (h' : Rep K T H v' d') (f : flatD d = true) (f' : flatD d' = true) : flatV v = true ∧ eqV v v' = eqvD d d' := by
  cases h <;> first | (cases f; done) | skip
  all_goals (cases h' <;> first | (cases f'; done) | skip)
  all_goals first | exact ⟨rfl, rfl⟩ | exact ⟨rfl, by simp [eqV, eqvD, pyD, PyData.eqv]⟩
theorem flat_any {v : V} {d : D} (h : Rep K T H v d) (f : flatD d = true) : ∀ {vs : List V} {ds : List D}, RepL K T H vs ds → ds.all flatD = true → vs.all flatV = true ∧ (vs.any fun y => eqV y v) = ds.any fun z => eqvD z d
  | _, _, .nil, _ => ⟨rfl, rfl⟩
  | _, _, .cons (v := u) (d := e) a b, g => by
    rw [List.all_cons, Bool.and_eq_true] at g
    obtain ⟨q1, q2⟩ := flat_eq a h g.1 f
    obtain ⟨q3, q4⟩ := flat_any h f b g.2
    exact ⟨by rw [List.all_cons, q1, q3]; rfl, by rw [List.any_cons, List.any_cons, q2, q4]⟩
def rNinT (K : PySem.W.Frag) : R2 := fun x y H Q => rNotInD K x y H Q ∨ rIn K true x y H Q
theorem op_ninT (hu : X.A.units + 65 < cLine) : OpR X (compareOp .NotIn) (rNinT X.K) := (op_notInD hu).or op_notIn_seq
theorem now_flat {d : D} (f : flatD (now d S) = true) : now d S = d := by
  cases d with
  | loc n =>
    simp only [now] at f ⊢
    split at f <;> cases f
  | _ => rfl
theorem now_tup {d : D} {xs : List D} (e : now d S = .tup xs) : d = .tup xs := by
  cases d with
  | loc n =>
    simp only [now] at e
    split at e <;> cases e
  | _ => exact e
theorem pok_ninT : POk2 K mg (rNinT K) ninTD := fun T S H x y a b d Q sim rx ry e k => by
  unfold ninTD at e
  obtain ⟨t, e1, rfl⟩ := Option.map_eq_some_iff.mp e
  unfold inTO at e1
  split at e1
  · rename_i xs eb
    split at e1
    · rename_i hf
      cases e1
      have h1 := now_tup eb
      subst h1
      have en := now_flat hf.1
      rw [en] at hf k
      cases ry with
      | tup h n r =>
        obtain ⟨q1, q2⟩ := flat_any rx hf.1 r hf.2
        have q0 : flatV x = true := (flat_eq rx rx hf.1 hf.1).1
        refine .inr ⟨_, _, rfl, .inr (SqT.of h), q0, q1, ?_⟩
        show Q (.bl (!inV x _)) H
        unfold inV
        rw [q2]
        exact k H _ (Step.refl T H) sim (.bl _)
    · cases e1
  · have e2 : ninD a b S = some (.bl (!t)) := by
      unfold ninD
      rw [e1]
      rfl
    exact .inl (pok_nin T S H x y a b (.bl (!t)) Q sim rx ry e2 k)
end
end Dv
namespace Dv
open PySem L2
end Dv
namespace Dv
open PySem PySem.Spec PyProof.Rows L2
section
variable {prog : Program} {w : World} {A : Around}
end
section
variable {X : Cx}
end
section
variable {X : Cx} {K : PySem.W.Frag} {mg : Str → Option Value} {T : Tb} {H : Hp}
end
end Dv
namespace Dv
open PySem L2
section
variable {K : PySem.W.Frag} {mg : Str → Option Value}
end
def enumL (xs : List D) : List D := (List.range xs.length).zipWith (fun i d => D.tup [.int (i : Nat), d]) xs
def enumD (ds : List D) : Option (List D) := match ds with
  | [.lst xs] => some (enumL xs)
  | _ => none
section
variable {X : Cx} {Wx : WX} {e : Expr} {ms : AM} {pos p tpos : Pos} {elts : List Expr} {kk : Nat}
end
end Dv
namespace Dv
open PySem PySem.Spec PyProof.Rows
section
variable {prog : Program} {w : World} {A : Around} {s : Shared}
end
end Dv
namespace Dv
open PySem PySem.Spec PyProof.Rows L2 LamX
def Made (H : Hp) (P c' : Addr) (q : Str) (ps : Array Value) (H1 : Hp) : Prop :=
  H1 = H ∨ ∃ ps' : Array Value, H c' = none ∧ c' ≠ P ∧ TriplesOk ps'.toList ∧ (∀ (pos : Pos) (cv : Value), codeAmong pos ps'.toList = some cv → codeAmong pos ps.toList = some cv ∨ cv = .ref c') ∧ H1 = upd (upd H P (.tbl ps')) c' (CodeO c' q)
section
variable {K : PySem.W.Frag} {mg : Str → Option Value} {T : Tb} {H H1 : Hp} {S : Store} {P c' : Addr} {x q : Str} {ps : Array Value}
theorem made_sim (sim : Sim K mg T S H) {i : Nat} (hi : T.loc[i]? = some P) (hS : S[i]? = some (.tbl x q)) (hP : H P = some (.tbl ps)) (m : Made H P c' q ps H1) : Step T H T H1 ∧ Sim K mg T S H1 := by
  rcases m with rfl | ⟨ps', hc, hne, ht, ha, rfl⟩
  · exact ⟨Step.refl _ _, sim⟩
  · have st1 := sim.stepSet (u := .tbl ps') (List.mem_of_getElem? hi)
    have hc1 : upd H P (.tbl ps') c' = none := by rw [upd_ne hne]; exact hc
    have offc : T.off c' := sim.off hc
    have new : Kp T (upd H P (.tbl ps')) T (upd (upd H P (.tbl ps')) c' (CodeO c' q)) := ⟨fun b u _ n h => ⟨by rw [upd_ne (ne_of_none h hc1)]; exact h, n⟩, fun b kvs n h => ⟨rd_keep (fun v e => by rw [upd_ne (ne_of_none e hc1)]; exact e) h, n⟩, fun _ _ h => h⟩
    have stp : Step T H T (upd (upd H P (.tbl ps')) c' (CodeO c' q)) := by
      refine ⟨⟨[], by simp⟩, rfl, fun b hb => ?_, fun b u n h => ?_, fun a h n => absurd h n⟩
      · have n1 : b ≠ c' := fun e => offc.2 (by rw [← e]; exact hb)
        rw [upd_ne n1]
        exact st1.hkeep b hb
      · rw [upd_ne (ne_of_none h hc)]
        exact st1.keep b u n h
    refine ⟨stp, sim.len, sim.nd, fun j a o h1 h2 => ?_, fun a ha => ?_, ?_⟩
    · have na : a ≠ c' := fun e => offc.1 (by rw [← e]; exact List.mem_of_getElem? h1)
      by_cases e : a = P
      · subst e
        have ej : j = i := nd_ix sim.ndl h1 hi
        subst ej
        rw [hS] at h2
        cases h2
        obtain ⟨hx, ps0, p1, p2, p3⟩ := sim.obj _ _ _ hi hS
        rw [hP] at p1
        cases p1
        refine ⟨hx, ps', by rw [upd_ne na, upd_same], ht, fun pos cv hcv => ?_⟩
        rcases ha pos cv hcv with z | z
        · obtain ⟨c0, e1, e2, e3⟩ := p3 pos cv z
          exact ⟨c0, e1, stp.keep _ _ e3 e2, e3⟩
        · exact ⟨c', z, upd_same, offc⟩
      · exact (sim.obj j a o h1 h2).step stp (by rw [upd_ne na, upd_ne e])
    · rw [stp.hkeep a ha]
      exact sim.hid' a ha
    · have h0 : HLen (upd H P (.tbl ps')) := hlen_oth sim.hl fun xs => ⟨(by intro z; cases z), (by intro z; cases z), (by intro x z; cases z), (by intro x z; cases z)⟩
      exact hlen_oth h0 fun xs => ⟨(by intro z; cases z), (by intro z; cases z), (by intro x z; cases z), (by intro x z; cases z)⟩
end
section
variable {X : Cx} {pins : List (Addr × Obj)} {σ : L2.St} {H : Hp} {s : Shared}
theorem lam_mk {c P : Addr} {q : Str} {ps : Array Value} {params : Arguments} {body : Expr} {scope : Scope} {pos : Pos} {E : Value → Shared → Prop} {Q : Value → Shared → Prop} (I : Inv X pins σ H s) (TB : TabB X.base X.mg c P) (hcode : X.env.code = .ref c) (hq : X.env.qual ++ "<lambda>" = q)
    (hP : H P = some (.tbl ps)) (ht : TriplesOk ps.toList) (ha : ∀ (pos : Pos) (cv : Value), codeAmong pos ps.toList = some cv → ∃ c, cv = .ref c ∧ H c = some (CodeO c q)) (hdef : defaultsOf params X.env = ([], [])) (hfree : ∀ y ∈ scope.names, y.2 = .free → ∃ c, X.env.cells.lookup y.1 = some c)
    (k : ∀ (f c' : Addr) (pm ctv : Value) (H1 : Hp) (s' : Shared), Made H P c' q ps H1 → Inv X pins σ H1 s' → s'.heap.get? f = some (PySem.W.kla_obj "<lambda>" q params body scope (cloFrom X.env.cells scope.names []) pm c' ctv) → H1 c' = some (CodeO c' q) → Q (.ref f) s') :
    wpAny (model X.prog X.w) X.A (eval (.Lambda params body scope pos) X.env) Q E s := by
  subst hq
  have tabP := I.hok P _ hP
  have glob := I.mod.glob.keeps I.bk
  have code := TB.code.keeps I.bk
  have blt := TB.bm.keeps I.bk
  have clos := closure_ok hfree
  apply PySem.W.kla_eval hdef
  rcases hc : codeAmong pos ps.toList with _ | cv
  · apply PySem.W.kla_makeFunction clos I.ok.glob glob hcode code tabP ht hc TB.gP blt
    rintro c' ctv h' tk old ge lt ⟨c2, oc, vs, t, e, w1, w2, w3⟩ tab'
    cases e
    have free' : H c' = none := I.hok.fresh ge
    refine k _ c' _ ctv _ _ (.inr ⟨_, free', (ne_of_none hP free').symm, ?_, fun p' cv h => ?_, rfl⟩)
      (inv_table I hP (fun b o hb e => Heap.get?_push_of_some _ (old b o hb e)) (Heap.get?_push_of_some _ tab') ge ⟨oc, vs, t, Heap.get?_push_of_some _ w1, w2, w3⟩) (Heap.get?_push_size _ rfl) upd_same
    · rw [Array.toList_append]
      exact TriplesOk_snoc _ _ _ _ ht
    · rw [Array.toList_append] at h
      exact among_app _ ht h
  · obtain ⟨c', rfl, known⟩ := ha pos cv hc
    apply PySem.W.kla_makeFunctionHit clos I.ok.glob glob hcode code tabP ht hc blt
    exact fun ctv h' tk old _ => k _ c' _ ctv H _ (.inl rfl) (I.kept fun b o e => Heap.get?_push_of_some _ (old b o e)) (Heap.get?_push_size _ rfl) known
end
end Dv
namespace Dv
open PySem PySem.Spec PyProof.Rows L2 LamX PySem.W
section
variable {X : Cx} {Wx : WX}
end
end Dv
namespace Dv
open PySem L2
section
variable {P : Program} {w : World} {K : PySem.W.Frag} {mg : Str → Option Value} {base : Heap} {x qual : Str} {st : Stmt} {f : Addr} {fd : FuncData} {N ps : List Str} {k : Nat} {b : SM}
abbrev BodyC (P : Program) (w : World) (K : PySem.W.Frag) (mg : Str → Option Value) (base : Heap) (N : List Str) (qual : Str) (st : Stmt) (f : Addr) (k : Nat) (b : SM) (cdv : Value) : Prop :=
  ∀ (A : Around) (outer : List PySem.Env) (s : Shared) (H : Hp) (E : XK), Room k (A.deeper (PyProof.Rows.envOfC qual (defScope st) s.heap.objs.size f cdv)) →
    PSs (cxOf (L2.CX P w) P w K mg base N qual (defScope st) f cdv A outer s H E) (defBody st) (tDS K mg (fun c d _ H => E c d H) b)
theorem fnTC (F : Fun K x qual st f fd) (Sc : FnScope N ps (defScope st)) (hb : BodyC P w K mg base N qual st f k b fd.code) : FnOk P w K mg base (L2.CX P w) (k + 1) f fd ps (spD K mg ps.length (runT N.length b)) := by
  obtain ⟨oc, od, kV, doc, pm, an, cdv, ct, osl, rfl, lk, hcd⟩ := F.ex
  refine fn_of lk hcd Sc (fun vs H Q E h => h.1) fun A outer s H vs Q E hr hsp => ⟨_, hb A outer s H E hr, ?_⟩
  obtain ⟨hl, T, S, ds, rep, sim, out⟩ := hsp
  refine ⟨T, frame N.length ds, S, frame_ok N rep, sim, ?_⟩
  unfold runT finT at out
  revert out
  cases b (frame N.length ds) S with
  | bad => exact fun h => h
  | exc n r' S' =>
    intro h T' H' g' s sim' _
    dsimp only at h
    split at h
    · rename_i tr
      obtain ⟨s1, m1⟩ := tr_back sim s sim' tr
      exact h T H' s1 m1
    · exact h.elim
  | ok fl r' S' =>
    cases fl with
    | next =>
      intro h T' H' g' s sim' rs'
      dsimp only at h
      split at h
      · rename_i tr
        obtain ⟨s1, m1⟩ := tr_back sim s sim' tr
        exact h T H' .non s1 m1 .non
      · exact h.elim
    | ret d =>
      intro h T' H' v s sim' rv
      dsimp only at h
      split at h
      · rename_i tr
        obtain ⟨s1, m1⟩ := tr_back sim s sim' tr
        split at h
        · rename_i d' ed
          exact h T H' v s1 m1 (fzE_back sim s sim' rv ed)
        · exact h.elim
      · exact h.elim
    | brk => exact fun h => h.elim
    | cont => exact fun h => h.elim
end
theorem law_fnT {P : Program} {w : World} {K : PySem.W.Frag} {mg : Str → Option Value} {base : Heap} {CX : CXT} {k : Nat} {f tP : Addr} {fd : FuncData} {x q : Str} {F : Nat → List D → Store → R D} (hT : TblAt K mg x tP) (h : ∀ fu, FnOk P w K mg base CX k f fd ["script"] (spD K mg 1 (F fu)))
    (ht : ∀ ns : List Int, ns.length ≤ 63 → ∃ fu S, F fu [.scr ns] [.tbl x q] = .ok (.bl true) S) :
    FnOk P w K mg base CX k f fd ["script"] (fun vs H Q E => H tP = some (.tbl #[]) ∧ spLaw K vs H Q E) := by
  refine ⟨fun vs H Q E q => ?_, fun A outer s H args us vs Q E hr he hb hv hs => ?_⟩
  · obtain ⟨_, a, ns, rfl, _⟩ := q
    rfl
  · obtain ⟨hP, a, ns, rfl, hq, hl, hQ⟩ := hs
    obtain ⟨fu, S', e⟩ := ht ns hl
    have na : ∀ {u}, Rd H a (.lst u) → a ≠ tP := fun {u} r z => by
      rw [z] at r
      rcases r with r | ⟨o, r⟩ <;> rw [hP] at r <;> cases r
    refine (h fu).run A outer s H args us _ Q E hr he hb hv ⟨rfl, ⟨[tP], []⟩, [.tbl x q], [.scr ns], .cons (.scr ?_) .nil, ⟨rfl, by simp, fun i b o h1 h2 => ?_, fun a h1 => ?_, hlen_of he.hok⟩, ?_⟩
    · rcases hq with hq | hq
      · exact .inl ⟨hq, fun z => na hq (List.mem_singleton.mp z), (by intro z; cases z)⟩
      · exact .inr (.inr hq)
    · cases i with
      | zero =>
        cases h1
        cases h2
        exact ⟨hT, #[], hP, True.intro, fun pos cv hc => by
          have z : codeAmong pos [] = some cv := hc
          simp [codeAmong] at z⟩
      | succ n => simp at h1
    · cases h1
    · rw [e]
      intro T' H' v _ _ r
      rw [r.bl_of]
      exact hQ H'
end Dv
namespace Dv
open PySem L2
theorem tab_in {K : PySem.W.Frag} {c P : Addr} (e : PySem.W.codeHdIn K c P = true) : ∃ (oc : Value) (od : Option Addr) (vs : Array Value) (sl : Array (Option Value)), K.lookup c = some ⟨oc, od, .fields vs, sl⟩ ∧ vs[11]? = some (.ref P) := by
  unfold PySem.W.codeHdIn at e
  split at e
  · rename_i od vs sl hk
    refine ⟨_, od, vs, sl, hk, ?_⟩
    simp only [Bool.and_eq_true] at e
    obtain ⟨⟨⟨⟨⟨e1, _⟩, _⟩, _⟩, _⟩, _⟩ := e
    split at e1
    · rename_i P' h
      rw [h, beq_iff_eq.mp e1]
    · cases e1
  · cases e
theorem tblAt_mk {K : PySem.W.Frag} {mg : Str → Option Value} {x : Str} {f c P : Addr} {oc : Value} {od : Option Addr} {fd : FuncData} {sl : Array (Option Value)} (hm : mg x = some (.ref f)) (hk : K.lookup f = some ⟨oc, od, .func fd, sl⟩) (hc : fd.code = .ref c) (e : PySem.W.codeHdIn K c P = true) : TblAt K mg x P := by
  obtain ⟨oc2, od2, vs, sl2, h1, h2⟩ := tab_in e
  exact ⟨f, c, oc, oc2, od, od2, fd, sl, sl2, vs, hm, hk, hc, h1, h2⟩
end Dv
namespace Lp
end Lp
namespace Dv
open PySem L2
section
variable {rows : List (List Int)} {S0 : Store} {order : List Nat} {fu : Nat}
end
end Dv
namespace Dv
open PySem L2
theorem fin_tbl {x q : Str} {S1 : Store} {rho : Env} {d : D} (h0 : S1[0]? = some (.tbl x q)) (hd : clo 1 d = true) : ∃ S, finT [.tbl x q] (.ok (.ret d) rho S1) = .ok d S := by
  refine ⟨_, finT_ret ⟨?_, fun i o hi ho => ?_⟩ (fz_clo hd)⟩
  · have := (List.getElem?_eq_some_iff.mp h0).1
    exact this
  · have : i = 0 := by simpa using hi
    subst this
    rw [h0] at ho
    cases ho
    exact .inl rfl
end Dv
namespace Dv
open PySem L2
abbrev Gd := Store → Bool
def WalksG (K : PySem.W.Frag) (mg : Str → Option Value) (T : Tb) (H : Hp) (J : It) (ds : List D) (c : Gd) : Prop := ∀ T' S' H', Kf T H T' H' → Sim K mg T' S' H' → c S' = true → J.stop ds.length H' ∧
  ∀ (i : Nat) (d : D), ds[i]? = some d → J.go i H' ∧ ∀ x H2, J.yld i H' x H2 → Step T' H' T' H2 ∧ Sim K mg T' S' H2 ∧ Rep K T' H2 x d
abbrev IG := Env → Store → R (List D × Gd)
def iG (K : PySem.W.Frag) (mg : Str → Option Value) (Wx : WX) (mi : IG) : TI := fun g H Q => ∃ T r S, RepSt K T H r g ∧ Sim K mg T S H ∧
  Out K mg Wx (fun T' H' (J : It) p => WalksG K mg T' H' J p.1 p.2 ∧ p.1.length ≤ sizeLine) T g H (mi r S) Q
def gYes : Gd := fun _ => true
def gIs (n : Nat) (xs : List D) : Gd := fun S => match S[n]? with
  | some (.lst ys) => decide (ys = xs)
  | _ => false
@[simp] theorem gYes_ap (S : Store) : gYes S = true := rfl
theorem gIs_iff {n : Nat} {xs : List D} {S : Store} : gIs n xs S = true ↔ S[n]? = some (.lst xs) := by
  unfold gIs
  split
  · rename_i ys h
    rw [h]
    simp
  · rename_i h
    constructor
    · intro q; cases q
    · intro q; exact absurd q (h xs)
@[simp] theorem gIs_ap {n : Nat} {xs : List D} {S : Store} (h : S[n]? = some (.lst xs)) : gIs n xs S = true := gIs_iff.mpr h
def seqG (d : D) (S : Store) : Option (List D × Gd) := match d with
  | .loc n => match S[n]? with
    | some (.lst xs) => some (xs, gIs n xs)
    | _ => none
  | d => (seqD d).map fun xs => (xs, gYes)
def mIterG (m : EM) : IG := fun r S => (m r S).bind fun d S1 => ofO (seqG d S1) S1
def enumG (ds : List D) (S : Store) : Option (List D × Gd) := match ds with
  | [.loc n] => match S[n]? with
    | some (.lst xs) => some (enumL xs, gIs n xs)
    | _ => none
  | ds => (enumD ds).map fun xs => (xs, gYes)
@[simp] theorem mIterG_ap {m : EM} {r : Env} {S : Store} : mIterG m r S = (m r S).bind fun d S1 => ofO (seqG d S1) S1 := rfl
section
variable {X : Cx} {Wx : WX} {tg e : Expr} {m : EM} {ms : AM} {mi : IM} {pos p tpos : Pos} {elts : List Expr} {kk : Nat}
theorem walksG_of {K : PySem.W.Frag} {mg : Str → Option Value} {T : Tb} {H : Hp} {J : It} {ds : List D} {c : Gd} (h : Walks K mg T H J ds) : WalksG K mg T H J ds c := fun T' S' H' kf sim _ => h T' S' H' kf sim
theorem walks_loc {K : PySem.W.Frag} {mg : Str → Option Value} {T : Tb} {H : Hp} {a : Addr} {n : Nat} {xs : List D} (h : T.loc[n]? = some a) : WalksG K mg T H (Itl K a) xs (gIs n xs) := fun T' S' H' kf sim hc => by
  have hT := kf.get n a h
  obtain ⟨vs, h1, h2⟩ := sim.obj n a _ hT (gIs_iff.mp hc)
  have hq : SqL K H' a vs := SqL.of h1
  refine ⟨⟨vs, hq, by rw [h2.length]; exact Nat.le_refl _⟩, fun i d e => ?_⟩
  obtain ⟨v, g1, g2⟩ := h2.get e
  refine ⟨⟨vs, v, hq, g1⟩, fun x H2 y => ?_⟩
  obtain ⟨rfl, y⟩ := y
  have e2 := (y vs hq).symm.trans g1
  cases e2
  exact ⟨Step.refl _ _, sim, g2⟩
theorem ji_seqG (h : PE X e (tD X.K X.mg Wx m)) : PI X tg e (iG X.K X.mg Wx (mIterG m)) := pi_imp (pi_sq h) fun g H Q h => by
  obtain ⟨T, r, S, rs, sim, h⟩ := h
  refine ⟨T, r, S, rs, sim, Out.bind h fun d S1 T1 H1 v st sim1 rel h1 => ?_⟩
  refine Out.use h1 fun dsc e k => ?_
  cases rel with
  | loc q =>
    rename_i a n
    unfold seqG at e
    split at e
    · rename_i n' heq
      cases heq
      split at e
      · rename_i xs hS
        cases e
        obtain ⟨vs, h1, h2⟩ := sim1.obj n a _ q hS
        exact .inl ⟨_, _, rfl, SqL.of h1, k T1 H1 _ (Step.refl T1 H1) sim1 ⟨walks_loc q, by rw [← h2.length]; exact sim1.hl _ _ (.inl (.inl h1))⟩⟩
      · cases e
    · rename_i hn
      exact absurd rfl (hn n)
  | lst q1 q2 q3 =>
    cases e
    exact .inl ⟨_, _, rfl, SqL.of q1, k T1 H1 _ (Step.refl T1 H1) sim1 ⟨walksG_of (walks_lst (.inl ⟨.inl q1, q2⟩) q3), by rw [← q3.length]; exact sim1.hl _ _ (.inl (.inl q1))⟩⟩
  | scr q =>
    cases e
    exact .inl ⟨_, _, rfl, q.sq, k T1 H1 _ (Step.refl T1 H1) sim1 ⟨walksG_of (walks_lst q (RepL.ints _)), by have := sim1.llen q; rw [List.length_map] at this ⊢; exact this⟩⟩
  | tup q1 q2 q3 =>
    cases e
    exact .inr (.inl ⟨_, _, rfl, SqT.of q1, k T1 H1 _ (Step.refl T1 H1) sim1 ⟨walksG_of (walks_tup q1 q2 q3), by rw [← q3.length]; exact sim1.hl _ _ (.inr (.inl q1))⟩⟩)
  | str x =>
    have e : ((seqD (.str x)).map fun xs => (xs, gYes)) = some dsc := e
    simp only [seqD] at e
    split at e
    · rename_i hz
      cases e
      exact .inr (.inr ⟨x, rfl, k T1 H1 _ (Step.refl T1 H1) sim1 ⟨walksG_of walks_str, by rw [List.length_map, Array.length_toList]; exact sz5 hz⟩⟩)
    · cases e
  | _ => cases e
end
def sLoopG (c : Gd) (gm : D → Env → Option Env) (b : SM) : List D → SM
  | [] => fun r S => if c S = true then .ok .next r S else .bad
  | d :: ds => fun r S => if c S = true then (match gm d r with
    | none => .bad
    | some r1 => match b r1 S with
      | .ok .next r2 S2 => sLoopG c gm b ds r2 S2
      | .ok .cont r2 S2 => sLoopG c gm b ds r2 S2
      | .ok .brk r2 S2 => .ok .next r2 S2
      | .ok (.ret d) r2 S2 => .ok (.ret d) r2 S2
      | .exc x r2 S2 => .exc x r2 S2
      | .bad => .bad) else .bad
def sForG (mi : IG) (gm : D → Env → Option Env) (b : SM) : SM := fun r S => bindS (mi r S) r fun p S1 => sLoopG p.2 gm b p.1 r S1
@[simp] theorem sForG_ap {mi : IG} {gm : D → Env → Option Env} {b : SM} {r : Env} {S : Store} : sForG mi gm b r S = bindS (mi r S) r fun p S1 => sLoopG p.2 gm b p.1 r S1 := rfl
section
variable {X : Cx} {Wx : WX} {pos : Pos} {tg iter : Expr} {mi : IG} {sl : List Nat} {gm : D → Env → Option Env} {sb : SM}
theorem js_forG {body : List Stmt} (hp : PassesOwn (model X.prog X.w) X.A X.env X.xe) (hc : X.calm = true) (hi : PI X tg iter (iG X.K X.mg Wx mi)) (hg : PG X tg (gD X.K X.mg sl gm)) (hb : PSs X body (tDS X.K X.mg Wx sb))
    (hs : ∀ x, foldedSetIterable iter X.env x = pure x := by intro _; rfl) : PS X (.For tg iter body [] pos) (tDS X.K X.mg Wx (sForG mi gm sb)) :=
  ps_imp (ps_for hp hc hi hg hb hs) fun E g H h => by
    obtain ⟨T, r, S, rs, sim, h⟩ := h
    refine ⟨T, r, S, rs, sim, ZOut.bind h rs fun dsc S1 T1 H1 J st sim1 rel rs1 h1 => ?_⟩
    obtain ⟨ds, c⟩ := dsc
    obtain ⟨wk, hz⟩ := rel
    refine ⟨fun i m g H => ∃ T r S, m = ds.length - i ∧ i ≤ ds.length ∧ Step T1 H1 T H ∧ RepSt X.K T H r g ∧ Sim X.K X.mg T S H ∧ ZOut X.K X.mg Wx T H (sLoopG c gm sb (ds.drop i) r S) E, ⟨ds.length, T1, r, S1, by simp, Nat.zero_le _, Step.refl T1 H1, rs1, sim1, h1⟩, ?_⟩
    rintro i m g2 H2 ⟨T2, r2, S2, rfl, hi2, st2, rs2, sim2, h2⟩
    by_cases hlt : i < ds.length
    · have ed : ds.drop i = ds[i] :: ds.drop (i + 1) := List.drop_eq_getElem_cons hlt
      rw [ed] at h2
      by_cases hcc : c S2 = true
      · simp only [sLoopG, if_pos hcc] at h2
        obtain ⟨stop, go⟩ := wk T2 S2 H2 st2.kf sim2 hcc
        obtain ⟨g1, yl⟩ := go i ds[i] (List.getElem?_eq_getElem hlt)
        refine .inr ⟨g1, fun g H => ∃ T r S, Step T1 H1 T H ∧ RepSt X.K T H r g ∧ Sim X.K X.mg T S H ∧ ZOut X.K X.mg Wx T H (sLoopG c gm sb (ds.drop (i + 1)) r S) E, fun g3 H3 q => ?_, fun x H3 y => ?_⟩
        · obtain ⟨T3, r3, S3, q1, q2, q3, q4⟩ := q
          exact ⟨ds.length - (i + 1), by omega, T3, r3, S3, rfl, hlt, q1, q2, q3, q4⟩
        · obtain ⟨st3, sim3, rep3⟩ := yl x H3 y
          have h3 := ZOut.step st3 h2
          split at h3
          · exact h3.elim
          · rename_i r3 eg
            refine ⟨T2, r2, S2, ds[i], r3, rs2.step st3, sim3, rep3, eg, fun g4 rs4 _ _ => ⟨T2, r3, S2, rs4, sim3, ?_⟩⟩
            revert h3
            cases sb r3 S2 with
            | bad => exact fun h => h
            | exc n r' S' => exact fun h => h
            | ok f r' S' =>
              cases f with
              | next => exact fun h T' H' g' s sim' rs' => ⟨T', r', S', (st2.trans st3).trans s, rs', sim', ZOut.step s h⟩
              | cont => exact fun h T' H' g' s sim' rs' => ⟨T', r', S', (st2.trans st3).trans s, rs', sim', ZOut.step s h⟩
              | ret d => exact fun h => h
              | brk => exact fun h => h
      · simp only [sLoopG, if_neg hcc] at h2
        exact h2.elim
    · have e : i = ds.length := by omega
      subst e
      rw [List.drop_length] at h2
      by_cases hcc : c S2 = true
      · simp only [sLoopG, if_pos hcc] at h2
        obtain ⟨stop, go⟩ := wk T2 S2 H2 st2.kf sim2 hcc
        exact .inl ⟨stop, h2.nx sim2 rs2⟩
      · simp only [sLoopG, if_neg hcc] at h2
        exact h2.elim
end
section
variable {K : PySem.W.Frag} {mg : Str → Option Value} {H : Hp}
end
section
variable {X : Cx} {Wx : WX} {elt tg iter : Expr} {ifs : List Expr} {scope : Scope} {own : List (Str × Nat)} {pos : Pos} {mi : IG} {sl : List Nat} {gm : D → Env → Option Env} {tt : BM} {te : EM} {nw : Bool}
end
def sPar3 (i j l : Nat) (ms : AM) : SM := fun r S => bindS (ms r S) r fun ds S1 => match ds with
  | [a, b, c] => .ok .next (((r.set i (some a)).set j (some b)).set l (some c)) S1
  | _ => .bad
@[simp] theorem sPar3_ap {i j l : Nat} {ms : AM} {r : Env} {S : Store} : sPar3 i j l ms r S = bindS (ms r S) r fun ds S1 => match ds with
  | [a, b, c] => .ok .next (((r.set i (some a)).set j (some b)).set l (some c)) S1
  | _ => .bad := rfl
theorem js_par3 {X : Cx} {Wx : WX} {i j l : Nat} {x y z : Str} {a b c : Expr} {ms : AM} {px py pz pt pos : Pos} {kt k2 pt2} (hc : X.calm = true) (hN : X.N.Nodup) (hi : X.N[i]? = some x) (hj : X.N[j]? = some y) (hl : X.N[l]? = some z) (hij : i ≠ j) (hil : i ≠ l) (hjl : j ≠ l)
    (hx : X.env.scope.names.lookup x = some .local) (hy : X.env.scope.names.lookup y = some .local) (hz : X.env.scope.names.lookup z = some .local) (ha : PA X [a, b, c] (tDA X.K X.mg Wx ms))
    (hw : swappedStores [.Tuple [.Name x px, .Name y py, .Name z pz] kt pt] (.Tuple [a, b, c] k2 pt2) X.env = pure (some [x, y, z]))
    (hs : swapsWithSole [.Tuple [.Name x px, .Name y py, .Name z pz] kt pt] (.Tuple [a, b, c] k2 pt2) pos.line X.env = pure false := by rfl) :
    PS X (.Assign [.Tuple [.Name x px, .Name y py, .Name z pz] kt pt] (.Tuple [a, b, c] k2 pt2) pos) (tDS X.K X.mg Wx (sPar3 i j l ms)) :=
  ps_imp (ps_par3 hc hN hi hj hl hij hil hjl hx hy hz ha hw hs) fun E g H h => by
    obtain ⟨T, r, S, rs, sim, h⟩ := h
    refine ⟨T, r, S, rs, sim, ZOut.bind h rs fun d S1 T1 H1 v st sim1 rel rs1 h1 => ?_⟩
    cases rel with
    | nil => exact h1.elim
    | cons q1 rel =>
      cases rel with
      | nil => exact h1.elim
      | cons q2 rel =>
        cases rel with
        | nil => exact h1.elim
        | cons q3 rel =>
          cases rel with
          | nil => exact ⟨_, _, _, rfl, h1.nx sim1 (((rs1.set q1).set q2).set q3)⟩
          | cons _ _ => exact h1.elim
end Dv
namespace Dv
open PySem PySem.Spec PyProof.Rows L2
def MaskB (m : Nat) : Prop := m = 7 ∨ m = 31 ∨ m = 127 ∨ m = 511
def orb (m : Nat) : Nat → Nat → List Nat
  | 0, _ => []
  | f + 1, x => x :: orb m f ((x * 5 + 1) % (m + 1))
theorem lcgI_next (m x : Nat) : ∀ k, lcgI m x (k + 1) = lcgI m ((x * 5 + 1) % (m + 1)) k
  | 0 => rfl
  | k + 1 => congrArg (fun z => (z * 5 + 1) % (m + 1)) (lcgI_next m x k)
theorem lcgI_sum (m x a : Nat) : ∀ k, lcgI m (lcgI m x a) k = lcgI m x (a + k)
  | 0 => rfl
  | k + 1 => congrArg (fun z => (z * 5 + 1) % (m + 1)) (lcgI_sum m x a k)
theorem mem_orb (m : Nat) : ∀ (f x j : Nat), j ∈ orb m f x → ∃ b, b < f ∧ lcgI m x b = j
  | 0, _, _, h => by cases h
  | f + 1, x, j, h => by
    rcases List.mem_cons.mp h with e | h
    · exact ⟨0, Nat.succ_pos _, e.symm⟩
    · obtain ⟨b, h1, h2⟩ := mem_orb m f _ j h
      exact ⟨b + 1, by omega, (lcgI_next m x b).trans h2⟩
theorem orb_whole {m : Nat} (h : MaskB m) : ((List.range (m + 1)).all fun j => (orb m (m + 1) 0).any fun x => x == j) = true ∧ lcgI m 0 (m + 1) = 0 := by
  rcases h with rfl | rfl | rfl | rfl <;> exact ⟨by decide +kernel, by decide +kernel⟩
theorem from0 {m j : Nat} (h : MaskB m) (hj : j ≤ m) : ∃ b, b ≤ m ∧ lcgI m 0 b = j := by
  have q := List.all_eq_true.mp (orb_whole h).1 j (List.mem_range.mpr (by omega))
  obtain ⟨x, hx, e⟩ := List.any_eq_true.mp q
  rw [eq_of_beq e] at hx
  obtain ⟨b, h1, h2⟩ := mem_orb m _ _ _ hx
  exact ⟨b, by omega, h2⟩
theorem fromI {m i j : Nat} (h : MaskB m) (hi : i ≤ m) (hj : j ≤ m) : ∃ k, k ≤ m ∧ lcgI m i k = j := by
  obtain ⟨a, ha, rfl⟩ := from0 h hi
  obtain ⟨b, hb, rfl⟩ := from0 h hj
  by_cases c : a ≤ b
  · exact ⟨b - a, by omega, by rw [lcgI_sum, show a + (b - a) = b by omega]⟩
  · refine ⟨m + 1 + b - a, by omega, ?_⟩
    rw [lcgI_sum, show a + (m + 1 + b - a) = m + 1 + b by omega, ← lcgI_sum, (orb_whole h).2]
theorem runs_to {m j : Nat} (hm : MaskB m) (h : Int) (hj : j ≤ m) : ∃ n, n ≤ m + 12 ∧ runI m (SetTable.bits h) n = j := by
  obtain ⟨k, h1, h2⟩ := fromI hm (runI_le m (SetTable.bits h) 12) hj
  exact ⟨12 + k, by omega, (runI_tail (bits_lt h) k).trans h2⟩
theorem way_in (m : Nat) (h : Int) (k : Nat) : way m h k ≤ m := by
  have hi : SetTable.bits h % (m + 1) ≤ m := Nat.le_of_lt_succ (Nat.mod_lt _ (Nat.succ_pos _))
  have hr := runEnd_bd hi
  have := nth_in (m := m) k (runAt m (SetTable.bits h % (m + 1)) (SetTable.bits h)) (show SetTable.bits h % (m + 1) + (SetTable.runEnd m (SetTable.bits h % (m + 1)) - SetTable.bits h % (m + 1)) ≤ m by omega)
  exact Nat.le_trans (Nat.le_add_right _ _) this
theorem way_to {m j : Nat} (hm : MaskB m) (h : Int) (hj : j ≤ m) : ∃ k, k < 10 * SetTable.turns m ∧ way m h k = j := by
  obtain ⟨n, h1, h2⟩ := runs_to hm h hj
  obtain ⟨k, h3, h4⟩ := run_nth m (SetTable.bits h) n
  refine ⟨k, by unfold SetTable.turns; omega, ?_⟩
  exact (congrArg SetTable.Probe.j h4).trans h2
theorem way_off (m : Nat) (h : Int) (n : Nat) : way m h (off m (SetTable.bits h % (m + 1)) (SetTable.bits h) n) = runI m (SetTable.bits h) n := by
  have e := nth_off m n (SetTable.bits h % (m + 1)) (SetTable.bits h)
  rw [itL_run] at e
  exact congrArg SetTable.Probe.j e
theorem way_gap {m : Nat} (hm : MaskB m) (h : Int) {ps : List Nat} (hl : ps.length ≤ m) : ∃ K, K < 10 * SetTable.turns m ∧ way m h K ∉ ps ∧ ∀ k, k < K → way m h k ∈ ps := by
  obtain ⟨j, hj, hn⟩ := st_missing ps (m + 1) (by omega)
  obtain ⟨k, hk, rfl⟩ := way_to hm h (show j ≤ m by omega)
  obtain ⟨K, h1, h2, h3⟩ := st_least (p := fun k => way m h k ∉ ps) k hn
  exact ⟨K, by omega, h2, fun c hc => Classical.not_not.mp (h3 c hc)⟩
structure Lay (m : Nat) (hs : List Int) (ps : List Nat) (owner : Array (Option Nat)) : Prop where
  sz : owner.size = m + 1
  len : ps.length = hs.length
  le : ∀ j ∈ ps, j ≤ m
  who : ∀ j k, j ≤ m → (oAt owner j = some k ↔ ps[k]? = some j)
  gd : ∀ (k j : Nat) (h : Int), ps[k]? = some j → hs[k]? = some h → ∃ c, way m h c = j ∧ ∀ c', c' < c → way m h c' ∈ ps
theorem lay0 (m : Nat) : Lay m [] [] (Array.replicate (m + 1) none) where
  sz := Array.size_replicate ..
  len := rfl
  le := fun _ h => by cases h
  who := fun j k hj => by
    rw [oAt_init hj]
    constructor
    · intro e
      cases e
    · intro e
      cases e
  gd := fun _ _ _ e => by cases e
theorem app_get {α : Type} {xs : List α} {x y : α} {k : Nat} (h : (xs ++ [x])[k]? = some y) : xs[k]? = some y ∨ (k = xs.length ∧ y = x) := by
  by_cases c : k < xs.length
  · rw [List.getElem?_append_left c] at h
    exact .inl h
  · rw [List.getElem?_append_right (by omega)] at h
    obtain ⟨q, e⟩ := List.getElem?_eq_some_iff.mp h
    have q : k - xs.length < 1 := q
    have : k = xs.length := by omega
    subst this
    simp at h
    exact .inr ⟨rfl, h.symm⟩
theorem Lay.more {m : Nat} (hm : MaskB m) {hs : List Int} {ps : List Nat} {owner : Array (Option Nat)} (L : Lay m hs ps owner) (hl : hs.length ≤ m) (h : Int) :
    ∃ j, SetTable.layClean.free m owner (SetTable.turns m) (SetTable.bits h % (m + 1)) (SetTable.bits h) = some j ∧ Lay m (hs ++ [h]) (ps ++ [j]) (owner.setIfInBounds j (some hs.length)) := by
  have hps : ps.length ≤ m := by rw [L.len]; exact hl
  have free : ∀ j, j ≤ m → (oAt owner j = none ↔ j ∉ ps) := fun j hj => by
    constructor
    · intro e hm
      obtain ⟨k, hk, ek⟩ := List.mem_iff_getElem.mp hm
      have := (L.who j k hj).mpr (by rw [List.getElem?_eq_getElem hk, ek])
      rw [e] at this
      cases this
    · intro hn
      cases e : oAt owner j with
      | none => rfl
      | some k => exact absurd (List.mem_of_getElem? ((L.who j k hj).mp e)) hn
  obtain ⟨j0, h0, hn0⟩ := st_missing ps (m + 1) (by omega)
  obtain ⟨n, hn, en⟩ := runs_to hm h (show j0 ≤ m by omega)
  obtain ⟨K, k1, k2, k3⟩ := st_least (p := fun k => way m h k ∉ ps) (off m (SetTable.bits h % (m + 1)) (SetTable.bits h) n) (by
    show way m h _ ∉ ps
    rw [way_off, en]
    exact hn0)
  have k4 : ∀ c, c < K → way m h c ∈ ps := fun c hc => Classical.not_not.mp (k3 c hc)
  have hw := way_in m h K
  have fr : SetTable.layClean.free m owner (SetTable.turns m) (SetTable.bits h % (m + 1)) (SetTable.bits h) = some (way m h K) := by
    refine free_spec m owner (SetTable.turns m) n _ _ K (by unfold SetTable.turns; omega) k1 (fun c hc => ?_) ?_
    · show (oAt owner (way m h c)).isNone = false
      cases e : oAt owner (way m h c) with
      | none => exact absurd (k4 c hc) ((free _ (way_in m h c)).mp e)
      | some _ => rfl
    · show (oAt owner (way m h K)).isNone = true
      rw [(free _ hw).mpr k2]
      rfl
  refine ⟨way m h K, fr, by rw [Array.size_setIfInBounds]; exact L.sz, by rw [List.length_append, List.length_append, L.len]; rfl, fun j hj => ?_, fun j k hj => ?_, fun k j h' e1 e2 => ?_⟩
  · rcases List.mem_append.mp hj with q | q
    · exact L.le j q
    · rw [List.mem_singleton.mp q]
      exact hw
  · by_cases c : j = way m h K
    · subst c
      rw [oAt_set_self _ (by rw [L.sz]; omega)]
      constructor
      · intro e
        cases e
        rw [← L.len, List.getElem?_append_right (Nat.le_refl _), Nat.sub_self]
        rfl
      · intro e
        rcases app_get e with q | ⟨q, _⟩
        · exact absurd (List.mem_of_getElem? q) k2
        · rw [q, L.len]
    · rw [oAt_set_ne _ c, L.who j k hj]
      constructor
      · intro e
        rw [List.getElem?_append_left (List.getElem?_eq_some_iff.mp e).1]
        exact e
      · intro e
        rcases app_get e with q | ⟨_, q⟩
        · exact q
        · exact absurd q c
  · have up : ∀ {x}, x ∈ ps → x ∈ ps ++ [way m h K] := fun q => List.mem_append_left _ q
    rcases app_get e1 with q | ⟨q1, q2⟩
    · have hk : k < hs.length := by rw [← L.len]; exact (List.getElem?_eq_some_iff.mp q).1
      rw [List.getElem?_append_left hk] at e2
      obtain ⟨c, a, b⟩ := L.gd k j h' q e2
      exact ⟨c, a, fun c' hc => up (b c' hc)⟩
    · rw [q1, L.len, List.getElem?_append_right (Nat.le_refl _), Nat.sub_self] at e2
      cases e2
      exact ⟨K, q2.symm, fun c' hc => up (k4 c' hc)⟩
theorem lay_all {m : Nat} (hm : MaskB m) : ∀ (rest hs : List Int) (ps : List Nat) (owner : Array (Option Nat)), Lay m hs ps owner → hs.length + rest.length ≤ m →
    ∃ ps' owner', rest.foldl (stepF m) (some (owner, hs.length)) = some (owner', (hs ++ rest).length) ∧ Lay m (hs ++ rest) ps' owner'
  | [], hs, ps, owner, L, _ => ⟨ps, owner, by rw [List.append_nil]; rfl, by rw [List.append_nil]; exact L⟩
  | h :: rest, hs, ps, owner, L, hl => by
    rw [List.length_cons] at hl
    obtain ⟨j, e, L1⟩ := L.more hm (by omega) h
    obtain ⟨ps', owner', f, L2⟩ := lay_all hm rest (hs ++ [h]) _ _ L1 (by rw [List.length_append, List.length_singleton]; omega)
    rw [List.append_assoc] at f L2
    refine ⟨ps', owner', ?_, L2⟩
    rw [List.foldl_cons, stepF_some e]
    rw [List.length_append, List.length_singleton] at f
    exact f
theorem lay_clean {m : Nat} (hm : MaskB m) {hs : Array Int} (hl : hs.size ≤ m) : ∃ ps owner, SetTable.layClean m hs = some owner ∧ Lay m hs.toList ps owner := by
  obtain ⟨ps, owner, f, L⟩ := lay_all hm hs.toList [] [] _ (lay0 m) (by rw [Array.length_toList]; show 0 + hs.size ≤ m; omega)
  refine ⟨ps, owner, ?_, L⟩
  rw [layClean_eq]
  have f' : hs.toList.foldl (stepF m) (some (Array.replicate (m + 1) none, 0)) = _ := f
  rw [f']
  rfl
theorem fm_all {α β : Type} {f : α → Option β} {g : α → β} : ∀ {l : List α}, (∀ x ∈ l, f x = some (g x)) → l.filterMap f = l.map g
  | [], _ => rfl
  | x :: l, h => by
    rw [List.filterMap_cons_some (h x List.mem_cons_self), fm_all fun y hy => h y (List.mem_cons_of_mem _ hy)]
    rfl
theorem map_range {α β : Type} (l : List α) (d : α) (f : α → β) : (List.range l.length).map (fun k => f (l.getD k d)) = l.map f := by
  refine List.ext_getElem? fun i => ?_
  rw [List.getElem?_map, List.getElem?_map]
  by_cases h : i < l.length
  · rw [List.getElem?_range h, List.getElem?_eq_getElem h]
    simp [List.getD, h]
  · rw [List.getElem?_eq_none (by rw [List.length_range]; omega), List.getElem?_eq_none (by omega)]
    rfl
theorem lay_live {m : Nat} {hs : List Int} {ps : List Nat} {owner : Array (Option Nat)} (L : Lay m hs ps owner) :
    (∀ j k, (j, k) ∈ liveOf m owner ↔ ps[k]? = some j) ∧ Ris ((liveOf m owner).map (·.1)) ∧ ((liveOf m owner).map (·.2)).Perm (List.range hs.length) := by
  have mem : ∀ j k, (j, k) ∈ liveOf m owner ↔ ps[k]? = some j := fun j k => by
    rw [mem_live L.sz]
    constructor
    · rintro ⟨a, b⟩
      exact (L.who j k a).mp b
    · intro e
      have hj := L.le j (List.mem_of_getElem? e)
      exact ⟨hj, (L.who j k hj).mpr e⟩
  have ris : Ris ((liveOf m owner).map (·.1)) := (ris_live (fun j => owner.getD j none) (List.range (m + 1)) List.pairwise_lt_range).1
  refine ⟨mem, ris, ?_⟩
  have pw : (liveOf m owner).Pairwise fun a b => a.1 < b.1 := List.pairwise_map.mp ris
  have nd : ((liveOf m owner).map (·.2)).Nodup := by
    refine List.pairwise_map.mpr (pw.imp_of_mem fun {a b} ha hb h e => ?_)
    have h1 := (mem a.1 a.2).mp ha
    have h2 := (mem b.1 b.2).mp hb
    rw [← e, h1] at h2
    have e2 := Option.some.inj h2
    omega
  refine (List.perm_ext_iff_of_nodup nd List.nodup_range).mpr fun k => ?_
  rw [List.mem_range, ← L.len]
  constructor
  · intro h
    obtain ⟨⟨j, k'⟩, h1, rfl⟩ := List.mem_map.mp h
    exact (List.getElem?_eq_some_iff.mp ((mem j k').mp h1)).1
  · intro h
    exact List.mem_map.mpr ⟨(ps[k], k), (mem _ _).mpr (List.getElem?_eq_getElem h), rfl⟩
end Dv
namespace Dv
open PySem PySem.Spec PyProof.Rows L2
abbrev Ent := Nat × Addr × List Int
abbrev entV (P : Program) (w : World) (e : Ent) : Int × Value := (thash P w e.2.2, Value.ref e.2.1)
structure Bag (P : Program) (w : World) (h : Heap) (a : Addr) (E : List Ent) (es : Array (Int × Value)) (ep : Nat) (t : SetTable) : Prop where
  ob : ∃ o, h.get? a = some o ∧ o.ExactSet ∧ o.data = .set es ep t
  ent : es.toList = E.map (entV P w)
  pl : t.place.toList = E.map (·.1)
  ris : Ris t.place.toList
  dm : t.dummies = #[]
  msk : MaskB t.mask
  le : ∀ e ∈ E, e.1 ≤ t.mask
  gd : ∀ e ∈ E, ∃ c, way t.mask (thash P w e.2.2) c = e.1 ∧ ∀ c', c' < c → way t.mask (thash P w e.2.2) c' ∈ E.map (·.1)
  nd : (E.map (·.2.2)).Nodup
  tup : ∀ e ∈ E, IsT P w h e.2.2 e.2.1
  plain : t.plain = true
  led : w.params.followText "set-order" = true ∨ t.led = true
  room : E.length * 5 < t.mask * 3
section
variable {P : Program} {w : World} {A : Around} {Ex : Value → Shared → Prop} {s : Shared} {a : Addr} {E : List Ent} {es : Array (Int × Value)} {ep : Nat} {t : SetTable} {h : Heap}
theorem Bag.size (B : Bag P w h a E es ep t) : es.size = E.length := by
  have := congrArg List.length B.ent
  rwa [Array.length_toList, List.length_map] at this
theorem Bag.psize (B : Bag P w h a E es ep t) : t.place.size = E.length := by
  have := congrArg List.length B.pl
  rwa [Array.length_toList, List.length_map] at this
theorem fits_of {n : Nat} (h1 : t.place.size = n) (h2 : t.dummies = #[]) (h3 : n ≤ t.mask) : t.fits n = true := by
  unfold SetTable.fits SetTable.fill
  rw [h2, h1]
  simp [h3]
theorem Bag.fits (B : Bag P w h a E es ep t) : t.fits es.size = true := fits_of (by rw [B.psize, B.size]) B.dm (by have := B.room; rw [B.size]; omega)
theorem Bag.at (B : Bag P w h a E es ep t) {i : Nat} {e : Ent} (hi : E[i]? = some e) : es[i]? = some (entV P w e) ∧ t.place.toList[i]? = some e.1 := by
  rw [← Array.getElem?_toList, B.ent, B.pl, List.getElem?_map, List.getElem?_map, hi]
  exact ⟨rfl, rfl⟩
theorem Bag.here (B : Bag P w h a E es ep t) {i j : Nat} (hi : t.place.toList[i]? = some j) : ∃ e, E[i]? = some e ∧ e.1 = j := by
  rw [B.pl, List.getElem?_map] at hi
  cases q : E[i]? with
  | none => rw [q] at hi; cases hi
  | some e =>
    rw [q] at hi
    exact ⟨e, rfl, Option.some.inj hi⟩
theorem Bag.odd (B : Bag P w h a E es ep t) : ¬ t.gaveWay = true := by
  unfold SetTable.gaveWay
  rcases B.msk with e | e | e | e <;> rw [e] <;> decide
abbrev pr0 (m : Nat) (h : Int) : SetTable.Probe := runAt m (SetTable.bits h % (m + 1)) (SetTable.bits h)
theorem nth_nodummy (m : Nat) : ∀ (n : Nat) (p : SetTable.Probe), p.dummy = none → (nth m p n).dummy = none
  | 0, _, h => h
  | n + 1, p, h => nth_nodummy m n (adv m p) (by
    unfold adv
    split <;> exact h)
theorem bag_seek (B : Bag P w s.heap a E es ep t) {x : Addr} {k : List Int} (hx : IsT P w s.heap k x) (hu : A.units < cLine) {K : Nat} (hK : K < 10 * SetTable.turns t.mask) (hgap : way t.mask (thash P w k) K ∉ E.map (·.1))
    (hocc : ∀ c, c < K → way t.mask (thash P w k) c ∈ E.map (·.1)) {Q : SetFound → Shared → Prop} (hin : k ∈ E.map (·.2.2) → Q (.there none) s) (hout : k ∉ E.map (·.2.2) → Q (.free (way t.mask (thash P w k) K) false) s) :
    ∀ (f c : Nat) (st : Option SetTable.Probe), st.getD (t.probeStart (thash P w k)) = nth t.mask (pr0 t.mask (thash P w k)) c → c ≤ K → K < c + f →
      (∀ e ∈ E, e.2.2 = k → ∃ c', c ≤ c' ∧ way t.mask (thash P w k) c' = e.1 ∧ c' < K) → wpAny (model P w) A (setSearchFrom a (.ref x) (thash P w k) true f st) Q Ex s
  | 0, c, _, _, h1, h2, _ => absurd h2 (by omega)
  | f + 1, c, st, hst, hcK, _, hk => by
    obtain ⟨o, ho, _, hd⟩ := B.ob
    have wy : ∀ q, (nth t.mask (nth t.mask (pr0 t.mask (thash P w k)) c) q).j = way t.mask (thash P w k) (c + q) := fun q => congrArg SetTable.Probe.j (nth_add t.mask c _ q).symm
    rw [setSearchFrom_succ]
    refine wpAny_bind (wpAny_setState_of ho hd B.fits ?_)
    dsimp only
    refine wp_if_neg B.odd ?_
    try refine wpAny_bind (wpAny_pure ?_)
    have sp := go_spec t B.ris B.dm (fun i => (es[i]?.map (·.1)).getD 0) (thash P w k) (10 * SetTable.turns t.mask) (K - c) (nth t.mask (pr0 t.mask (thash P w k)) c) (nth_nodummy _ _ _ rfl) (by omega)
      (fun q hq => by rw [wy, B.pl]; exact hocc _ (by omega)) (by rw [wy, B.pl, show c + (K - c) = K by omega]; exact hgap)
    -- which entry of the same hash is passed
    have pass : ∀ {q : Nat}, (∀ (k' i' : Nat), k' < q → t.place.toList[i']? = some (nth t.mask (nth t.mask (pr0 t.mask (thash P w k)) c) k').j → (es[i']?.map (·.1)).getD 0 ≠ thash P w k) → ∀ e ∈ E, e.2.2 = k → ∀ c', c ≤ c' → way t.mask (thash P w k) c' = e.1 → c + q ≤ c' := fun {q} no e he ek c' h1 h2 => by
      refine Classical.byContradiction fun hlt => ?_
      obtain ⟨i, hi, ei⟩ := List.mem_iff_getElem.mp he
      obtain ⟨g1, g2⟩ := B.at (show E[i]? = some e by rw [List.getElem?_eq_getElem hi, ei])
      refine no (c' - c) i (by omega) ?_ ?_
      · rw [wy, show c + (c' - c) = c' by omega, h2]
        exact g2
      · rw [g1]
        show thash P w e.2.2 = _
        rw [ek]
    rcases sp with ⟨q, i, hq, hi, hh, hno, hpr⟩ | ⟨hno, hpr⟩
    · have hpr' : t.probe (fun i => (es[i]?.map (·.1)).getD 0) (thash P w k) (st.getD (t.probeStart (thash P w k))) = some (.candidate (way t.mask (thash P w k) (c + q)) i (nth t.mask (pr0 t.mask (thash P w k)) (c + (q + 1)))) := by
        rw [hst, ← wy, nth_add t.mask c]
        exact hpr
      rw [hpr']
      dsimp only
      rw [wy] at hi
      obtain ⟨e, he, ej⟩ := B.here hi
      have hm : e ∈ E := List.mem_of_getElem? he
      obtain ⟨ge, _⟩ := B.at he
      have go : wpAny (model P w) A (searchRest a (.ref x) (thash P w k) true f es t (way t.mask (thash P w k) (c + q)) i (nth t.mask (pr0 t.mask (thash P w k)) (c + (q + 1)))) Q Ex s := by
        unfold searchRest
        rw [ge]
        dsimp only
        refine wpAny_bind (wpAny_holding (wpAny_eqBool_tuple hu (B.tup e hm) hx ?_))
        refine wpAny_bind (wpAny_setState_of ho hd B.fits ?_)
        dsimp only
        by_cases same : e.2.2 = k
        · refine wp_if_pos (by simp [same]) (wpAny_pure (hin ?_))
          rw [← same]
          exact List.mem_map_of_mem (f := fun e : Ent => e.2.2) hm
        · refine wp_if_neg (by simp [same]) ?_
          try refine wpAny_bind (wpAny_pure ?_)
          rw [sameMem]
          dsimp only
          have live := slot_live B.ris hi
          simp only [if_true, live, ge]
          refine wpAny_bind (wpAny_isSame_ref_self (wpAny_bind (wpAny_pure ?_)))
          simp only [if_true]
          refine wp_if_neg (by simp [same]) ?_
          refine bag_seek B hx hu hK hgap hocc hin hout f (c + (q + 1)) _ rfl (by omega) (by omega) fun e2 he2 ek2 => ?_
          obtain ⟨c', h1, h2, h3⟩ := hk e2 he2 ek2
          have h4 := pass hno e2 he2 ek2 c' h1 h2
          refine ⟨c', ?_, h2, h3⟩
          refine Classical.byContradiction fun hlt => same ?_
          have ec : c' = c + q := by omega
          subst ec
          obtain ⟨i2, hi2, ei2⟩ := List.mem_iff_getElem.mp he2
          obtain ⟨_, g2⟩ := B.at (show E[i2]? = some e2 by rw [List.getElem?_eq_getElem hi2, ei2])
          rw [← h2] at g2
          have l2 := slot_live B.ris g2
          rw [live] at l2
          injection l2 with l2
          subst l2
          rw [List.getElem?_eq_getElem hi2, ei2] at he
          cases he
          exact ek2
      by_cases hl : t.led = true
      · refine wp_if_neg (by simp [hl]) ?_
        try refine wpAny_bind (wpAny_pure ?_)
        exact go
      · refine wp_if_pos (by simp [hl]) (wpAny_bind (seen_tup hx (fun y hy => ?_) ?_))
        · obtain ⟨z, hz, rfl⟩ := List.mem_map.mp hy
          have hz2 : z ∈ es.toList := by
            have : z ∈ es ∧ z.1 = thash P w k := by simpa using hz
            simpa using this.1
          rw [B.ent] at hz2
          obtain ⟨e2, h1, rfl⟩ := List.mem_map.mp hz2
          exact ⟨e2.2.2, e2.2.1, rfl, B.tup e2 h1⟩
        · refine wp_if_neg (by decide) ?_
          try refine wpAny_bind (wpAny_pure ?_)
          exact go
    · have hpr' : t.probe (fun i => (es[i]?.map (·.1)).getD 0) (thash P w k) (st.getD (t.probeStart (thash P w k))) = some (.empty (way t.mask (thash P w k) K) none) := by
        have e2 := wy (K - c)
        rw [show c + (K - c) = K by omega] at e2
        rw [hst, ← e2]
        exact hpr
      rw [hpr']
      dsimp only
      refine wpAny_pure (hout fun hm => ?_)
      obtain ⟨e, he, ek⟩ := List.mem_map.mp hm
      obtain ⟨c', h1, h2, h3⟩ := hk e he ek
      have := pass hno e he ek c' h1 h2
      omega
theorem bag_search (B : Bag P w s.heap a E es ep t) {x : Addr} {k : List Int} (hx : IsT P w s.heap k x) (hu : A.units < cLine) {Q : SetFound → Shared → Prop} (hin : k ∈ E.map (·.2.2) → Q (.there none) s)
    (hout : ∀ K, k ∉ E.map (·.2.2) → way t.mask (thash P w k) K ∉ E.map (·.1) → (∀ c, c < K → way t.mask (thash P w k) c ∈ E.map (·.1)) → Q (.free (way t.mask (thash P w k) K) false) s) :
    wpAny (model P w) A (setSearch a (.ref x) (thash P w k) true) Q Ex s := by
  have hr := B.room
  obtain ⟨K, h1, h2, h3⟩ := way_gap B.msk (thash P w k) (ps := E.map (·.1)) (by rw [List.length_map]; omega)
  have small : 10 * SetTable.turns t.mask ≤ 6000 := by
    unfold SetTable.turns
    rcases B.msk with e | e | e | e <;> omega
  unfold setSearch
  refine bag_seek B hx hu h1 h2 h3 hin (fun hn => hout K hn h2 h3) 100000 0 none rfl (Nat.zero_le _) (by omega) fun e he ek => ?_
  obtain ⟨c, g1, g2⟩ := B.gd e he
  rw [ek] at g1 g2
  refine ⟨c, Nat.zero_le _, g1, Classical.byContradiction fun hlt => h2 ?_⟩
  by_cases q : c = K
  · rw [← q, g1]
    exact List.mem_map_of_mem (f := fun e : Ent => e.1) he
  · exact g2 K (by omega)
end
end Dv
namespace Dv
open PySem PySem.Spec PyProof.Rows L2
section
variable {P : Program} {w : World} {A : Around} {Ex : Value → Shared → Prop} {s : Shared} {a : Addr} {E : List Ent} {es : Array (Int × Value)} {ep : Nat} {t : SetTable}
structure Pre (P : Program) (w : World) (h : Heap) (a : Addr) (E : List Ent) (es : Array (Int × Value)) (ep : Nat) (t : SetTable) : Prop where
  ob : ∃ o, h.get? a = some o ∧ o.ExactSet ∧ o.data = .set es ep t
  ent : es.toList = E.map (entV P w)
  pl : t.place.toList = E.map (·.1)
  dm : t.dummies = #[]
  nd : (E.map (·.2.2)).Nodup
  tup : ∀ e ∈ E, IsT P w h e.2.2 e.2.1
  plain : t.plain = true
  led : w.params.followText "set-order" = true ∨ t.led = true
  fit : E.length ≤ t.mask
theorem relay_ok (B : Pre P w s.heap a E es ep t) {wanted M : Nat} (hw : SetTable.sizeAbove wanted = M + 1) (hM : MaskB M) (hn : E.length * 5 < M * 3) {Q : Unit → Shared → Prop}
    (hQ : ∀ h' E' es' ep' t', Heap.SameBut a s.heap h' → Bag P w h' a E' es' ep' t' → (E'.map (·.2)).Perm (E.map (·.2)) → Q () { s with heap := h' }) : wpAny (model P w) A (setRelay a wanted) Q Ex s := by
  obtain ⟨o, ho, hex, hd⟩ := B.ob
  have sz : es.size = E.length := by
    have := congrArg List.length B.ent
    rwa [Array.length_toList, List.length_map] at this
  have psz : t.place.size = es.size := by
    have := congrArg List.length B.pl
    rw [Array.length_toList, List.length_map] at this
    rw [this, sz]
  have hM1 : M ≤ 511 := by rcases hM with e | e | e | e <;> omega
  have hw1 : SetTable.sizeAbove wanted - 1 = M := by omega
  obtain ⟨ps, owner, ec, L⟩ := lay_clean hM (hs := es.map (·.1)) (by rw [Array.size_map, sz]; omega)
  obtain ⟨mem, ris, perm⟩ := lay_live L
  have hhs : (es.map (·.1)).toList = E.map fun e => thash P w e.2.2 := by
    rw [Array.toList_map, B.ent, List.map_map]
    rfl
  have hlen : (es.map (·.1)).toList.length = E.length := by rw [hhs, List.length_map]
  rw [hlen] at perm
  -- the entries anew
  let d0 : Ent := (0, 0, [])
  let live := liveOf M owner
  let E' : List Ent := live.map fun p => (p.1, (E.getD p.2 d0).2)
  have inL : ∀ p ∈ live, p.2 < E.length := fun p hp => by
    have := perm.mem_iff.mp (List.mem_map_of_mem (f := fun p : Nat × Nat => p.2) hp)
    exact List.mem_range.mp this
  have at' : ∀ i, i < E.length → es[i]? = some (entV P w (E.getD i d0)) := fun i hi => by
    rw [← Array.getElem?_toList, B.ent, List.getElem?_map, List.getElem?_eq_getElem hi]
    simp [List.getD, hi]
  have order : (((live.map (·.2)).toArray).filterMap (es[·]?)).toList = E'.map (entV P w) := by
    rw [Array.toList_filterMap]
    show (live.map (·.2)).filterMap (fun i => es[i]?) = _
    rw [List.filterMap_map]
    refine (fm_all (g := fun p => entV P w (E.getD p.2 d0)) fun p hp => at' p.2 (inL p hp)).trans ?_
    show _ = (live.map fun p => (p.1, (E.getD p.2 d0).2)).map (entV P w)
    rw [List.map_map]
    rfl
  have ofs : (((live.map (·.2)).toArray).filterMap (es[·]?)).size = es.size := by
    have := congrArg List.length order
    rw [Array.length_toList, List.length_map, List.length_map] at this
    rw [this, sz]
    have := perm.length_eq
    rw [List.length_map, List.length_range] at this
    exact this
  have E1 : E'.map (·.1) = live.map (·.1) := by
    rw [List.map_map]
    rfl
  have Ep : (E'.map (·.2)).Perm (E.map (·.2)) := by
    have e1 : E'.map (·.2) = (live.map (·.2)).map fun k => (E.getD k d0).2 := by
      rw [List.map_map, List.map_map]
      rfl
    rw [e1, ← map_range E d0 (·.2)]
    exact perm.map _
  have ren : t.relaid (es.map (·.1)) wanted = some (tabOf t M owner, (live.map (·.2)).toArray) := by
    rw [relaid_eq, hw1, ec]
    rfl
  rw [setRelay_eq]
  refine wpAny_bind (wpAny_setState_of ho hd (fits_of psz B.dm (by rw [sz]; exact B.fit)) ?_)
  dsimp only
  refine wp_if_neg (by rw [hw, sizeLine_eq]; omega) ?_
  try refine wpAny_bind (wpAny_pure ?_)
  rw [ren]
  dsimp only
  refine wpAny_bind (wp_if_neg (by rw [ofs]; simp) ?_)
  try refine wpAny_bind (wpAny_pure ?_)
  refine wpAny_pure ?_
  dsimp only
  have fewM : E.length ≤ 511 := by omega
  refine wpAny_storeSet_of ho hd ?_ (by rw [ofs, sz, sizeLine_eq]; omega)
  have sb : Heap.SameBut a s.heap (s.heap.update a (Obj.putSet (((live.map (·.2)).toArray).filterMap (es[·]?)) (tabOf t M owner))) := Heap.SameBut.update ..
  have back : ∀ e' ∈ E', ∃ e ∈ E, e'.2 = e.2 := fun e' h => by
    obtain ⟨e, h1, h2⟩ := List.mem_map.mp (Ep.mem_iff.mp (List.mem_map_of_mem (f := fun e : Ent => e.2) h))
    exact ⟨e, h1, h2.symm⟩
  refine hQ _ E' _ _ _ sb ⟨⟨_, store_at ho hd, ⟨hex.1, hex.2.1, hex.2.2⟩, rfl⟩, order, ?_, ?_, rfl, hM, fun e he => ?_, fun e he => ?_, ?_, fun e he => ?_, B.plain, B.led, ?_⟩ Ep
  · exact E1.symm
  · exact ris
  · have : e.1 ∈ live.map (·.1) := by rw [← E1]; exact List.mem_map_of_mem (f := fun e : Ent => e.1) he
    obtain ⟨jk, h1, e1⟩ := List.mem_map.mp this
    rw [← e1]
    exact L.le _ (List.mem_of_getElem? ((mem jk.1 jk.2).mp h1))
  · obtain ⟨jk, h1, rfl⟩ := List.mem_map.mp he
    obtain ⟨j, k⟩ := jk
    have hk : k < E.length := inL _ h1
    obtain ⟨c, g1, g2⟩ := L.gd k j (thash P w (E.getD k d0).2.2) ((mem j k).mp h1) (by
      rw [hhs, List.getElem?_map, List.getElem?_eq_getElem hk]
      simp [List.getD, hk])
    refine ⟨c, g1, fun c' hc => ?_⟩
    rw [E1]
    obtain ⟨i, hi, ei⟩ := List.mem_iff_getElem.mp (g2 c' hc)
    exact List.mem_map.mpr ⟨(way M (thash P w (E.getD k d0).2.2) c', i), (mem _ _).mpr (by rw [List.getElem?_eq_getElem hi, ei]), rfl⟩
  · have e0 : ∀ l : List Ent, l.map (·.2.2) = (l.map (·.2)).map (·.2) := fun l => by rw [List.map_map]; rfl
    have e1 := e0 E'
    have e2 := e0 E
    rw [e1, (Ep.map _).nodup_iff, ← e2]
    exact B.nd
  · obtain ⟨e2, h1, h2⟩ := back e he
    rw [h2]
    exact isT_same (B.tup e2 h1) ho hd sb
  · have := Ep.length_eq
    have e0 : ∀ l : List Ent, (l.map (·.2)).length = l.length := fun l => List.length_map ..
    rw [e0, e0] at this
    rw [this]
    exact hn
theorem mid_perm {α : Type} (l : List α) (p : Nat) (x : α) : (l.take p ++ x :: l.drop p).Perm (x :: l) := by
  have := (List.perm_middle (a := x) (l₁ := l.take p) (l₂ := l.drop p))
  rwa [List.take_append_drop] at this
theorem grow_to {m n : Nat} (hm : MaskB m) (h1 : n * 5 < m * 3) (h2 : m * 3 ≤ (n + 1) * 5) (h3 : n + 1 ≤ 300) : ∃ M, SetTable.sizeAbove (SetTable.grown (n + 1)) = M + 1 ∧ MaskB M ∧ (n + 1) * 5 < M * 3 := by
  rcases hm with e | e | e | e
  · have : n = 4 := by omega
    subst this
    exact ⟨31, by decide +kernel, .inr (.inl rfl), by omega⟩
  · have : n = 18 := by omega
    subst this
    exact ⟨127, by decide +kernel, .inr (.inr (.inl rfl)), by omega⟩
  · have : n = 76 := by omega
    subst this
    exact ⟨511, by decide +kernel, .inr (.inr (.inr rfl)), by omega⟩
  · omega
theorem bag_add (B : Bag P w s.heap a E es ep t) {x : Addr} {k : List Int} (hx : IsT P w s.heap k x) (hu : A.units < cLine) (few : E.length + 1 ≤ 300) {Q : Bool → Shared → Prop}
    (hQ : ∀ b h' E' es' ep' t', Heap.SameBut a s.heap h' → Bag P w h' a E' es' ep' t' → (k ∈ E.map (·.2.2) → E'.map (·.2) = E.map (·.2)) → (k ∉ E.map (·.2.2) → (E'.map (·.2)).Perm ((x, k) :: E.map (·.2))) → Q b { s with heap := h' }) :
    wpAny (model P w) A (setAddHashed a (.ref x) (thash P w k)) Q Ex s := by
  obtain ⟨o, ho, hex, hd⟩ := B.ob
  have hr := B.room
  unfold setAddHashed
  refine wpAny_holding ?_
  rw [show (100000 : Nat) = 99999 + 1 from rfl, setAddHashedIn_succ]
  refine wpAny_bind (wpAny_setState_of ho hd B.fits ?_)
  dsimp only
  refine wp_if_neg (by simp [byScan, Value.scannable]) ?_
  try refine wpAny_bind (wpAny_pure ?_)
  refine wpAny_bind (bag_search B hx hu (fun hm => ?_) fun K hm hK hb => ?_)
  · dsimp only
    exact wpAny_pure (hQ false s.heap E es ep t (Heap.SameBut.refl a s.heap) B (fun _ => rfl) fun z => absurd hm z)
  · dsimp only
    refine wpAny_bind (wpAny_setState_of ho hd B.fits ?_)
    dsimp only
    -- the slot, the place in the row
    generalize hj : way t.mask (thash P w k) K = j at hK ⊢
    have hjm : j ≤ t.mask := by rw [← hj]; exact way_in _ _ _
    generalize hp : SetTable.below t.place j = p
    have hps : (t.put j).2 = p := hp
    have hpp : (t.put j).1.place.toList = (E.map (·.1)).take p ++ (j :: (E.map (·.1)).drop p) := by
      have := put_place t j
      rw [hp, B.pl] at this
      exact this
    have hpd : (t.put j).1.dummies = #[] := put_dm B.dm j
    have hpr : Ris (t.put j).1.place.toList := ris_insert B.ris fun e => hK (by
      have := List.mem_of_getElem? (show t.place.toList[SetTable.below t.place j]? = some j by rw [Array.getElem?_toList]; exact e)
      rwa [B.pl] at this)
    have hpm : (t.put j).1.mask = t.mask := rfl
    have hpl : (t.put j).1.plain = true := B.plain
    have hld : w.params.followText "set-order" = true ∨ (t.put j).1.led = true := B.led
    rcases hpt : t.put j with ⟨t1, p1⟩
    rw [hpt] at hps hpp hpd hpr hpm hpl hld
    dsimp only at hps hpp hpd hpr hpm hpl hld ⊢
    subst hps
    first
      | (refine wpAny_bind ?_; refine wp_if_pos hpl ?_; refine hashBy_tup hx ?_)
      | refine wp_if_pos hpl (wpAny_bind (hashBy_tup hx ?_))
    simp only [if_true]
    have ent1 : (SetTable.insertAt es p1 (thash P w k, Value.ref x)).toList = (E.take p1 ++ (j, x, k) :: E.drop p1).map (entV P w) := by
      rw [SetTable.toList_insertAt, B.ent, List.map_append, List.map_cons, List.map_take, List.map_drop]
    have pl1 : t1.place.toList = (E.take p1 ++ (j, x, k) :: E.drop p1).map (·.1) := by
      rw [hpp, List.map_append, List.map_cons, List.map_take, List.map_drop]
    have pm : (E.take p1 ++ (j, x, k) :: E.drop p1).Perm ((j, x, k) :: E) := mid_perm E p1 (j, x, k)
    generalize E.take p1 ++ (j, x, k) :: E.drop p1 = E1 at ent1 pl1 pm
    have len1 : E1.length = E.length + 1 := pm.length_eq
    have sz1 : (SetTable.insertAt es p1 (thash P w k, Value.ref x)).size = E.length + 1 := by
      have := congrArg List.length ent1
      rwa [Array.length_toList, List.length_map, len1] at this
    generalize SetTable.insertAt es p1 (thash P w k, Value.ref x) = es1 at ent1 sz1 ⊢
    refine wpAny_bind (wpAny_storeSet_of ho hd ?_ (by rw [sz1, sizeLine_eq]; omega))
    have sb : Heap.SameBut a s.heap (s.heap.update a (Obj.putSet es1 t1)) := Heap.SameBut.update ..
    have ho1 := store_at (es' := es1) (t' := t1) ho hd
    generalize s.heap.update a (Obj.putSet es1 t1) = h1 at sb ho1 ⊢
    have nd1 : (E1.map (·.2.2)).Nodup := by
      rw [(pm.map (fun e : Ent => e.2.2)).nodup_iff, List.map_cons]
      exact List.nodup_cons.mpr ⟨hm, B.nd⟩
    have tup1 : ∀ e ∈ E1, IsT P w h1 e.2.2 e.2.1 := fun e he => by
      rcases List.mem_cons.mp (pm.mem_iff.mp he) with rfl | q
      · exact isT_same hx ho hd sb
      · exact isT_same (B.tup e q) ho hd sb
    have fill1 : t1.fill = E.length + 1 := by
      have := congrArg List.length pl1
      rw [Array.length_toList, List.length_map, len1] at this
      show t1.place.size + t1.dummies.size = _
      rw [this, hpd]
      rfl
    have pm2 : (E1.map (·.2)).Perm ((x, k) :: E.map (·.2)) := pm.map (fun e : Ent => e.2)
    have ex1 : Obj.ExactSet _ := hex
    by_cases hf : t1.tooFull = true
    · first
        | (refine wpAny_bind ?_; refine wp_if_pos (by simp [hf]) ?_)
        | (refine wp_if_pos (by simp [hf]) ?_; refine wpAny_bind ?_)
      have full : t1.mask * 3 ≤ (E.length + 1) * 5 := by
        have q := hf
        unfold SetTable.tooFull at q
        rw [decide_eq_true_eq, fill1] at q
        exact q
      rw [hpm] at full
      obtain ⟨M, m1, m2, m3⟩ := grow_to B.msk hr full few
      rw [B.size]
      refine relay_ok (s := { s with heap := h1 }) (E := E1) (t := t1) ⟨⟨_, ho1, ⟨hex.1, hex.2.1, hex.2.2⟩, rfl⟩, ent1, pl1, hpd, nd1, tup1, hpl, hld, by rw [len1, hpm]; omega⟩ m1 m2 (by rw [len1]; exact m3) fun h' E' es' ep' t' sb' B' pm' => ?_
      exact wpAny_pure (hQ true h' E' es' ep' t' (sb.trans sb') B' (fun z => absurd z hm) fun _ => pm'.trans pm2)
    · first
        | refine wp_if_neg (by simp [hf]) ?_
        | (refine wpAny_bind ?_; refine wp_if_neg (by simp [hf]) ?_; refine wpAny_pure ?_)
      have up : ∀ {z : Nat}, z ∈ E.map (·.1) → z ∈ E1.map (·.1) := fun {z} hz => by
        obtain ⟨e, h1, h2⟩ := List.mem_map.mp hz
        exact List.mem_map.mpr ⟨e, pm.mem_iff.mpr (List.mem_cons_of_mem _ h1), h2⟩
      refine wpAny_pure (hQ true h1 E1 es1 (ep + 1) t1 sb ⟨⟨_, ho1, ⟨hex.1, hex.2.1, hex.2.2⟩, rfl⟩, ent1, pl1, hpr, hpd, by rw [hpm]; exact B.msk, fun e he => ?_, fun e he => ?_, nd1, tup1, hpl, hld, ?_⟩ (fun z => absurd z hm) fun _ => pm2)
      · rw [hpm]
        rcases List.mem_cons.mp (pm.mem_iff.mp he) with rfl | q
        · exact hjm
        · exact B.le e q
      · rw [hpm]
        rcases List.mem_cons.mp (pm.mem_iff.mp he) with rfl | q
        · exact ⟨K, hj, fun c' hc => up (hb c' hc)⟩
        · obtain ⟨c, g1, g2⟩ := B.gd e q
          exact ⟨c, g1, fun c' hc => up (g2 c' hc)⟩
      · have q := hf
        unfold SetTable.tooFull at q
        rw [decide_eq_true_eq, fill1] at q
        rw [len1]
        omega
end
end Dv
namespace Dv
open PySem PySem.Spec PyProof.Rows L2
section
variable {P : Program} {w : World} {A : Around} {Ex : Value → Shared → Prop} {s : Shared}
end
end Dv
namespace Dv
open PySem PySem.Spec PyProof.Rows L2
abbrev MEnt := Nat × Addr × List Key
section
variable {P : Program} {w : World} {A : Around} {Ex : Value → Shared → Prop} {s : Shared} {a : Addr} {E : List MEnt} {es : Array (Int × Value)} {ep : Nat} {t : SetTable} {h : Heap}
end
end Dv
namespace Dv
open PySem PySem.Spec PyProof.Rows L2
section
variable {P : Program} {w : World} {A : Around} {Ex : Value → Shared → Prop} {s : Shared} {a : Addr} {E : List MEnt} {es : Array (Int × Value)} {ep : Nat} {t : SetTable}
end
end Dv
namespace Dv
open PySem PySem.Spec PyProof.Rows L2
section
variable {P : Program} {w : World} {A : Around} {s : Shared}
end
end Dv
namespace Dv
open PySem PySem.Spec PyProof.Rows L2
abbrev set0 (w : World) : Obj := { cls := .type "set", dict := none, data := .set #[] 0 (.fresh 0 0 (!(w.params.followText "set-order"))) }
structure Coll (P : Program) (w : World) (K : PySem.W.Frag) where
  new : Addr → HO
  add : Addr → V → Hp → (Hp → Prop) → Prop
  fresh : ∀ (H : Hp) (h : Heap) (a : Addr), h.get? a = some (set0 w) → ObjOk P w H h a (new a)
  adds : ∀ (X : Cx), X.prog = P → X.w = w → X.K = K → X.A.units + 65 < cLine → ∀ (pins : List (Addr × Obj)) (s : Shared) (g : L2.St) (H : Hp) (D : Addr) (y : V) (v : Value) (M : Hp → Prop) (E : Value → Shared → Prop), Inv X pins g H s → RelV y v → add D y H M →
    wpAny (model P w) X.A (call (.builtin "set.add") [.ref D, v]) (fun _ s' => ∃ H', Inv X pins g H' s' ∧ M H') E s
def tSc {P : Program} {w : World} {K : PySem.W.Frag} (C : Coll P w K) (wi : TI) (gt : TG) (tt : TT) (te : TE) (vs : List Nat) : TE := fun g H Q => wi g H fun J H1 => ∀ D, H1 D = none →
  ∃ W : Nat → Nat → Hp → Prop, (∃ m, W 0 m (upd H1 D (C.new D))) ∧ ∀ i m H, W i m H → (J.stop i H ∧ Q (.ref D) H) ∨
    (J.go i H ∧ ∃ M : Hp → Prop, (∀ H', M H' → ∃ m', m' < m ∧ W (i + 1) m' H') ∧ ∀ x H', J.yld i H x H' → gt x (wipe g vs) H' fun g2 H2 => wipe g2 vs = wipe g vs ∧ tt g2 H2 fun b H3 => if b = true then te g2 H3 fun y H4 => C.add D y H4 M else M H3)
section
variable {X : Cx} {elt tg iter : Expr} {ifs : List Expr} {scope : Scope} {own : List (Str × Nat)} {pos : Pos} {wi : TI} {gt : TG} {tt : TT} {te : TE}
theorem sc_turns {BX : Cx} (C : Coll BX.prog BX.w BX.K) (hc : BX.calm = true) (hu : BX.A.units + 65 < cLine) (hex : BX.pn = []) {J : It} {fp : List Addr} {it D : Addr} {tn : Nat → Heap → Prop} (T : Turn BX.prog BX.w BX.K tg J fp it tn)
    (pg : PG BX tg gt) (pt : PTs BX ifs tt) (pe : PE BX elt te) {vs : List Nat} {g : L2.St} {W : Nat → Nat → Hp → Prop} {R : Result → Shared → Prop} {Qd : Hp → Prop} {scp : Scope} {ps : Pos}
    (fpo : ∀ {g' : L2.St} {H' : Hp} {s' : Shared}, Inv BX [] g' H' s' → (∀ b ∈ fp, H' b = none) → ∀ b ∈ fp, FpOk BX [] H' b)
    (turn : ∀ i m H, W i m H → (J.stop i H ∧ Qd H) ∨ (J.go i H ∧ ∃ M : Hp → Prop, (∀ H', M H' → ∃ m', m' < m ∧ W (i + 1) m' H') ∧ ∀ x H', J.yld i H x H' → gt x (wipe g vs) H' fun g2 H2 => wipe g2 vs = wipe g vs ∧ tt g2 H2 fun b H3 => if b = true then te g2 H3 fun y H4 => C.add D y H4 M else M H3))
    (fin : ∀ s' H', Inv BX [] (wipe g vs) H' s' → (∀ b ∈ fp, H' b = none) → Qd H' → R (.ok .next) s') {s0 : Shared} {H0 : Hp} {m0 : Nat} (I0 : Inv BX [] (wipe g vs) H0 s0) (t0 : tn 0 s0.heap) (n0 : ∀ b ∈ fp, H0 b = none) (w0 : W 0 m0 H0) (hx : BX.xe = fun _ _ => False) :
    codeAny (model BX.prog BX.w) BX.A (.compLoop (.SetComp elt [⟨tg, iter, ifs, 0⟩] scp ps) 0 (.ref it) (.ref D) BX.env) R s0 := by
  refine compLoop_set_any (fun m s => ∃ i H, W i m H ∧ Inv BX [] (wipe g vs) H s ∧ tn i s.heap ∧ ∀ b ∈ fp, H b = none) ?_ m0 ⟨0, H0, w0, I0, t0, n0⟩
  rintro m s1 ⟨i, H1, w1, I1, t1, n1⟩
  rcases turn i m H1 w1 with ⟨h1, h2⟩ | ⟨h1, M, hM, step⟩
  · refine thnF (T.done BX rfl rfl rfl hc i [] s1 _ H1 (fun _ _ => False) I1 (fpo I1 n1) t1 h1) fun r s2 ⟨er, I2⟩ => ?_
    subst er
    exact fin s2 H1 I2 n1 h2
  · refine thnF (T.item BX rfl rfl rfl hc i [] s1 _ H1 (fun _ _ => False) I1 (fpo I1 n1) t1 h1) fun r s2 ⟨u, er, q2⟩ => ?_
    subst er
    refine thnF q2 fun _ s3 ⟨x, H3, I3, r3, y3, t3, n3⟩ => ?_
    have I3' := I3.pinned (fpo I3 n3) (T.obj _ _ t3)
    -- what the turn leaves
    have leave : ∀ {g' : L2.St} {s' : Shared} {H' : Hp}, wipe g' vs = wipe g vs → Inv BX ([] ++ pinsAt fp s3.heap) g' H' s' → M H' → ∃ m', m' < m ∧ ∃ i H, W i m' H ∧ Inv BX [] (wipe g vs) H s' ∧ tn i s'.heap ∧ ∀ b ∈ fp, H b = none := fun {g' s' H'} hw I' hm => by
      obtain ⟨m', k1, k2⟩ := hM H' hm
      have still : ∀ b ∈ fp, ∀ o, s3.heap.get? b = some o → s'.heap.get? b = some o ∧ H' b = none := fun b hb o e => by
        have z := I'.pin (b, o) (List.mem_append_right _ (List.mem_append_right _ (mem_pinsAt hb e)))
        exact ⟨z.1, z.2.1⟩
      have len : (wipe g vs).length = g'.length := by rw [← hw, wipe_length]
      refine ⟨m', k1, i + 1, H', k2, I'.unpinned.weak len fun j v e => ?_, T.keep _ _ _ t3 fun b hb o e => (still b hb o e).1, fun b hb => ?_⟩
      · rw [← hw] at e
        exact (wipe_some e).1
      · obtain ⟨o, e, _⟩ := T.obj _ _ t3 b hb
        exact (still b hb o e).2
    have no : ∀ {α : Type} {t : Sem α} {Q Q' : α → Shared → Prop} {E' : Value → Shared → Prop} {s : Shared}, wpAny (model BX.prog BX.w) BX.A t Q BX.xe s → (∀ a s, Q a s → Q' a s) → wpAny (model BX.prog BX.w) BX.A t Q' E' s := fun h k => wpAny_mono h k fun e s z => by
      rw [hx] at z
      exact z.elim
    refine no (pg.run _ s3 _ H3 x u _ I3' r3 (step x H3 y3)) fun _ s4 ⟨g4, H4, I4, hw4, q4⟩ => ?_
    refine no (pt.run _ s4 g4 H4 _ I4 q4) fun b s5 ⟨H5, I5, q5⟩ => ?_
    cases b with
    | false =>
      rw [if_neg Bool.false_ne_true] at q5 ⊢
      exact leave hw4 I5 q5
    | true =>
      rw [if_pos rfl] at q5 ⊢
      refine no (pe.run _ s5 g4 H5 _ I5 q5) fun v s6 ⟨y, H6, I6, r6, q6⟩ => ?_
      exact thnF (C.adds BX rfl rfl rfl hu _ s6 g4 H6 D y v M (fun _ _ => False) I6 r6 q6) fun _ s7 ⟨H7, I7, q7⟩ => leave hw4 I7 q7
theorem pe_scG (C : Coll X.prog X.w X.K) (hc : X.calm = true) (hu : X.A.units + 65 < cLine) (hN : X.N.Nodup) (hi : PI X tg iter wi) (ok : BlkOk X.N X.env.scope scope own)
    (hg : ∀ (s : Shared) (H : Hp) (Cl : Addr) (cl : List (Str × Addr)) (fp : List Addr), PG (X.blk s H scope (compEnvC scope cl Cl X.env) fp) tg gt) (ht : ∀ (s : Shared) (H : Hp) (Cl : Addr) (cl : List (Str × Addr)) (fp : List Addr), PTs (X.blk s H scope (compEnvC scope cl Cl X.env) fp) ifs tt)
    (he : ∀ (s : Shared) (H : Hp) (Cl : Addr) (cl : List (Str × Addr)) (fp : List Addr), PE (X.blk s H scope (compEnvC scope cl Cl X.env) fp) elt te) (hs : ∀ x, foldedSetIterable iter X.env x = pure x := by intro _; rfl) :
    PE X (.SetComp elt [⟨tg, iter, ifs, 0⟩] scope pos) (tSc C wi gt tt te (own.map (·.2))) := by
  refine ⟨fun pins s g H Q I h => ?_⟩
  rw [arm_eval_SetComp]
  have clo := closure_ok fun y hy e => (ok.free y hy e).elim (fun k => I.ok.has _ (.inl k)) fun k => I.ok.has _ (.inr k)
  refine wpAny_comprehension_free (use := none) rfl hs clo ok.kind (fun y hy e => by rw [ok.uniq y hy, e]) (thn (hi.run pins s g H _ I h) fun v s1 h1 => thn h1 fun itv s2 h2 => ?_)
  obtain ⟨it, fp, tn, J, H2, rfl, I2, T, t2, f2, q⟩ := h2
  refine wpAny_newSet_raw fun led hled => newEnv_comp ?_
  subst hled
  -- the new set at D
  obtain ⟨D, hD⟩ : ∃ D, D = s2.heap.objs.size := ⟨_, rfl⟩
  rw [← hD]
  have hDn : H2 D = none := I2.hok.fresh (Nat.le_of_eq hD.symm)
  obtain ⟨W, ⟨m0, w0⟩, turn⟩ := q D hDn
  have lt : ∀ b ∈ fp, b < s2.heap.objs.size := fun b hb => by
    obtain ⟨o, e, _⟩ := T.obj _ _ t2 b hb
    exact Heap.lt_size e
  obtain ⟨s3, hs3⟩ : ∃ s3 : Shared, s3 = { s2 with heap := s2.heap.push (set0 X.w) } := ⟨_, rfl⟩
  have up : ∀ b o, s2.heap.get? b = some o → s3.heap.get? b = some o := fun b o e => by rw [hs3]; exact Heap.get?_push_of_some _ e
  have I3 : Inv X pins g (upd H2 D (C.new D)) s3 := by
    rw [hs3]
    exact I2.laid (t' := s2.toks) (fun b o e => Heap.get?_push_of_some _ e) (Nat.le_of_eq hD.symm) (C.fresh _ _ _ (by rw [hD]; exact Heap.get?_push_size _ rfl))
  have f3 : ∀ b ∈ fp, FpOk X pins (upd H2 D (C.new D)) b ∧ b < s3.heap.objs.size := fun b hb => by
    have l := lt b hb
    refine ⟨⟨?_, (f2 b hb).2⟩, by rw [hs3]; show b < (s2.heap.push _).objs.size; rw [Heap.size_push]; exact Nat.lt_succ_of_lt l⟩
    rw [upd_ne (show b ≠ D by rw [hD]; exact Nat.ne_of_lt l)]
    exact (f2 b hb).1
  have n3 : ∀ b ∈ fp, (upd H2 D (C.new D)) b = none := fun b hb => (f3 b hb).1.1
  have I4 := block_start I3 ok hN f3
  generalize hH3 : upd H2 D (C.new D) = H3 at I3 f3 n3 I4 w0
  generalize hcl : cellsFrom (s3.heap.objs.size + 1) scope.names (cloFrom X.env.cells scope.names []) = cl at I4
  have es3 : s3.heap.objs.size = (s2.heap.push (set0 X.w)).objs.size := by rw [hs3]
  have hce : (compEnvC scope cl s3.heap.objs.size X.env).locals = s3.heap.objs.size := rfl
  have t4 : tn 0 (pushCells (s3.heap.push { cls := .type "dict", data := .dict #[] }) scope.names) := T.keep _ _ _ t2 fun b _ o e => pushCells_keeps _ _ _ _ (Heap.get?_push_of_some _ (up b o e))
  have key : codeAny (model X.prog X.w) X.A (.compLoop (.SetComp elt [⟨tg, iter, ifs, 0⟩] scope pos) 0 (.ref it) (.ref D) (compEnvC scope cl s3.heap.objs.size X.env)) (compPost (model X.prog X.w) X.A X.xe none (fun v s' => ∃ x H', Inv X pins g H' s' ∧ RelV x v ∧ Q x H') (.ref D) s3.heap.objs.size)
      { s3 with heap := pushCells (s3.heap.push { cls := .type "dict", data := .dict #[] }) scope.names } := by
    refine sc_turns (BX := X.blk s3 H3 scope (compEnvC scope cl s3.heap.objs.size X.env) fp) C hc hu rfl T (hg _ _ _ _ _) (ht _ _ _ _ _) (he _ _ _ _ _) (vs := own.map (·.2)) (g := g) (W := W) (Qd := Q (.ref D)) (fun {g' H' s'} I' hn b hb => ?_) turn (fun s' H' I' hn hq => ?_) I4 t4 n3 w0 rfl
    · exact ⟨hn b hb, (I'.ok.exf b hb).1, I'.ok.exfs b hb, .inl hb, fun x c e => (I'.ok.exf b hb).2 x c e, fun p hp => absurd (show p ∈ ([] : List (Addr × Obj)) ++ [] from hp) (by simp)⟩
    · have I5 : Inv X pins g H' s' := I3.call' (ch := fp) I'.os I'.base I'.hok I'.bare fun b hb => ⟨(f3 b hb).1.2.2.2.1, (f3 b hb).1.2.1, (f3 b hb).1.2.2.2.2.1, (f3 b hb).1.2.2.2.2.2⟩
      have nC : H' s3.heap.objs.size = none := I'.free
      obtain ⟨mm, hn5, _⟩ := I'.loc
      have hn5 : s'.heap.Ns s3.heap.objs.size mm := hn5
      obtain ⟨k0, k1, k2, k3, k4, k5⟩ := I3.fpOk (Nat.le_refl _) nC
      exact ⟨mm, hn5, fun h'' sb => ⟨.ref D, H', I5.turned (t' := s'.toks) (fun b o hb e => (sb.2 b hb).trans e) k0 k1 k3 k4 k5, rfl, hq⟩⟩
  subst hcl
  rw [hs3] at key t4
  exact codeAny_compStart_set key (T.self X.A 0 _ _ _ t4 key)
end
end Dv
namespace Dv
open PySem PySem.Spec PyProof.Rows L2
section
variable {P : Program} {w : World} {K : PySem.W.Frag} {h : Heap} {a : Addr} {L : List (Addr × List Int)}
def BagH (P : Program) (w : World) (h : Heap) (a : Addr) (L : List (Addr × List Int)) : Prop := ∃ E es ep t o, E.map (·.2) = L ∧ h.get? a = some o ∧ ∀ h2 : Heap, h2.get? a = some o → (∀ p ∈ L, IsT P w h2 p.2 p.1) → Bag P w h2 a E es ep t
def BagO (P : Program) (w : World) (a : Addr) (L : List (Addr × List Int)) : HO := .ext fun h => BagH P w h a L
theorem Bag.told {E : List Ent} {es : Array (Int × Value)} {ep : Nat} {t : SetTable} (B : Bag P w h a E es ep t) : BagH P w h a (E.map (·.2)) := by
  obtain ⟨o, h1, h2, h3⟩ := B.ob
  exact ⟨E, es, ep, t, o, rfl, h1, fun g hg ht => ⟨⟨o, hg, h2, h3⟩, B.ent, B.pl, B.ris, B.dm, B.msk, B.le, B.gd, B.nd, fun e he => ht _ (List.mem_map_of_mem (f := fun e : Ent => e.2) he), B.plain, B.led, B.room⟩⟩
theorem BagH.keep {h2 : Heap} (B : BagH P w h a L) (k : ∀ o, h.get? a = some o → h2.get? a = some o) : BagH P w h2 a L := by
  obtain ⟨E, es, ep, t, o, e, ho, q⟩ := B
  exact ⟨E, es, ep, t, o, e, k o ho, q⟩
theorem BagH.obj (B : BagH P w h a L) : ∃ o, h.get? a = some o := by
  obtain ⟨E, es, ep, t, o, e, ho, q⟩ := B
  exact ⟨o, ho⟩
theorem bagO_ok {H : Hp} (B : BagH P w h a L) : ObjOk P w H h a (BagO P w a L) := ⟨B, B.obj, fun h1 h2 q k => BagH.keep q k⟩
theorem bag_new (ho : h.get? a = some (set0 w)) : Bag P w h a [] #[] 0 (.fresh 0 0 (!(w.params.followText "set-order"))) where
  ob := ⟨_, ho, ⟨rfl, rfl, rfl⟩, rfl⟩
  ent := rfl
  pl := rfl
  ris := List.Pairwise.nil
  dm := rfl
  msk := .inl rfl
  le := fun _ h => by cases h
  gd := fun _ h => by cases h
  nd := List.nodup_nil
  tup := fun _ h => by cases h
  plain := rfl
  led := by
    cases q : w.params.followText "set-order"
    · exact .inr rfl
    · exact .inl rfl
  room := show 0 * 5 < 7 * 3 by decide
def rowsC (P : Program) (w : World) (K : PySem.W.Frag) : Coll P w K where
  new := fun a => BagO P w a []
  add := fun D y H M => ∃ L x k, y = .ref x ∧ H D = some (BagO P w D L) ∧ SqT K H x (k.map V.int) ∧ (∀ p ∈ L, SqT K H p.1 (p.2.map V.int)) ∧ L.length + 1 ≤ 300 ∧ ∀ L', (k ∈ L.map (·.2) ∧ L' = L) ∨ (k ∉ L.map (·.2) ∧ L'.Perm ((x, k) :: L)) → M (upd H D (BagO P w D L'))
  fresh := fun H h a e => bagO_ok (by
    have := (bag_new (P := P) e).told
    exact this)
  adds := fun X e1 e2 e3 hu pins s g H D y v M E I r q => by
    subst e1 e2 e3
    obtain ⟨L, x, k, rfl, hD, hx, hL, few, hM⟩ := q
    cases r
    have hix := I.isT hx
    obtain ⟨Et, es, ep, t, o, eL, ho, hB⟩ := (I.hok D _ hD).1
    have B : Bag X.prog X.w s.heap D Et es ep t := hB s.heap ho fun p hp => I.isT (hL p hp)
    have hl : Et.length = L.length := by rw [← eL, List.length_map]
    obtain ⟨o', ho', hex, _⟩ := B.ob
    refine wpAny_call_entry F.slot_set_add ⟨o', ho', hex.1⟩ F.entry_set_add ?_ (F.args_set_add_2 _ _)
    unfold Builtin.«set.add» Builtin.Frozenset.oneOther
    simp only [List.isEmpty_nil, bind_assoc]
    unfold Builtin.Frozenset.addrOf setAdd
    refine wpAny_bind (wpAny_pure ?_)
    try dsimp only
    refine wpAny_bind (wpAny_pure ?_)
    try dsimp only
    refine wpAny_bind (wpAny_holding (wpAny_bind (wpAny_pyHash_tuple (by show X.A.units + 1 < cLine; omega) hix ?_)))
    refine bag_add (s := { s with toks := s.toks + (k.length + 1) }) B hix (by show X.A.units + 1 < cLine; omega) (by omega) fun b h' E' es' ep' t' sb B' c1 c2 => ?_
    show wpAny _ _ (ret Value.none) _ _ _
    have keys : Et.map (·.2.2) = L.map (·.2) := by rw [← eL, List.map_map]; rfl
    rw [keys, eL] at c1 c2
    refine wpAny_pure ⟨_, rfl, upd H D (BagO X.prog X.w D (E'.map (·.2))), I.write (e := D) (t' := s.toks + (k.length + 1)) (by rw [hD]; trivial) (.inl rfl) (fun b u hb e => (sb.2 b hb).trans e) B'.told.obj (bagO_ok B'.told), hM _ ?_⟩
    by_cases c : k ∈ L.map (·.2)
    · exact .inl ⟨c, c1 c⟩
    · exact .inr ⟨c, c2 c⟩
end
def rSortBag (P : Program) (w : World) (K : PySem.W.Frag) : List V → Hp → VK → Prop := fun vs H Q => ∃ (a : Addr) (L : List (Addr × List Int)), vs = [V.ref a] ∧ H a = some (BagO P w a L) ∧ (∀ p ∈ L, SqT K H p.1 (p.2.map V.int)) ∧ (2 ≤ L.length → ∀ p ∈ L, p.2 ≠ []) ∧ L.length ≤ 300 ∧
  ∀ (ys : List (Addr × List Int)) p, ys.Perm L → ys.Pairwise (fun u v => ltR v.2 u.2 = false) → H p = none → Q (.ref p) (upd H p (.lst (ys.map fun y => V.ref y.1)))
theorem perm_refs {us ws : List Value} (pm : us.Perm ws) : ∀ L : List (Addr × List Int), ws = L.map (fun p => Value.ref p.1) → ∃ L1 : List (Addr × List Int), L1.Perm L ∧ us = L1.map fun p => Value.ref p.1 := by
  induction pm with
  | nil => exact fun L e => ⟨[], by rw [List.map_eq_nil_iff.mp e.symm], rfl⟩
  | cons x _ ih =>
    intro L e
    cases L with
    | nil => cases e
    | cons p L =>
      rw [List.map_cons, List.cons.injEq] at e
      obtain ⟨L1, h1, h2⟩ := ih L e.2
      exact ⟨p :: L1, h1.cons p, by rw [List.map_cons, h2, e.1]⟩
  | swap x y l =>
    intro L e
    cases L with
    | nil => cases e
    | cons p L =>
      cases L with
      | nil => cases e
      | cons p2 L =>
        rw [List.map_cons, List.map_cons, List.cons.injEq, List.cons.injEq] at e
        exact ⟨p2 :: p :: L, List.Perm.swap .., by rw [List.map_cons, List.map_cons, e.1, e.2.1, e.2.2]⟩
  | trans _ _ ih1 ih2 =>
    intro L e
    obtain ⟨L2, h1, h2⟩ := ih2 L e
    obtain ⟨L1, h3, h4⟩ := ih1 L2 h2
    exact ⟨L1, h3.trans h1, h4⟩
theorem cr_sortBag {X : Cx} (hc : X.calm = true) : CallR X (.builtin "sorted") (rSortBag X.prog X.w X.K) := by
  intro pins s g H vs us Q I r h
  obtain ⟨a, L, rfl, ha, hL, hne, few, q⟩ := h
  rw [Vals.ref1 r]
  obtain ⟨Et, es, ep, t, o, eL, ho, hB⟩ := (I.hok a _ ha).1
  have hit : ∀ p ∈ L, IsT X.prog X.w s.heap p.2 p.1 := fun p hp => I.isT (hL p hp)
  have B : Bag X.prog X.w s.heap a Et es ep t := hB s.heap ho hit
  obtain ⟨o', ho', hex, hd⟩ := B.ob
  have hl : es.size = L.length := by rw [B.size, ← eL, List.length_map]
  refine Calls.call_function_entry kind_sorted plain_sorted entry_sorted (args_sorted1 _) ?_
  unfold Builtin.«sorted»
  refine wpAny_bind (m := checkCount "sorted" 1 1 _) (wpAny_pure ?_)
  refine wpAny_bind (collect_set (A := X.A.in1) (by simp [I.ok.hd hc]) ⟨o', ho', hex.1, hd⟩ B.fits (by unfold scanBound; omega) B.ris B.led fun s1 us k1 hz g1 o1 pm => ?_)
  have vals : es.toList.map (·.2) = L.map fun p => Value.ref p.1 := by
    rw [B.ent, ← eL, List.map_map, List.map_map]
    rfl
  rw [vals] at pm
  obtain ⟨L1, pL1, rfl⟩ := perm_refs pm L rfl
  have lenL : L1.length = L.length := pL1.length_eq
  have lsz : (L1.map fun p => Value.ref p.1).length ≤ sizeLine := by rw [List.length_map, lenL, sizeLine_eq]; omega
  refine wpAny_bind (wpAny_newList ?_ lsz)
  have tin : ∀ p ∈ L1, TS.TupInts s.heap (.ref p.1) p.2 := fun p hp => tupInts_of (hit p (pL1.mem_iff.mp hp))
  have hoL : (s1.heap.push (seqObj "list" (L1.map fun p => Value.ref p.1).toArray 0)).get? s1.heap.objs.size = some (seqObj "list" (L1.map fun p => Value.ref p.1).toArray 0) := Heap.get?_push_size _ rfl
  have up1 : ∀ b o, s.heap.get? b = some o → (s1.heap.push (seqObj "list" (L1.map fun p => Value.ref p.1).toArray 0)).get? b = some o := fun b o e => Heap.get?_push_of_some _ (k1 b o e)
  refine wpAny_bind (wpAny_holding (wpAny_call_entry slot_list_sort ⟨_, hoL, rfl⟩ entry_list_sort (SrtO.list_sort_ord (ltv := fun v u => ltR (TS.intsOf s.heap v) (TS.intsOf s.heap u)) ⟨fun x y => ltR_swo.asym _ _, fun x y z => ltR_swo.tr _ _ _⟩ hoL lsz (fun h2 => ?_) fun out hs hb => ⟨_, rfl, ?_⟩) (args_list_sort _)))
  · rw [List.length_map, lenL] at h2
    refine rows_sortable (h0 := s.heap) (fun v hv => ?_) (by rw [List.length_map, lenL]; exact h2) (fun o e => ?_) fun v hv ns tt => ?_
    · obtain ⟨p, hp, rfl⟩ := List.mem_map.mp hv
      exact ⟨p.2, (tin p hp).keeps fun b o e _ => up1 b o e, hne h2 p (pL1.mem_iff.mp hp)⟩
    · have e' : some o = some (seqObj "list" (L1.map fun p => Value.ref p.1).toArray 0) := e.symm.trans hoL
      cases e'
      intro c
      exact absurd (Value.type.inj c) (by decide)
    · obtain ⟨p, hp, rfl⟩ := List.mem_map.mp hv
      have t1 := tin p hp
      have t2 := t1.keeps (h' := s1.heap.push (seqObj "list" (L1.map fun p => Value.ref p.1).toArray 0)) fun b o e _ => up1 b o e
      rw [t1.ints, ← t2.ints]
      exact tt.ints
  · obtain ⟨c, hcc⟩ := sortedHeap_at (vs := L1.map fun p => Value.ref p.1) (out := out.toArray) hoL
    have po : out.Perm (L1.map fun p => Value.ref p.1) := hb.perm
    obtain ⟨L2, pL2, rfl⟩ := perm_refs po L1 rfl
    have sd : L2.Pairwise fun u v => ltR v.2 u.2 = false := by
      have hs' : (L2.map fun p => Value.ref p.1).Pairwise fun u v => ltR (TS.intsOf s.heap v) (TS.intsOf s.heap u) = false := hs
      refine (List.pairwise_map.mp hs').imp_of_mem fun {u v} hu hv hq => ?_
      have e1 := (tin u (pL2.mem_iff.mp hu)).ints
      have e2 := (tin v (pL2.mem_iff.mp hv)).ints
      rw [e1, e2] at hq
      exact hq
    have fr : ∀ b u, s.heap.get? b = some u → (sortedHeap (s1.heap.push (seqObj "list" (L1.map fun p => Value.ref p.1).toArray 0)) s1.heap.objs.size (L1.map fun p => Value.ref p.1) (L2.map fun p => Value.ref p.1).toArray).get? b = some u := fun b u e => by
      have z := k1 b u e
      have hlt := Heap.lt_size z
      rw [sortedHeap_old (Nat.ne_of_lt hlt) (by rw [size_push']; exact Nat.lt_succ_of_lt hlt)]
      exact Heap.get?_push_of_some _ z
    have hp : H s1.heap.objs.size = none := I.hok.fresh hz
    refine wpAny_pure ⟨_, rfl, .ref s1.heap.objs.size, upd H s1.heap.objs.size (.lst (L2.map fun y => V.ref y.1)), ?_, rfl, q L2 _ (pL2.trans pL1) sd hp⟩
    have hok : HOk X.prog X.w (upd H s1.heap.objs.size (.lst (L2.map fun y => V.ref y.1))) _ := I.hok.laid fr hz ⟨by rw [List.length_map, pL2.length_eq, lenL, sizeLine_eq]; omega, L2.map fun p => Value.ref p.1, c, ?_, hcc⟩
    · exact I.call' (ch := []) o1 (Un.laid fr hz hp) hok (by rw [g1]; exact I.bare) fun _ z => nomatch z
    · clear sd fr pL2 hcc hb hs po
      induction L2 with
      | nil => exact .nil
      | cons p L2 ih => exact .cons rfl ih
end Dv
namespace Dv
open PySem L2
def rowI : D → Option (List Int)
  | .tup xs => intsOf xs
  | _ => none
def rows0 : List D → Option (List (List Int))
  | [] => some []
  | d :: ds => (rowI d).bind fun r => (rows0 ds).map (r :: ·)
theorem rowI_some {d : D} {r : List Int} (h : rowI d = some r) : d = rowD r := by
  cases d with
  | tup xs => rw [intsOf_some h]; rfl
  | _ => cases h
theorem rowI_row (r : List Int) : rowI (rowD r) = some r := intsOf_map r
theorem rows0_some : ∀ {ds : List D} {rows : List (List Int)}, rows0 ds = some rows → ds = rows.map rowD
  | [], _, h => by cases h; rfl
  | d :: ds, rows, h => by
    unfold rows0 at h
    cases e : rowI d with
    | none => rw [e] at h; cases h
    | some r =>
      rw [e] at h
      have h : (rows0 ds).map (r :: ·) = some rows := h
      obtain ⟨rs, e2, rfl⟩ := Option.map_eq_some_iff.mp h
      rw [rowI_some e, rows0_some e2]
      rfl
theorem rows0_map : ∀ rows : List (List Int), rows0 (rows.map rowD) = some rows
  | [] => rfl
  | r :: rows => by
    show (rowI (rowD r)).bind (fun r => (rows0 (rows.map rowD)).map (r :: ·)) = _
    rw [rowI_row, rows0_map rows]
    rfl
def srtR (rows : List (List Int)) : List (List Int) := sortL ltR (dedL rows)
def sortRows (ds : List D) : Option D := match rows0 ds with
  | some rows => if (dedL rows).length ≤ 290 ∧ ((∀ r ∈ rows, r ≠ []) ∨ ∀ r ∈ rows, r = []) then some (.lst ((srtR rows).map rowD)) else none
  | none => none
theorem nodup_sub {α : Type} [DecidableEq α] : ∀ {l m : List α}, l.Nodup → (∀ x ∈ l, x ∈ m) → l.length ≤ m.length
  | [], _, _, _ => Nat.zero_le _
  | x :: l, m, hn, hs => by
    obtain ⟨h1, h2⟩ := List.nodup_cons.mp hn
    have hx := hs x List.mem_cons_self
    have := nodup_sub (m := m.erase x) h2 fun y hy => (List.mem_erase_of_ne fun e => h1 (by rw [← e]; exact hy)).mpr (hs y (List.mem_cons_of_mem _ hy))
    rw [List.length_erase_of_mem hx] at this
    have hp := List.length_pos_of_mem hx
    rw [List.length_cons]
    omega
theorem srtR_ext {rows : List (List Int)} {l : List (List Int)} (hs : l.Pairwise fun a b => ltR b a = false) (nd : l.Nodup) (hm : ∀ r, r ∈ l ↔ r ∈ rows) : l = srtR rows := by
  refine strict_ext ltR_swo ((hs.and nd).imp fun {a b} h => ?_) (sortL_strict ltR_swo ltR_tri (nodup_dedL rows)) fun r => ?_
  · cases q : ltR a b with
    | true => rfl
    | false => exact absurd (ltR_tri a b q h.1) h.2
  · rw [hm r]
    unfold srtR
    rw [(sortL_perm _).mem_iff, mem_dedL]
def mSortSc (mi : IM) (vs : List Nat) (gm : D → Env → Option Env) (tt : BM) (te : EM) : EM := fun r S => (mi r S).bind fun ds S1 => (lcL gm tt te (wipeE r vs) ds S1).bind fun ys S2 => ofO (sortRows ys) S2
@[simp] theorem mSortSc_ap {mi : IM} {vs : List Nat} {gm : D → Env → Option Env} {tt : BM} {te : EM} {r : Env} {S : Store} : mSortSc mi vs gm tt te r S = (mi r S).bind fun ds S1 => (lcL gm tt te (wipeE r vs) ds S1).bind fun ys S2 => ofO (sortRows ys) S2 := rfl
theorem sortRows_rows {rows : List (List Int)} (h : (dedL rows).length ≤ 290) (h2 : (∀ r ∈ rows, r ≠ []) ∨ ∀ r ∈ rows, r = []) : sortRows (rows.map rowD) = some (.lst ((srtR rows).map rowD)) := by
  unfold sortRows
  rw [rows0_map]
  exact if_pos ⟨h, h2⟩
theorem sortRows_some {ds : List D} {d : D} (h : sortRows ds = some d) : ∃ rows, ds = rows.map rowD ∧ (dedL rows).length ≤ 290 ∧ ((∀ r ∈ rows, r ≠ []) ∨ ∀ r ∈ rows, r = []) ∧ d = .lst ((srtR rows).map rowD) := by
  unfold sortRows at h
  split at h
  · rename_i rows e
    split at h
    · rename_i c
      cases h
      exact ⟨rows, rows0_some e, c.1, c.2, rfl⟩
    · cases h
  · cases h
section
variable {K : PySem.W.Frag} {mg : Str → Option Value} {Wx : WX}
theorem Rep.sqt {T : Tb} {H : Hp} {x : V} {r : List Int} (h : Rep K T H x (rowD r)) : ∃ a, x = .ref a ∧ SqT K H a (r.map V.int) := by
  cases h with
  | @tup a vs _ h1 h2 h3 =>
    rw [h3.of_ints] at h1
    exact ⟨a, rfl, SqT.of h1⟩
theorem hlen_ext {T : Tb} {S : Store} {H : Hp} (sim : Sim K mg T S H) {p : Addr} {φ : Heap → Prop} : HLen (upd H p (.ext φ)) := hlen_oth sim.hl fun xs => ⟨(by intro z; cases z), (by intro z; cases z), (by intro x z; cases z), (by intro x z; cases z)⟩
theorem lc_noexc {gm : D → Env → Option Env} {tt : BM} {te : EM} {r0 : Env} : ∀ (ds : List D) (S : Store) (n : Str) (S' : Store), lcL gm tt te r0 ds S ≠ .exc n S'
  | [], S, n, S' => fun h => by cases h
  | d :: ds, S, n, S' => fun h => by
    unfold lcL at h
    split at h
    · cases h
    · cases e1 : nox (tt _ S) with
      | bad => rw [e1] at h; cases h
      | exc _ _ =>
        unfold nox at e1
        split at e1
        · cases e1
        · rename_i q
          exact q _ _ e1
      | ok b S1 =>
        rw [e1] at h
        cases b with
        | false => exact lc_noexc ds S1 n S' h
        | true =>
          rename_i r1 _
          have h : (nox (te r1 S1)).bind (fun y S2 => (lcL gm tt te r0 ds S2).bind fun ys S3 => .ok (y :: ys) S3) = .exc n S' := h
          cases e2 : nox (te r1 S1) with
          | bad => rw [e2] at h; cases h
          | exc _ _ =>
            unfold nox at e2
            split at e2
            · cases e2
            · rename_i q
              exact q _ _ e2
          | ok y S2 =>
            rw [e2] at h
            have h : (lcL gm tt te r0 ds S2).bind (fun ys S3 => .ok (y :: ys) S3) = (.exc n S' : R (List D)) := h
            cases e3 : lcL gm tt te r0 ds S2 with
            | bad => rw [e3] at h; cases h
            | exc n2 S3 => exact lc_noexc ds S2 _ _ e3
            | ok ys S3 => rw [e3] at h; cases h
theorem rest_rows {T : Tb} {H : Hp} {g : L2.St} {x : R (List D)} {f : List D → List D} {Q : VK} (hx : ∀ n S, x ≠ .exc n S) (h : Out K mg Wx (Rep K) T g H (x.bind fun zs S2 => ofO (sortRows (f zs)) S2) Q) : ∃ zs d, sortRows (f zs) = some d := by
  cases x with
  | bad => exact h.elim
  | exc n S => exact absurd rfl (hx n S)
  | ok zs S =>
    have h : Out K mg Wx (Rep K) T g H (ofO (sortRows (f zs)) S) Q := h
    cases e : sortRows (f zs) with
    | none => rw [e] at h; exact h.elim
    | some d => exact ⟨zs, d, e⟩
theorem tSc_of {P : Program} {w : World} {mi : IM} {sl vs : List Nat} {gm : D → Env → Option Env} {tt : BM} {te : EM} (hsl : ∀ i ∈ sl, i ∈ vs) :
    ∀ g H Q, tD K mg Wx (mSortSc mi vs gm tt te) g H Q → tSc (rowsC P w K) (iD K mg Wx mi) (gD K mg sl gm) (tDT K mg W0 tt) (tD K mg W0 te) vs g H fun v H1 => rSortBag P w K [v] H1 Q := by
  intro g H Q h
  obtain ⟨T, r, S, rs, sim, h⟩ := h
  refine ⟨T, r, S, rs, sim, Out.bind h fun ds S1 T1 H1 J st sim1 rel h1 => ?_⟩
  obtain ⟨wk, hz⟩ := rel
  intro Dl hD
  obtain ⟨kp0, simh⟩ := sim1.hide (u := BagO P w Dl []) hD (hlen_ext sim1)
  have rs1 := rs.step st
  -- the set so far: its rows are those of ys, each once
  refine ⟨fun i m H => ∃ (T : Tb) (S : Store) (L : List (Addr × List Int)) (rows : List (List Int)), m = ds.length - i ∧ i ≤ ds.length ∧ T.hid = Dl :: T1.hid ∧ Step T1 H1 ⟨T.loc, T1.hid⟩ H ∧ Sim K mg T S H ∧ H Dl = some (BagO P w Dl L) ∧ (∀ p ∈ L, Rep K T H (.ref p.1) (rowD p.2)) ∧ (L.map (·.2)).Nodup ∧ (∀ x, x ∈ L.map (·.2) ↔ x ∈ rows) ∧
    Out K mg Wx (Rep K) T1 g H1 ((lcL gm tt te (wipeE r vs) (ds.drop i) S).bind fun zs S2 => ofO (sortRows (rows.map rowD ++ zs)) S2) Q, ⟨ds.length, T1.hide Dl, S1, [], [], by simp, Nat.zero_le _, rfl, sim1.stepNew hD, simh, upd_same, (by intro p hp; cases hp), List.nodup_nil, fun x => Iff.rfl, by simpa using h1⟩, ?_⟩
  rintro i m H2 ⟨T2, S2, L, rows, rfl, hi, eh, st2, sim2, hD2, rL, ndL, mL, ho⟩
  have off2 : ∀ b, T1.off b → H1 b ≠ none → T2.off b := fun b n q => ⟨(st2.out q n).1, fun z => by
    rw [eh] at z
    rcases List.mem_cons.mp z with z | z
    · exact q (by rw [z]; exact hD)
    · exact n.2 z⟩
  have kp2 : Kp T1 H1 T2 H2 := ⟨fun b u k n q => ⟨st2.keep b u n q, off2 b n (some_ne q)⟩, fun b u n q => ⟨st2.rd q n, off2 b n (rd_some q)⟩, fun n a q => st2.get q⟩
  have kf2 : Kf T1 H1 T2 H2 := ⟨kp2, fun b o u n q => ⟨st2.keep b _ n q, off2 b n (some_ne q)⟩⟩
  obtain ⟨stop, go⟩ := wk T2 S2 H2 kf2 sim2
  by_cases hlt : i < ds.length
  · have ed : ds.drop i = ds[i] :: ds.drop (i + 1) := List.drop_eq_getElem_cons hlt
    rw [ed] at ho
    obtain ⟨g1, yl⟩ := go i ds[i] (List.getElem?_eq_getElem hlt)
    refine .inr ⟨g1, fun H => ∃ (T : Tb) (S : Store) (L : List (Addr × List Int)) (rows : List (List Int)), T.hid = Dl :: T1.hid ∧ Step T1 H1 ⟨T.loc, T1.hid⟩ H ∧ Sim K mg T S H ∧ H Dl = some (BagO P w Dl L) ∧ (∀ p ∈ L, Rep K T H (.ref p.1) (rowD p.2)) ∧ (L.map (·.2)).Nodup ∧ (∀ x, x ∈ L.map (·.2) ↔ x ∈ rows) ∧
      Out K mg Wx (Rep K) T1 g H1 ((lcL gm tt te (wipeE r vs) (ds.drop (i + 1)) S).bind fun zs S2 => ofO (sortRows (rows.map rowD ++ zs)) S2) Q, fun H3 q => ?_, fun x H3 y => ?_⟩
    · obtain ⟨T3, S3, L3, rows3, q1, q2, q3, q4, q5, q6, q7, q8⟩ := q
      exact ⟨ds.length - (i + 1), by omega, T3, S3, L3, rows3, rfl, hlt, q1, q2, q3, q4, q5, q6, q7, q8⟩
    · obtain ⟨st3, sim3, rep3⟩ := yl x H3 y
      simp only [lcL] at ho
      have opn : ∀ {Ta Tb : Tb} {Ha Hb : Hp}, Ta.hid = Dl :: T1.hid → Step T1 H1 ⟨Ta.loc, T1.hid⟩ Ha → Step Ta Ha Tb Hb → Tb.hid = Dl :: T1.hid ∧ Step T1 H1 ⟨Tb.loc, T1.hid⟩ Hb := fun {Ta Tb Ha Hb} e1 s1 s2 => by
        refine ⟨s2.hid.trans e1, s1.trans ⟨s2.ext, rfl, fun b hb => s2.hkeep b (by rw [e1]; exact List.mem_cons_of_mem _ hb), fun b u n q => ?_, s2.new⟩⟩
        by_cases hb : b = Dl
        · subst hb
          rw [s2.hkeep b (by rw [e1]; exact List.mem_cons_self)]
          exact q
        · exact s2.keep b u ⟨n.1, fun z => by
            rw [e1] at z
            exact (List.mem_cons.mp z).elim hb n.2⟩ q
      obtain ⟨eh3, op3⟩ := opn eh st2 st3
      have hid3 : Dl ∈ T2.hid := by rw [eh]; exact List.mem_cons_self
      split at ho
      · exact ho.elim
      · rename_i r1 eg
        refine ⟨T2, wipeE r vs, S2, ds[i], r1, ((rs1.wipe vs).kp kp2).step st3, sim3, rep3, eg, fun g4 rs4 lg kg => ⟨wipe_same hsl (by rw [lg, wipe_length]) kg, T2, r1, S2, rs4, sim3, ?_⟩⟩
        rw [R.bind_assoc] at ho
        refine lc_bind ho fun b S4 T4 H4 v st4 sim4 rel4 ho4 => ?_
        subst rel4
        obtain ⟨eh4, op4⟩ := opn eh3 op3 st4
        have hid4 : Dl ∈ T4.hid := by rw [eh4]; exact List.mem_cons_self
        have hD4 : H4 Dl = some (BagO P w Dl L) := (st4.hkeep Dl hid3).trans ((st3.hkeep Dl hid3).trans hD2)
        cases v with
        | false =>
          rw [if_neg Bool.false_ne_true] at ho4 ⊢
          exact ⟨T4, S4, L, rows, eh4, op4, sim4, hD4, fun p hp => (rL p hp).step (st3.trans st4), ndL, mL, ho4⟩
        | true =>
          rw [if_pos rfl, R.bind_assoc] at ho4
          rw [if_pos rfl]
          refine ⟨T4, r1, S4, rs4.step st4, sim4, lc_bind ho4 fun yd S5 T5 H5 yv st5 sim5 rel5 ho5 => ?_⟩
          obtain ⟨eh5, op5⟩ := opn eh4 op4 st5
          have hid5 : Dl ∈ T5.hid := by rw [eh5]; exact List.mem_cons_self
          rw [R.bind_assoc] at ho5
          have ho5' : Out K mg Wx (Rep K) T1 g H1 ((lcL gm tt te (wipeE r vs) (ds.drop (i + 1)) S5).bind fun zs S2 => ofO (sortRows (rows.map rowD ++ yd :: zs)) S2) Q := ho5
          obtain ⟨zs, dd, ez⟩ := rest_rows (lc_noexc _ _) ho5'
          obtain ⟨all, ea, few, _, _⟩ := sortRows_some ez
          obtain ⟨k, rfl⟩ : ∃ k, yd = rowD k := by
            have : yd ∈ all.map rowD := by rw [← ea]; simp
            obtain ⟨k, _, e⟩ := List.mem_map.mp this
            exact ⟨k, e.symm⟩
          have sub : ∀ x ∈ rows, x ∈ all := fun x hx => by
            have : rowD x ∈ all.map rowD := by rw [← ea]; exact List.mem_append_left _ (List.mem_map_of_mem hx)
            obtain ⟨z, hz, e⟩ := List.mem_map.mp this
            rw [← rowD_inj e]
            exact hz
          have rL5 : ∀ p ∈ L, Rep K T5 H5 (.ref p.1) (rowD p.2) := fun p hp => (rL p hp).step ((st3.trans st4).trans st5)
          obtain ⟨xa, rfl, hxa⟩ := rel5.sqt
          have len : L.length ≤ 290 := by
            have := nodup_sub ndL (m := dedL all) fun x hx => (mem_dedL x all).mpr (sub x ((mL x).mp hx))
            rw [List.length_map] at this
            omega
          refine ⟨L, xa, k, rfl, (st5.hkeep Dl hid4).trans hD4, hxa, fun p hp => ?_, by omega, fun L' hL' => ?_⟩
          · obtain ⟨b, e, q⟩ := (rL5 p hp).sqt
            cases e
            exact q
          · obtain ⟨kf5, sim6⟩ := sim5.setHid (u := BagO P w Dl L') hid5 (hlen_ext sim5)
            have stp : Step T1 H1 ⟨T5.loc, T1.hid⟩ (upd H5 Dl (BagO P w Dl L')) := ⟨op5.ext, rfl, fun b hb => by
              rw [upd_ne fun e => sim1.hid b hb (by rw [e]; exact hD)]
              exact op5.hkeep b hb, fun b u n q => by
              rw [upd_ne (ne_of_none q hD)]
              exact op5.keep b u n q, op5.new⟩
            have e5 : (fun zs S2 => (ofO (sortRows ((rows ++ [k]).map rowD ++ zs)) S2 : R D)) = fun zs S2 => ofO (sortRows (rows.map rowD ++ rowD k :: zs)) S2 := by
              funext zs S2
              rw [List.map_append, List.append_assoc]
              rfl
            have reps : ∀ p ∈ L', Rep K T5 (upd H5 Dl (BagO P w Dl L')) (.ref p.1) (rowD p.2) := fun p hp => by
              rcases hL' with ⟨_, rfl⟩ | ⟨_, pm⟩
              · exact (rL5 p hp).kp kf5.toKp
              · rcases List.mem_cons.mp (pm.mem_iff.mp hp) with rfl | hp
                · exact rel5.kp kf5.toKp
                · exact (rL5 p hp).kp kf5.toKp
            refine ⟨T5, S5, L', rows ++ [k], eh5, stp, sim6, upd_same, reps, ?_, fun x => ?_, by rw [e5]; exact ho5'⟩
            · rcases hL' with ⟨_, rfl⟩ | ⟨hk, pm⟩
              · exact ndL
              · rw [(pm.map (·.2)).nodup_iff]
                exact List.nodup_cons.mpr ⟨hk, ndL⟩
            · rw [List.mem_append, List.mem_singleton, ← mL x]
              rcases hL' with ⟨hk, rfl⟩ | ⟨hk, pm⟩
              · exact ⟨.inl, fun q => q.elim id fun e => by rw [e]; exact hk⟩
              · rw [(pm.map (·.2)).mem_iff, List.map_cons, List.mem_cons]
                exact ⟨fun q => q.elim .inr .inl, fun q => q.elim .inr .inl⟩
  · have e : i = ds.length := by omega
    subst e
    rw [List.drop_length] at ho
    have ho : Out K mg Wx (Rep K) T1 g H1 (ofO (sortRows (rows.map rowD ++ [])) S2) Q := ho
    rw [List.append_nil] at ho
    refine .inl ⟨stop, ?_⟩
    refine Out.use ho fun d ed k => ?_
    obtain ⟨rows2, er, few, sh, rfl⟩ := sortRows_some ed
    have er2 : rows = rows2 := by
      have : rows0 (rows.map rowD) = rows0 (rows2.map rowD) := by rw [er]
      rw [rows0_map, rows0_map] at this
      exact Option.some.inj this
    subst er2
    obtain ⟨l2, h2⟩ := T2
    have eh : h2 = Dl :: T1.hid := eh
    subst eh
    have len : L.length ≤ 290 := by
      have := nodup_sub ndL (m := dedL rows) fun x hx => (mem_dedL x rows).mpr ((mL x).mp hx)
      rw [List.length_map] at this
      omega
    have rLu : ∀ p ∈ L, Rep K ⟨l2, T1.hid⟩ H2 (.ref p.1) (rowD p.2) := fun p hp => (rL p hp).kp kp_unhide
    have simu := sim2.unhide
    refine ⟨Dl, L, rfl, hD2, fun p hp => ?_, fun two p hp => ?_, by omega, fun ys q pm srt hq => ?_⟩
    · obtain ⟨b, e, z⟩ := (rLu p hp).sqt
      cases e
      exact z
    · rcases sh with z | z
      · exact z p.2 ((mL _).mp (List.mem_map_of_mem hp))
      · exfalso
        have : (L.map (·.2)).length ≤ ([[]] : List (List Int)).length := nodup_sub ndL fun x hx => by
          rw [z x ((mL x).mp hx)]
          exact List.mem_singleton.mpr rfl
        rw [List.length_map, List.length_singleton] at this
        omega
    · have es : ys.map (·.2) = srtR rows := srtR_ext (List.pairwise_map.mpr srt) ((pm.map (·.2)).nodup_iff.mpr ndL) fun x => by rw [(pm.map (·.2)).mem_iff, mL]
      have st4 : Step (Tb.mk l2 T1.hid) H2 ⟨l2, T1.hid⟩ (upd H2 q (.lst (ys.map fun y => V.ref y.1))) := simu.stepNew hq
      have hl : (ys.map fun y => V.ref y.1).length ≤ sizeLine := by rw [List.length_map, pm.length_eq, sizeLine_eq]; omega
      have rl : ∀ zs : List (Addr × List Int), (∀ z ∈ zs, z ∈ L) → RepL K ⟨l2, T1.hid⟩ H2 (zs.map fun y => V.ref y.1) ((zs.map (·.2)).map rowD) := fun zs => by
        induction zs with
        | nil => exact fun _ => .nil
        | cons z zs ih => exact fun hz => .cons (rLu z (hz z List.mem_cons_self)) (ih fun y hy => hz y (List.mem_cons_of_mem _ hy))
      have rl2 := rl ys fun z hz => pm.mem_iff.mp hz
      rw [es] at rl2
      exact k ⟨l2, T1.hid⟩ _ (.ref q) (st2.trans st4) (simu.new hq (hlen_lst simu.hl hl)) (.lst upd_same (simu.off hq) (rl2.step st4))
end
section
variable {X : Cx} {Wx : WX} {elt tg iter : Expr} {ifs : List Expr} {scope : Scope} {own : List (Str × Nat)} {pos pos' p' : Pos} {mi : IM} {sl : List Nat} {gm : D → Env → Option Env} {tt : BM} {te : EM}
theorem j_sortSc (hsl : ∀ i ∈ sl, i ∈ own.map (·.2)) (hc : X.calm = true) (hu : X.A.units + 65 < cLine) (hN : X.N.Nodup) (hgl : Gl X "sorted") (hm : X.mg "sorted" = none) (hi : PI X tg iter (iD X.K X.mg Wx mi)) (ok : BlkOk X.N X.env.scope scope own)
    (hg : ∀ (s : Shared) (H : Hp) (C : Addr) (cl : List (Str × Addr)) (fp : List Addr), PG (X.blk s H scope (compEnvC scope cl C X.env) fp) tg (gD X.K X.mg sl gm)) (ht : ∀ (s : Shared) (H : Hp) (C : Addr) (cl : List (Str × Addr)) (fp : List Addr), PTs (X.blk s H scope (compEnvC scope cl C X.env) fp) ifs (tDT X.K X.mg W0 tt))
    (he : ∀ (s : Shared) (H : Hp) (C : Addr) (cl : List (Str × Addr)) (fp : List Addr), PE (X.blk s H scope (compEnvC scope cl C X.env) fp) elt (tD X.K X.mg W0 te)) (hs : ∀ x, foldedSetIterable iter X.env x = pure x := by intro _; rfl) :
    PE X (.Call (.Name "sorted" p') [.SetComp elt [⟨tg, iter, ifs, 0⟩] scope pos] [] pos') (tD X.K X.mg Wx (mSortSc mi (own.map (·.2)) gm tt te)) :=
  pe_imp (pe_callB (cr_sortBag hc) hgl hm (by kernel_rfl) (pa_cons (pe_scG (rowsC X.prog X.w X.K) hc hu hN hi ok hg ht he hs) pa_nil)) fun g H Q h => tSc_of hsl g H Q h
end
end Dv
set_option maxHeartbeats 1000000
namespace Dv
open PySem PySem.Spec PyProof.Rows L2
structure Stp (P : Program) (w : World) (i : Addr) (rd : List Addr) (xs : Array Value) (It : Nat → Heap → Prop) : Prop where
  keep : ∀ k h h', It k h → (∀ b ∈ i :: rd, ∀ o, h.get? b = some o → h'.get? b = some o) → It k h'
  obj : ∀ k h, It k h → ∀ b ∈ i :: rd, ∃ o, h.get? b = some o
  item : ∀ (A : Around) (E : Value → Shared → Prop) (s : Shared) (k : Nat) (x : Value) (Q : Value → Shared → Prop), It k s.heap → xs[k]? = some x → (∀ h', It (k + 1) h' → Heap.SameBut i s.heap h' → Q x { s with heap := h' }) →
    wpAny (model P w) A (Builtin.SmallTypes.nextOf (.ref i)) Q E s
  fin : ∀ (A : Around) (E : Value → Shared → Prop) (s : Shared) (k : Nat) (Q : Value → Shared → Prop), A.handled = none → It k s.heap → xs[k]? = none →
    (∀ h' e, Heap.ExtBut i s.heap h' → (∃ o, h'.get? e = some o ∧ o.cls = .type "StopIteration") → E (.ref e) { s with heap := h' }) → wpAny (model P w) A (Builtin.SmallTypes.nextOf (.ref i)) Q E s
section
variable {P : Program} {w : World}
theorem stp_list (i l : Addr) (hne : l ≠ i) (xs : Array Value) : Stp P w i [l] xs fun k h => h.IsListIter i l k ∧ h.IsList l xs where
  keep := fun k h h' ⟨a, b⟩ kk => ⟨a.at fun o e => kk i (by simp) o e, b.at fun o e => kk l (by simp) o e⟩
  obj := fun k h ⟨⟨o1, a, _⟩, ⟨o2, b, _⟩⟩ c hc => by
    rcases List.mem_cons.mp hc with rfl | hc
    · exact ⟨o1, a⟩
    · rw [List.mem_singleton.mp hc]
      exact ⟨o2, b⟩
  item := fun A E s k x Q ⟨a, b⟩ hx q => wpAny_nextOf_list_item a b hx fun h' a' sb => q h' ⟨a', b.extBut sb.extBut hne⟩ sb
  fin := fun A E s k Q hh ⟨a, b⟩ hx q => wpAny_nextOf_list_end hh a b hx q
theorem stp_tup (i l : Addr) (hne : l ≠ i) (xs : Array Value) : Stp P w i [l] xs fun k h => h.IsTupleIter i l k ∧ h.IsTuple l xs where
  keep := fun k h h' ⟨a, b⟩ kk => ⟨a.at fun o e => kk i (by simp) o e, b.at fun o e => kk l (by simp) o e⟩
  obj := fun k h ⟨⟨o1, a, _⟩, ⟨o2, b, _⟩⟩ c hc => by
    rcases List.mem_cons.mp hc with rfl | hc
    · exact ⟨o1, a⟩
    · rw [List.mem_singleton.mp hc]
      exact ⟨o2, b⟩
  item := fun A E s k x Q ⟨a, b⟩ hx q => RZ.nextOf_tuple_item a b hx fun h' a' sb => q h' ⟨a', b.extBut sb.extBut hne⟩ sb
  fin := fun A E s k Q hh ⟨a, b⟩ hx q => RZ.nextOf_tuple_end hh a b hx q
structure Apt (z TI TO i1 i2 : Addr) (r1 r2 : List Addr) : Prop where
  nd : [z, TI, TO, i1, i2].Nodup
  a1 : ∀ b ∈ r1, b ∉ [z, TI, TO, i1, i2]
  a2 : ∀ b ∈ r2, b ∉ [z, TI, TO, i1, i2]
theorem Apt.ne {z TI TO i1 i2 : Addr} {r1 r2 : List Addr} (D : Apt z TI TO i1 i2 r1 r2) : (z ≠ TI ∧ z ≠ TO ∧ z ≠ i1 ∧ z ≠ i2) ∧ (TI ≠ TO ∧ TI ≠ i1 ∧ TI ≠ i2) ∧ (TO ≠ i1 ∧ TO ≠ i2) ∧ i1 ≠ i2 := by
  have := D.nd
  simp only [List.nodup_cons, List.mem_cons, List.not_mem_nil, or_false, not_or, not_false_eq_true, List.nodup_nil, and_true] at this
  exact this
section
variable {z TI TO i1 i2 d : Addr} {r1 r2 : List Addr} {xs ys : Array Value} {I1 I2 : Nat → Heap → Prop} {A : Around} {E : Value → Shared → Prop} {s : Shared} {k : Nat}
theorem keep1 (D : Apt z TI TO i1 i2 r1 r2) (S1 : Stp P w i1 r1 xs I1) {h h' : Heap} {c : Addr} (hc : c ∈ [z, TI, TO, i2]) (sb : ∀ b o, b ≠ c → h.get? b = some o → h'.get? b = some o) (q : I1 k h) : I1 k h' := by
  obtain ⟨⟨n1, n2, n3, n4⟩, ⟨n5, n6, n7⟩, ⟨n8, n9⟩, n10⟩ := D.ne
  refine S1.keep k h h' q fun b hb o e => sb b o ?_ e
  rcases List.mem_cons.mp hb with rfl | hb
  · simp only [List.mem_cons, List.not_mem_nil, or_false] at hc
    rcases hc with rfl | rfl | rfl | rfl
    · exact n3.symm
    · exact n6.symm
    · exact n8.symm
    · exact n10
  · have := D.a1 b hb
    intro q
    subst q
    simp only [List.mem_cons, List.not_mem_nil, or_false, not_or] at this hc
    rcases hc with rfl | rfl | rfl | rfl
    · exact this.1 rfl
    · exact this.2.1 rfl
    · exact this.2.2.1 rfl
    · exact this.2.2.2.2 rfl
theorem keep2 (D : Apt z TI TO i1 i2 r1 r2) (S2 : Stp P w i2 r2 ys I2) {h h' : Heap} {c : Addr} (hc : c ∈ [z, TI, TO, i1]) (sb : ∀ b o, b ≠ c → h.get? b = some o → h'.get? b = some o) (q : I2 k h) : I2 k h' := by
  obtain ⟨⟨n1, n2, n3, n4⟩, ⟨n5, n6, n7⟩, ⟨n8, n9⟩, n10⟩ := D.ne
  refine S2.keep k h h' q fun b hb o e => sb b o ?_ e
  rcases List.mem_cons.mp hb with rfl | hb
  · simp only [List.mem_cons, List.not_mem_nil, or_false] at hc
    rcases hc with rfl | rfl | rfl | rfl
    · exact n4.symm
    · exact n7.symm
    · exact n9.symm
    · exact n10.symm
  · have := D.a2 b hb
    intro q
    subst q
    simp only [List.mem_cons, List.not_mem_nil, or_false, not_or] at this hc
    rcases hc with rfl | rfl | rfl | rfl
    · exact this.1 rfl
    · exact this.2.1 rfl
    · exact this.2.2.1 rfl
    · exact this.2.2.2.1 rfl
def ZS (z TI TO i1 i2 d : Addr) (I1 I2 : Nat → Heap → Prop) (k : Nat) (h : Heap) : Prop := IsPair h TI (.ref i1) (.ref i2) ∧ I1 k h ∧ I2 k h ∧
  ((IsZip h z TI TO .none ∧ ∃ a b, IsPair h TO a b) ∨ ∃ T f oT, IsZipHeld h z TI TO T f ∧ h.get? T = some oT ∧ T ∉ [z, i1, i2, d])
theorem zip_core (D : Apt z TI TO i1 i2 r1 r2) (S1 : Stp P w i1 r1 xs I1) (S2 : Stp P w i2 r2 ys I2) (st : ZS z TI TO i1 i2 d I1 I2 k s.heap) (hd : d < s.heap.objs.size) {x y : Value} (hx : xs[k]? = some x) (hy : ys[k]? = some y) {Q : Value → Shared → Prop}
    (hQ : ∀ h', IsPair h' s.heap.objs.size x y → ZS z TI TO i1 i2 d I1 I2 (k + 1) h' → (∀ c o, c ∉ [z, TO, i1, i2] → s.heap.get? c = some o → h'.get? c = some o) → Q (.ref s.heap.objs.size) { s with heap := h' }) :
    wpAny (model P w) A (Builtin.«zip.__next__» ⟨[.ref z], []⟩) (fun fin s' => ∃ v, fin = .done (.ret v) ∧ Q v s') E s := by
  obtain ⟨⟨n1, n2, n3, n4⟩, ⟨n5, n6, n7⟩, ⟨n8, n9⟩, n10⟩ := D.ne
  obtain ⟨hTI, q1, q2, hz⟩ := st
  have ahead : ∀ {c o}, s.heap.get? c = some o → s.heap.objs.size ≠ c := fun e => Nat.ne_of_gt (Heap.lt_size e)
  obtain ⟨o1, g1⟩ := S1.obj _ _ q1 i1 List.mem_cons_self
  obtain ⟨o2, g2⟩ := S2.obj _ _ q2 i2 List.mem_cons_self
  rcases hz with ⟨hz, a, b, hTO⟩ | ⟨T, f, oT, hz, hTT, hTn⟩
  · show wpAny _ _ (field (.ref z) 2 >>= _) _ _ _
    refine wpAny_bind (wpAny_field hz rfl (x := .bool false) rfl ?_)
    show wpAny _ _ (field (.ref z) 3 >>= _) _ _ _
    refine wpAny_bind (wpAny_field hz rfl (x := .ref TI) rfl (wpAny_bind (wpAny_seqItems hTI rfl ?_)))
    show wpAny _ _ (Builtin.SmallTypes.ownedTupleIsFree (.ref z) >>= _) _ _ _
    refine wpAny_bind ?_
    unfold Builtin.SmallTypes.ownedTupleIsFree
    refine wpAny_bind (wpAny_field hz rfl (x := .none) rfl (wpAny_pure ?_))
    simp only [if_true]
    refine wpAny_bind (wpAny_rule (wpAny_bind (wpAny_field hz rfl (x := .ref TO) rfl ?_)))
    refine wpAny_bind (wpAny_setField_rec hz (by simp) fun ha hza sa => ?_)
    have hza : IsZip ha z TI TO .ellipsis := hza
    refine wpAny_bind ?_
    simp only [List.zipIdx_cons, List.zipIdx_nil, List.forIn_cons, List.forIn_nil]
    refine wpAny_bind (wpAny_bind (wpAny_onRaise ?_))
    show wpAny _ _ (Builtin.SmallTypes.nextOf (.ref i1) >>= _) _ _ _
    refine wpAny_bind (S1.item _ _ { s with heap := ha } k x _ (keep1 D S1 (by simp) (fun b o hb e => sa.extBut b o hb e) q1) hx fun hb q1b sb => wpAny_pure ?_)
    have tb : IsPair hb TO a b := sb.extBut _ _ n8 (sa.extBut _ _ n2.symm hTO)
    refine wpAny_bind (wpAny_seqItems tb rfl (wpAny_bind (wpAny_updateSeq_pair tb fun hc tc sc => ?_)))
    have tc : IsPair hc TO x b := tc
    refine wpAny_bind (wpAny_letGo (wpAny_pure ?_))
    refine wpAny_bind (wpAny_bind (wpAny_onRaise ?_))
    show wpAny _ _ (Builtin.SmallTypes.nextOf (.ref i2) >>= _) _ _ _
    have q2c : I2 k hc := keep2 D S2 (c := TO) (by simp) (fun b o hb e => sc.extBut b o hb e) (keep2 D S2 (c := i1) (by simp) (fun b o hb e => sb.extBut b o hb e) (keep2 D S2 (c := z) (by simp) (fun b o hb e => sa.extBut b o hb e) q2))
    refine wpAny_bind (S2.item _ _ { s with heap := hc } k y _ q2c hy fun hd' q2d sd => wpAny_pure ?_)
    have td : IsPair hd' TO x b := sd.extBut _ _ n9 tc
    refine wpAny_bind (wpAny_seqItems td rfl (wpAny_bind (wpAny_updateSeq_pair td fun he te se => ?_)))
    have te : IsPair he TO x y := te
    refine wpAny_bind (wpAny_letGo (wpAny_pure (wpAny_pure ?_)))
    refine wpAny_bind (wpAny_seqItems te rfl (wpAny_bind (wpAny_newTuple ?_)))
    have sz : he.objs.size = s.heap.objs.size := by rw [se.1, sd.1, sc.1, sb.1, sa.1]
    have ze : IsZip he z TI TO .ellipsis := se.extBut _ _ n2 (sd.extBut _ _ n4 (sc.extBut _ _ n2 (sb.extBut _ _ n3 hza)))
    have fr : ∀ c o, c ∉ [z, TO, i1, i2] → s.heap.get? c = some o → he.get? c = some o := fun c o hc' e => by
      simp only [List.mem_cons, List.not_mem_nil, or_false, not_or] at hc'
      exact se.extBut _ _ hc'.2.1 (sd.extBut _ _ hc'.2.2.2 (sc.extBut _ _ hc'.2.1 (sb.extBut _ _ hc'.2.2.1 (sa.extBut _ _ hc'.1 e))))
    have q1e : I1 (k + 1) he := keep1 D S1 (c := TO) (by simp) (fun b o hb e => se.extBut b o hb e) (keep1 D S1 (c := i2) (by simp) (fun b o hb e => sd.extBut b o hb e) (keep1 D S1 (c := TO) (by simp) (fun b o hb e => sc.extBut b o hb e) q1b))
    have q2e : I2 (k + 1) he := keep2 D S2 (c := TO) (by simp) (fun b o hb e => se.extBut b o hb e) q2d
    have zlt : z < he.objs.size := Heap.lt_size ze
    show wpAny _ _ (Builtin.SmallTypes.ownedTupleHandOut (.ref z) (.ref he.objs.size) >>= _) _ _ _
    refine wpAny_bind ?_
    unfold Builtin.SmallTypes.ownedTupleHandOut
    have zf : IsZip (he.push { cls := .type "tuple", data := .seq #[x, y] }) z TI TO .ellipsis := Heap.get?_push_of_some _ ze
    refine wpAny_bind (wpAny_setField_rec zf (by simp) fun hg zg sg => ?_)
    have zg : IsZip hg z TI TO (rawInt he.objs.size) := zg
    refine wpAny_setField_rec zg (by simp) fun hh zh sh => ?_
    have zh : IsZipHeld hh z TI TO he.objs.size false := zh
    have up : ∀ c o, c ≠ z → he.get? c = some o → hh.get? c = some o := fun c o c1 e => sh.extBut _ _ c1 (sg.extBut _ _ c1 (Heap.get?_push_of_some _ e))
    have hP : IsPair hh he.objs.size x y := sh.extBut _ _ (Nat.ne_of_gt zlt) (sg.extBut _ _ (Nat.ne_of_gt zlt) (Heap.get?_push_size _ rfl))
    rw [sz] at zh hP
    refine wpAny_pure ⟨_, rfl, ?_⟩
    show Q (.ref he.objs.size) _
    rw [sz]
    have fr2 : ∀ c o, c ∉ [z, TO, i1, i2] → s.heap.get? c = some o → hh.get? c = some o := fun c o hc' e => up c o (fun q => hc' (by rw [q]; simp)) (fr c o hc' e)
    refine hQ hh hP ⟨fr2 TI _ (by simp [n1.symm, n5, n6, n7]) hTI, keep1 D S1 (c := z) (by simp) (fun b o hb e => up b o hb e) q1e, keep2 D S2 (c := z) (by simp) (fun b o hb e => up b o hb e) q2e, .inr ⟨s.heap.objs.size, false, _, zh, hP, ?_⟩⟩ fr2
    simp only [List.mem_cons, List.not_mem_nil, or_false, not_or]
    exact ⟨ahead hz, ahead g1, ahead g2, Nat.ne_of_gt hd⟩
  · show wpAny _ _ (field (.ref z) 2 >>= _) _ _ _
    refine wpAny_bind (wpAny_field hz rfl (x := .bool false) rfl ?_)
    show wpAny _ _ (field (.ref z) 3 >>= _) _ _ _
    refine wpAny_bind (wpAny_field hz rfl (x := .ref TI) rfl (wpAny_bind (wpAny_seqItems hTI rfl ?_)))
    show wpAny _ _ (Builtin.SmallTypes.ownedTupleIsFree (.ref z) >>= _) _ _ _
    refine wpAny_bind (wpAny_tupleHeld_zip hz hTT fun ha hza sa => ?_)
    simp only [Bool.false_eq_true, if_false]
    refine wpAny_bind ?_
    rw [← Array.forIn_toList]
    simp only [List.forIn_cons, List.forIn_nil]
    refine wpAny_bind (wpAny_bind (wpAny_holding ?_))
    show wpAny _ _ (Builtin.SmallTypes.nextOf (.ref i1) >>= _) _ _ _
    refine wpAny_bind (S1.item _ _ { s with heap := ha } k x _ (keep1 D S1 (c := z) (by simp) (fun b o hb e => sa.extBut b o hb e) q1) hx fun hb q1b sb => wpAny_pure (wpAny_pure ?_))
    refine wpAny_bind (wpAny_bind (wpAny_holding ?_))
    show wpAny _ _ (Builtin.SmallTypes.nextOf (.ref i2) >>= _) _ _ _
    refine wpAny_bind (S2.item _ _ { s with heap := hb } k y _ (keep2 D S2 (c := i1) (by simp) (fun b o hb e => sb.extBut b o hb e) (keep2 D S2 (c := z) (by simp) (fun b o hb e => sa.extBut b o hb e) q2)) hy fun hc q2c sc => wpAny_pure (wpAny_pure (wpAny_pure ?_)))
    show wpAny _ _ (newTuple [x, y] >>= _) _ _ _
    refine wpAny_bind (wpAny_newTuple (wpAny_pure ⟨_, rfl, ?_⟩))
    show Q (.ref hc.objs.size) _
    have sz : hc.objs.size = s.heap.objs.size := by rw [sc.1, sb.1, sa.1]
    have zc : IsZipHeld hc z TI TO T true := sc.extBut _ _ n4 (sb.extBut _ _ n3 hza)
    have hP : IsPair (hc.push { cls := .type "tuple", data := .seq #[x, y] }) hc.objs.size x y := Heap.get?_push_size _ rfl
    have fr2 : ∀ c o, c ≠ z → c ≠ i1 → c ≠ i2 → s.heap.get? c = some o → (hc.push { cls := .type "tuple", data := .seq #[x, y] }).get? c = some o := fun c o c1 c2 c3 e => Heap.get?_push_of_some _ (sc.extBut _ _ c3 (sb.extBut _ _ c2 (sa.extBut _ _ c1 e)))
    rw [sz] at hP ⊢
    simp only [List.mem_cons, List.not_mem_nil, or_false, not_or] at hTn
    refine hQ _ hP ⟨fr2 TI _ n1.symm n6 n7 hTI, ?_, ?_, .inr ⟨T, true, oT, Heap.get?_push_of_some _ zc, fr2 T oT hTn.1 hTn.2.1 hTn.2.2.1 hTT, by simpa using hTn⟩⟩ fun c o hc' e => ?_
    · exact S1.keep _ _ _ (keep1 D S1 (c := i2) (by simp) (fun b o hb e => sc.extBut b o hb e) q1b) fun b _ o e => Heap.get?_push_of_some _ e
    · exact S2.keep _ _ _ q2c fun b _ o e => Heap.get?_push_of_some _ e
    · simp only [List.mem_cons, List.not_mem_nil, or_false, not_or] at hc'
      exact fr2 c o hc'.1 hc'.2.2.1 hc'.2.2.2 e
theorem ZS.type (st : ZS z TI TO i1 i2 d I1 I2 k s.heap) : s.TypeIs (.ref z) "zip" := by
  obtain ⟨_, _, _, hz⟩ := st
  rcases hz with ⟨hz, _⟩ | ⟨_, _, _, hz, _⟩
  · exact ⟨_, hz, rfl⟩
  · exact ⟨_, hz, rfl⟩
theorem zip_item (D : Apt z TI TO i1 i2 r1 r2) (S1 : Stp P w i1 r1 xs I1) (S2 : Stp P w i2 r2 ys I2) (st : ZS z TI TO i1 i2 d I1 I2 k s.heap) (hd : d < s.heap.objs.size) {x y : Value} (hx : xs[k]? = some x) (hy : ys[k]? = some y) {Q : Option Value → Shared → Prop}
    (hQ : ∀ h', IsPair h' s.heap.objs.size x y → ZS z TI TO i1 i2 d I1 I2 (k + 1) h' → (∀ c o, c ∉ [z, TO, i1, i2] → s.heap.get? c = some o → h'.get? c = some o) → Q (some (.ref s.heap.objs.size)) { s with heap := h' }) :
    wpAny (model P w) A (pyNext (.ref z)) Q E s := by
  unfold pyNext
  exact wpAny_bind (wpAny_attempt (wpAny_callSpecial?_slot (name := Str.ofString "__next__") st.type F.slot_zip_next (wpAny_call_entry F.slot_zip_next st.type F.entry_zip_next
    (zip_core D S1 S2 st hd hx hy fun h' b1 b2 b3 => wpAny_pure (hQ h' b1 b2 b3)) (F.args_zip_next_1 _))))
theorem zip_core0 (D : Apt z TI TO i1 i2 r1 r2) (S1 : Stp P w i1 r1 xs I1) (S2 : Stp P w i2 r2 ys I2) (hA : A.handled = none) (st : ZS z TI TO i1 i2 d I1 I2 k s.heap) (hend : xs[k]? = none ∨ ys[k]? = none) {Q : PySem.Fin → Shared → Prop}
    (hE : ∀ h' e, (∀ c o, c ∉ [z, TO, i1, i2] → s.heap.get? c = some o → h'.get? c = some o) → (∃ o, h'.get? e = some o ∧ o.cls = .type "StopIteration") → E (.ref e) { s with heap := h' }) :
    wpAny (model P w) A (Builtin.«zip.__next__» ⟨[.ref z], []⟩) Q E s := by
  obtain ⟨⟨n1, n2, n3, n4⟩, ⟨n5, n6, n7⟩, ⟨n8, n9⟩, n10⟩ := D.ne
  obtain ⟨hTI, q1, q2, hz⟩ := st
  have mem : ∀ {c}, c ∉ [z, TO, i1, i2] → c ≠ z ∧ c ≠ TO ∧ c ≠ i1 ∧ c ≠ i2 := fun h => by
    simp only [List.mem_cons, List.not_mem_nil, or_false, not_or] at h
    exact h
  rcases hz with ⟨hz, a, b, hTO⟩ | ⟨T, f, oT, hz, hTT, hTn⟩
  · show wpAny _ _ (field (.ref z) 2 >>= _) _ _ _
    refine wpAny_bind (wpAny_field hz rfl (x := .bool false) rfl ?_)
    show wpAny _ _ (field (.ref z) 3 >>= _) _ _ _
    refine wpAny_bind (wpAny_field hz rfl (x := .ref TI) rfl (wpAny_bind (wpAny_seqItems hTI rfl ?_)))
    show wpAny _ _ (Builtin.SmallTypes.ownedTupleIsFree (.ref z) >>= _) _ _ _
    refine wpAny_bind ?_
    unfold Builtin.SmallTypes.ownedTupleIsFree
    refine wpAny_bind (wpAny_field hz rfl (x := .none) rfl (wpAny_pure ?_))
    simp only [if_true]
    refine wpAny_bind (wpAny_rule (wpAny_bind (wpAny_field hz rfl (x := .ref TO) rfl ?_)))
    refine wpAny_bind (wpAny_setField_rec hz (by simp) fun ha hza sa => ?_)
    have hza : IsZip ha z TI TO .ellipsis := hza
    have q1a : I1 k ha := keep1 D S1 (c := z) (by simp) (fun b o hb e => sa.extBut b o hb e) q1
    refine wpAny_bind ?_
    simp only [List.zipIdx_cons, List.zipIdx_nil, List.forIn_cons, List.forIn_nil]
    refine wpAny_bind (wpAny_bind (wpAny_onRaise ?_))
    show wpAny _ _ (Builtin.SmallTypes.nextOf (.ref i1) >>= _) _ _ _
    cases hx : xs[k]? with
    | none =>
      refine wpAny_bind (S1.fin _ _ { s with heap := ha } k _ hA q1a hx fun hb e sb he => ?_)
      obtain ⟨oe, hoe, hce⟩ := he
      have zb : IsZip hb z TI TO .ellipsis := sb _ _ n3 hza
      have hez : e ≠ z := fun q => by
        subst q
        rw [zb] at hoe
        cases hoe
        simp at hce
      exact wpAny_setField_rec zb (by simp) fun hc _ sc => hE hc e (fun c o hc' q => sc.extBut _ _ (mem hc').1 (sb _ _ (mem hc').2.2.1 (sa.extBut _ _ (mem hc').1 q))) ⟨oe, sc.extBut _ _ hez hoe, hce⟩
    | some x =>
      have hy : ys[k]? = none := hend.resolve_left fun q => by rw [hx] at q; cases q
      refine wpAny_bind (S1.item _ _ { s with heap := ha } k x _ q1a hx fun hb q1b sb => wpAny_pure ?_)
      have tb : IsPair hb TO a b := sb.extBut _ _ n8 (sa.extBut _ _ n2.symm hTO)
      refine wpAny_bind (wpAny_seqItems tb rfl (wpAny_bind (wpAny_updateSeq_pair tb fun hc tc sc => ?_)))
      refine wpAny_bind (wpAny_letGo (wpAny_pure (wpAny_bind (wpAny_bind (wpAny_onRaise ?_)))))
      show wpAny _ _ (Builtin.SmallTypes.nextOf (.ref i2) >>= _) _ _ _
      have q2c : I2 k hc := keep2 D S2 (c := TO) (by simp) (fun b o hb e => sc.extBut b o hb e) (keep2 D S2 (c := i1) (by simp) (fun b o hb e => sb.extBut b o hb e) (keep2 D S2 (c := z) (by simp) (fun b o hb e => sa.extBut b o hb e) q2))
      refine wpAny_bind (S2.fin _ _ { s with heap := hc } k _ hA q2c hy fun hd e sd he => ?_)
      obtain ⟨oe, hoe, hce⟩ := he
      have zd : IsZip hd z TI TO .ellipsis := sd _ _ n4 (sc.extBut _ _ n2 (sb.extBut _ _ n3 hza))
      have hez : e ≠ z := fun q => by
        subst q
        rw [zd] at hoe
        cases hoe
        simp at hce
      exact wpAny_setField_rec zd (by simp) fun he' _ se => hE he' e (fun c o hc' q => se.extBut _ _ (mem hc').1 (sd _ _ (mem hc').2.2.2 (sc.extBut _ _ (mem hc').2.1 (sb.extBut _ _ (mem hc').2.2.1 (sa.extBut _ _ (mem hc').1 q))))) ⟨oe, se.extBut _ _ hez hoe, hce⟩
  · show wpAny _ _ (field (.ref z) 2 >>= _) _ _ _
    refine wpAny_bind (wpAny_field hz rfl (x := .bool false) rfl ?_)
    show wpAny _ _ (field (.ref z) 3 >>= _) _ _ _
    refine wpAny_bind (wpAny_field hz rfl (x := .ref TI) rfl (wpAny_bind (wpAny_seqItems hTI rfl ?_)))
    show wpAny _ _ (Builtin.SmallTypes.ownedTupleIsFree (.ref z) >>= _) _ _ _
    refine wpAny_bind (wpAny_tupleHeld_zip hz hTT fun ha hza sa => ?_)
    have q1a : I1 k ha := keep1 D S1 (c := z) (by simp) (fun b o hb e => sa.extBut b o hb e) q1
    simp only [Bool.false_eq_true, if_false]
    refine wpAny_bind ?_
    rw [← Array.forIn_toList]
    simp only [List.forIn_cons, List.forIn_nil]
    refine wpAny_bind (wpAny_bind (wpAny_holding ?_))
    show wpAny _ _ (Builtin.SmallTypes.nextOf (.ref i1) >>= _) _ _ _
    cases hx : xs[k]? with
    | none =>
      exact wpAny_bind (S1.fin _ _ { s with heap := ha } k _ hA q1a hx fun hb e sb he => hE hb e (fun c o hc' q => sb _ _ (mem hc').2.2.1 (sa.extBut _ _ (mem hc').1 q)) he)
    | some x =>
      have hy : ys[k]? = none := hend.resolve_left fun q => by rw [hx] at q; cases q
      refine wpAny_bind (S1.item _ _ { s with heap := ha } k x _ q1a hx fun hb q1b sb => wpAny_pure (wpAny_pure (wpAny_bind (wpAny_bind (wpAny_holding ?_)))))
      show wpAny _ _ (Builtin.SmallTypes.nextOf (.ref i2) >>= _) _ _ _
      have q2b : I2 k hb := keep2 D S2 (c := i1) (by simp) (fun b o hb e => sb.extBut b o hb e) (keep2 D S2 (c := z) (by simp) (fun b o hb e => sa.extBut b o hb e) q2)
      exact wpAny_bind (S2.fin _ _ { s with heap := hb } k _ hA q2b hy fun hc e sc he => hE hc e (fun c o hc' q => sc _ _ (mem hc').2.2.2 (sb.extBut _ _ (mem hc').2.2.1 (sa.extBut _ _ (mem hc').1 q))) he)
theorem zip_fin (D : Apt z TI TO i1 i2 r1 r2) (S1 : Stp P w i1 r1 xs I1) (S2 : Stp P w i2 r2 ys I2) (hA : A.handled = none) (st : ZS z TI TO i1 i2 d I1 I2 k s.heap) (hend : xs[k]? = none ∨ ys[k]? = none) {Q : Option Value → Shared → Prop}
    (hQ : ∀ h', (∀ c o, c ∉ [z, TO, i1, i2] → s.heap.get? c = some o → h'.get? c = some o) → Q none { s with heap := h' }) : wpAny (model P w) A (pyNext (.ref z)) Q E s := by
  unfold pyNext
  refine wpAny_bind (wpAny_attempt (wpAny_callSpecial?_slot (name := Str.ofString "__next__") st.type F.slot_zip_next (wpAny_call_entry F.slot_zip_next st.type F.entry_zip_next
    (zip_core0 D S1 S2 (by simp [hA]) st hend fun h' e hk he => ?_) (F.args_zip_next_1 _))))
  obtain ⟨o, ho, hc⟩ := he
  exact wpAny_bind (wpAny_isInstance (T := "StopIteration") (b := true) ⟨o, ho, hc⟩ isSubtype_stop (wpAny_pure (hQ _ hk)))
end
end
end Dv
set_option maxHeartbeats 1000000
namespace Dv
open PySem PySem.Spec PyProof.Rows L2
section
variable {P : Program} {w : World} {z TI TO i1 i2 : Addr} {r1 r2 : List Addr} {xs ys : Array Value} {I1 I2 : Nat → Heap → Prop}
theorem zipArg (D : Apt z TI TO i1 i2 r1 r2) (S1 : Stp P w i1 r1 xs I1) (S2 : Stp P w i2 r2 ys I2) : PairArg P w "zip" z ([z, TI, TO, i1, i2] ++ (r1 ++ r2)) [z, TO, i1, i2] (min xs.size ys.size) (fun i k v => xs[i]? = some k ∧ ys[i]? = some v)
    (fun h => IsZip h z TI TO .none ∧ IsPair h TI (.ref i1) (.ref i2) ∧ (∃ a b, IsPair h TO a b) ∧ I1 0 h ∧ I2 0 h) where
  type := fun s q => ⟨_, q.1, rfl⟩
  notDict := by decide
  keep := fun h h' ⟨q1, q2, ⟨a, b, q3⟩, q4, q5⟩ k => ⟨k _ _ q1, k _ _ q2, ⟨a, b, k _ _ q3⟩, S1.keep _ _ _ q4 fun b _ o e => k b o e, S2.keep _ _ _ q5 fun b _ o e => k b o e⟩
  there := fun h ⟨q1, q2, ⟨a, b, q3⟩, q4, q5⟩ c hc => by
    rcases List.mem_append.mp hc with hc | hc
    · simp only [List.mem_cons, List.not_mem_nil, or_false] at hc
      rcases hc with rfl | rfl | rfl | rfl | rfl
      · exact ⟨_, q1⟩
      · exact ⟨_, q2⟩
      · exact ⟨_, q3⟩
      · exact S1.obj _ _ q4 _ List.mem_cons_self
      · exact S2.obj _ _ q5 _ List.mem_cons_self
    · rcases List.mem_append.mp hc with hc | hc
      · exact S1.obj _ _ q4 _ (List.mem_cons_of_mem _ hc)
      · exact S2.obj _ _ q5 _ (List.mem_cons_of_mem _ hc)
  sub := fun b hb => by
    refine List.mem_append_left _ ?_
    simp only [List.mem_cons, List.not_mem_nil, or_false] at hb ⊢
    rcases hb with rfl | rfl | rfl | rfl <;> simp
  noKeys := fun A s Q E hA q h => getAttrOr_miss_zip q.1 rfl rfl rfl zip_no_keys (by decide +kernel) hA h
  iter := fun A s d Q E hA ⟨q1, q2, ⟨a, b, q3⟩, q4, q5⟩ hd hdf h => by
    have nd : ∀ c, c ∈ [z, TI, TO, i1, i2] ++ (r1 ++ r2) → c ≠ d := fun c hc e => hdf (by rw [← e]; exact hc)
    refine wpAny_pyIter_zip q1 (h z [z, TO, i1, i2] (ZS z TI TO i1 i2 d I1 I2) s.heap s.toks ?_ ⟨q2, q4, q5, .inl ⟨q1, a, b, q3⟩⟩ (fun _ _ e => e) fun b hb => .inl hb)
    exact {
      off := fun hm => hdf (by
        refine List.mem_append_left _ ?_
        simp only [List.mem_cons, List.not_mem_nil, or_false] at hm ⊢
        rcases hm with e | e | e | e <;> simp [e])
      frame := fun i g g' ⟨t1, t2, t3, t4⟩ k => by
        refine ⟨k _ _ (nd TI (by simp)) t1, S1.keep _ _ _ t2 fun b hb o e => k b o (nd b ?_) e, S2.keep _ _ _ t3 fun b hb o e => k b o (nd b ?_) e, ?_⟩
        · rcases List.mem_cons.mp hb with rfl | hb
          · simp
          · simp [hb]
        · rcases List.mem_cons.mp hb with rfl | hb
          · simp
          · simp [hb]
        · rcases t4 with ⟨t4, a, b, t5⟩ | ⟨T, f, oT, t4, t5, t6⟩
          · exact .inl ⟨k _ _ (nd z (by simp)) t4, a, b, k _ _ (nd TO (by simp)) t5⟩
          · refine .inr ⟨T, f, oT, k _ _ (nd z (by simp)) t4, k _ _ (fun e => t6 (by rw [e]; simp)) t5, t6⟩
      item := fun i s1 Q1 E1 hi st hds hQ => by
        have ix : i < xs.size := Nat.lt_of_lt_of_le hi (Nat.min_le_left ..)
        have iy : i < ys.size := Nat.lt_of_lt_of_le hi (Nat.min_le_right ..)
        exact zip_item D S1 S2 st hds (Array.getElem?_eq_getElem ix) (Array.getElem?_eq_getElem iy) fun h' p1 p2 p3 => hQ _ _ _ h' s1.toks ⟨Array.getElem?_eq_getElem ix, Array.getElem?_eq_getElem iy⟩ (.inl ⟨_, p1, rfl, _, rfl⟩) p2 p3
      done := fun s1 Q1 E1 st hQ => by
        refine zip_fin D S1 S2 hA st ?_ fun h' k => hQ h' s1.toks k
        rcases Nat.le_total xs.size ys.size with q | q
        · exact .inl (Array.getElem?_eq_none (by rw [Nat.min_eq_left q]; exact Nat.le_refl _))
        · exact .inr (Array.getElem?_eq_none (by rw [Nat.min_eq_right q]; exact Nat.le_refl _)) }
end
abbrev zm1 (h : Heap) (l1 : Addr) : Heap := h.push { cls := .type "list_iterator", data := .fields #[.ref l1, .int 0 0] }
abbrev zm2 (h : Heap) (l1 l2 : Addr) : Heap := (zm1 h l1).push { cls := .type "tuple_iterator", data := .fields #[.ref l2, .int 0 0] }
abbrev zm3 (h : Heap) (l1 l2 : Addr) : Heap := (zm2 h l1 l2).push { cls := .type "tuple", data := .seq #[.ref h.objs.size, .ref (zm1 h l1).objs.size] }
abbrev zm4 (h : Heap) (l1 l2 : Addr) : Heap := (zm3 h l1 l2).push { cls := .type "tuple", data := .seq #[.none, .none] }
abbrev zm5 (h : Heap) (l1 l2 : Addr) : Heap := (zm4 h l1 l2).push { cls := .type "zip", data := .fields #[.none, .bool false, .bool false, .ref (zm2 h l1 l2).objs.size, .ref (zm3 h l1 l2).objs.size] }
theorem meets_zm (l1 l2 : Addr) (xs ys : Array Value) : Meets (Builtin.«zip.__new__» ⟨[.type "zip", .ref l1, .ref l2], []⟩) (fun _ R s => s.heap.IsList l1 xs ∧ s.heap.IsTuple l2 ys ∧ R (.ok (.ret (.ref (zm4 s.heap l1 l2).objs.size))) { s with heap := zm5 s.heap l1 l2 }) :=
  .of_wp fun prog w A R s h => by
    obtain ⟨hp, g, d, tk, os⟩ := s
    obtain ⟨h1, h2, h⟩ := h
    have hs := sub_zip
    have e1 : Heap.IsList (Shared.heap ⟨hp, g, d, tk, os⟩) l1 xs := h1
    have e2 : Heap.IsTuple (Shared.heap ⟨hp.push { cls := .type "list_iterator", data := .fields #[.ref l1, .int 0 0] }, g, d, tk, os⟩) l2 ys := Heap.IsTuple.push h2 _
    wp_walk using wpAny_pyIter_list e1, wpAny_pyIter_tuple e2
    exact ⟨_, rfl, h⟩
theorem five_nd (n : Nat) : [n + 4, n + 2, n + 3, n, n + 1].Nodup := by
  simp
theorem five_off {b n : Nat} (h : b < n) : b ∉ [n + 4, n + 2, n + 3, n, n + 1] := by
  simp
  omega
theorem four_off {b n : Nat} (h : b < n) : b ∉ [n + 4, n + 3, n, n + 1] := by
  simp
  omega
section
variable {P : Program} {w : World} {A : Around} {E : Value → Shared → Prop} {s : Shared}
theorem dict_zip {l1 l2 : Addr} {xs ys : Array Value} {kvs : List (Key × Value)} {Q : Value → Shared → Prop} (hA : A.handled = none) (h1 : s.heap.IsList l1 xs) (h2 : s.heap.IsTuple l2 ys) (hn : min xs.size ys.size ≤ sizeLine) (hl : kvs.length = min xs.size ys.size)
    (hk : ∀ (i : Nat) (key v : Value), xs[i]? = some key → ys[i]? = some v → ∃ k, kvs[i]? = some (k, v) ∧ (mixKind P w).is k key = true)
    (hQ : ∀ h' tk a, s.heap.objs.size ≤ a → h'.DictOf (mixKind P w) a (merged [] kvs) → (∀ b o, s.heap.get? b = some o → h'.get? b = some o) → Q (.ref a) { s with heap := h', toks := tk }) :
    wpAny (model P w) A (call (.type "zip") [.ref l1, .ref l2]) (fun v s' => wpAny (model P w) A (call (.type "dict") [v]) Q E s') E s := by
  refine callType_new F.called_zip (by decide) (F.typeCall_zip_2 _ _) (F.newCall_zip_2 _ _) (fun obj => F.args_object_init_3 obj _ _) F.entry_zip_new (meets_zm l1 l2 xs ys) ⟨h1, h2, ?_⟩
  obtain ⟨N, hN⟩ : ∃ N, N = s.heap.objs.size := ⟨_, rfl⟩
  have size1 : (zm1 s.heap l1).objs.size = N + 1 := (Heap.size_push ..).trans (by rw [hN])
  have size2 : (zm2 s.heap l1 l2).objs.size = N + 2 := (Heap.size_push ..).trans (by rw [size1])
  have size3 : (zm3 s.heap l1 l2).objs.size = N + 3 := (Heap.size_push ..).trans (by rw [size2])
  have size4 : (zm4 s.heap l1 l2).objs.size = N + 4 := (Heap.size_push ..).trans (by rw [size3])
  have z5 : (zm5 s.heap l1 l2).objs.size = s.heap.objs.size + 5 := (Heap.size_push ..).trans (by rw [size4, hN])
  have put : ∀ (h : Heap) (o : Obj) (n : Nat), h.objs.size = n → o.isFreed = false → (h.push o).get? n = some o := fun h o n e f => by subst e; exact Heap.get?_push_size _ f
  have up : ∀ c o, s.heap.get? c = some o → (zm5 s.heap l1 l2).get? c = some o := fun c o x => Heap.get?_push_of_some _ (Heap.get?_push_of_some _ (Heap.get?_push_of_some _ (Heap.get?_push_of_some _ (Heap.get?_push_of_some _ x))))
  have g5 : IsZip (zm5 s.heap l1 l2) (s.heap.objs.size + 4) (s.heap.objs.size + 2) (s.heap.objs.size + 3) .none := by
    have := put (zm4 s.heap l1 l2) { cls := .type "zip", data := .fields #[.none, .bool false, .bool false, .ref (zm2 s.heap l1 l2).objs.size, .ref (zm3 s.heap l1 l2).objs.size] } (N + 4) size4 rfl
    rw [size2, size3, hN] at this
    show (zm5 s.heap l1 l2).get? _ = _
    rw [show zm5 s.heap l1 l2 = (zm4 s.heap l1 l2).push { cls := .type "zip", data := .fields #[.none, .bool false, .bool false, .ref (s.heap.objs.size + 2), .ref (s.heap.objs.size + 3)] } by rw [← hN, ← size2, ← size3]]
    exact this
  have g4 : IsPair (zm5 s.heap l1 l2) (s.heap.objs.size + 3) .none .none := by
    rw [← hN]
    exact Heap.get?_push_of_some _ (put (zm3 s.heap l1 l2) _ (N + 3) size3 rfl)
  have g3 : IsPair (zm5 s.heap l1 l2) (s.heap.objs.size + 2) (.ref s.heap.objs.size) (.ref (s.heap.objs.size + 1)) := by
    have := put (zm2 s.heap l1 l2) { cls := .type "tuple", data := .seq #[.ref s.heap.objs.size, .ref (zm1 s.heap l1).objs.size] } (N + 2) size2 rfl
    have q : (zm5 s.heap l1 l2).get? (N + 2) = some { cls := .type "tuple", data := .seq #[.ref s.heap.objs.size, .ref (zm1 s.heap l1).objs.size] } := Heap.get?_push_of_some _ (Heap.get?_push_of_some _ this)
    rw [size1, hN] at q
    exact q
  have g2 : (zm5 s.heap l1 l2).get? (s.heap.objs.size + 1) = some { cls := .type "tuple_iterator", data := .fields #[.ref l2, .int 0 0] } := by
    rw [← hN]
    exact Heap.get?_push_of_some _ (Heap.get?_push_of_some _ (Heap.get?_push_of_some _ (put (zm1 s.heap l1) _ (N + 1) size1 rfl)))
  have g1 : (zm5 s.heap l1 l2).get? s.heap.objs.size = some { cls := .type "list_iterator", data := .fields #[.ref l1, .int 0 0] } :=
    Heap.get?_push_of_some _ (Heap.get?_push_of_some _ (Heap.get?_push_of_some _ (Heap.get?_push_of_some _ (put s.heap _ _ rfl rfl))))
  show _ ∧ _
  rw [size4, hN]
  generalize zm5 s.heap l1 l2 = h5 at g1 g2 g3 g4 g5 up z5 ⊢
  refine ⟨⟨_, g5, rfl⟩, ?_⟩
  have lt1 : l1 < s.heap.objs.size := by obtain ⟨o, e, _⟩ := h1; exact Heap.lt_size e
  have lt2 : l2 < s.heap.objs.size := by obtain ⟨o, e, _⟩ := h2; exact Heap.lt_size e
  have D : Apt (s.heap.objs.size + 4) (s.heap.objs.size + 2) (s.heap.objs.size + 3) s.heap.objs.size (s.heap.objs.size + 1) [l1] [l2] := by
    refine ⟨five_nd _, fun b hb => ?_, fun b hb => ?_⟩
    · rw [List.mem_singleton.mp hb]
      exact five_off lt1
    · rw [List.mem_singleton.mp hb]
      exact five_off lt2
  have S1 := stp_list (P := P) (w := w) s.heap.objs.size l1 (Nat.ne_of_lt lt1) xs
  have S2 := stp_tup (P := P) (w := w) (s.heap.objs.size + 1) l2 (Nat.ne_of_lt (Nat.lt_succ_of_lt lt2)) ys
  refine PySem.call_dict_pairs (knd := mixKind P w) (kvs := kvs) (zipArg D S1 S2) hA ⟨g5, g3, ⟨_, _, g4⟩, ⟨⟨_, g1, rfl, rfl⟩, h1.at fun o e => up _ o e⟩, ⟨⟨_, g2, rfl, rfl⟩, h2.at fun o e => up _ o e⟩⟩ ⟨hl, fun i key v r => hk i key v r.1 r.2⟩ hn fun h' tk hd' fr => ?_
  refine hQ h' tk _ (by show s.heap.objs.size ≤ h5.objs.size; rw [z5]; omega) hd' fun b o e => fr b o ?_ (up b o e)
  exact four_off (Heap.lt_size e)
end
end Dv
namespace Dv
open PySem PySem.Spec PyProof.Rows L2
theorem kv_zip {ys : List V} {us : List Value} (r : Vals ys us) : ∀ ks : List Key, KV (ks.zip ys) (ks.zip us) := by
  unfold KV
  induction r with
  | nil => intro ks; rw [List.zip_nil_right, List.zip_nil_right]; exact .nil
  | cons h _ ih =>
    intro ks
    cases ks with
    | nil => exact .nil
    | cons k ks => exact .cons ⟨rfl, h⟩ (ih ks)
def tDictZip (K : PySem.W.Frag) (ta : TA) : TE := fun g H Q => ta g H fun vs H1 => ∃ (a b : Addr) (ks : List Key) (ys : List V), vs = [.ref a, .ref b] ∧ SqL K H1 a (ks.map kV) ∧ SqT K H1 b ys ∧ ∀ p, H1 p = none → Q (.ref p) (upd H1 p (.dK (mergeK [] (ks.zip ys))))
section
variable {X : Cx} {Wx : WX}
theorem pe_dictZip {e e2 : Expr} {ta : TA} {p p2 q pos : Pos} (hc : X.calm = true) (hg : Gl X "dict") (hm : X.mg "dict" = none) (hg2 : Gl X "zip") (hm2 : X.mg "zip" = none) (ha : PA X [e, e2] ta)
    (hs : starEach [e, e2] X.env = (false, eval e X.env) :: starEach [e2] X.env := by rfl) (hpl : (backTo q (starEach [e2] X.env)).any (·.1) = false := by rfl) : PE X (.Call (.Name "dict" p) [.Call (.Name "zip" p2) [e, e2] [] q] [] pos) (tDictZip X.K ta) := by
  refine ⟨fun pins s g H Q I h => ?_⟩
  refine Call_ (ld_blt I hg hm PyProof.Rows.boot_dict ?_)
  refine PyProof.Rows.callWith_type1 (PyProof.Rows.args_cons ?_ rfl) rfl rfl
  refine Call_ (ld_blt I hg2 hm2 PyProof.Rows.boot_zip (PyProof.Rows.callWith_type1 (thn (ha.run q pins s g H _ I h) fun us s1 ⟨vs, H1, I1, r1, q1⟩ => ?_) hs hpl))
  obtain ⟨a, b, ks, ys, rfl, hA, hB, k⟩ := q1
  obtain ⟨u1, u2, rfl, ru1, ru2⟩ := vals2 r1
  cases ru1
  cases ru2
  obtain ⟨its1, v1, l1, z1⟩ := I1.list hA
  obtain ⟨its2, v2, l2, z2⟩ := I1.tuple hB
  have n1 : its1.length = ks.length := by rw [← v1.length, List.length_map]
  have n2 : its2.length = ys.length := v2.length.symm
  have len : (ks.zip its2).length = min its1.toArray.size its2.toArray.size := by rw [List.length_zip, List.size_toArray, List.size_toArray, n1]
  have small : min its1.toArray.size its2.toArray.size ≤ sizeLine := by
    rw [List.size_toArray]
    refine Nat.le_trans (Nat.min_le_left ..) ?_
    rw [n1, ← List.length_map (f := kV)]
    exact z1
  refine thn (dict_zip (kvs := ks.zip its2) (I1.ok.hd hc) l1.isList l2 small len (fun i key v e1 e2 => ?_) fun h' tk d hd dd fr => ?_) fun v s2 h2 => PyProof.Rows.args_nil h2
  · rw [List.getElem?_toArray] at e1 e2
    have hi : i < ks.length := by rw [← n1]; exact (List.getElem?_eq_some_iff.mp e1).1
    refine ⟨ks[i], ?_, ?_⟩
    · rw [List.getElem?_zip_eq_some]
      exact ⟨List.getElem?_eq_getElem hi, e2⟩
    · obtain ⟨u, g1, g2⟩ := v1.get (show (ks.map kV)[i]? = some (kV ks[i]) by rw [List.getElem?_map, List.getElem?_eq_getElem hi]; rfl)
      rw [e1] at g1
      cases g1
      exact kV_is g2
  · have big : (d == sysModules) = false := beq_eq_false_iff_ne.mpr (Nat.ne_of_gt (Nat.lt_of_lt_of_le I1.big hd))
    have hl : (mergeK [] (ks.zip ys)).length ≤ sizeLine := by
      refine Nat.le_trans (length_mergeK _ _) ?_
      rw [List.length_nil, Nat.zero_add, List.length_zip]
      refine Nat.le_trans (Nat.min_le_left ..) ?_
      rw [← List.length_map (f := kV)]
      exact z1
    exact ⟨.ref d, upd H1 d (.dK (mergeK [] (ks.zip ys))), I1.laid (t' := tk) fr hd ⟨hl, big, merged [] (ks.zip its2), KV.merge (kv_zip v2 ks) .nil, dd⟩, rfl, k d (I1.hok.fresh hd)⟩
def keysOf : List D → Option (List Key)
  | [] => some []
  | d :: ds => (keyOf d).bind fun k => (keysOf ds).map (k :: ·)
def mergeKD (kds more : List (Key × D)) : List (Key × D) := more.foldl (fun acc kd => putKD acc kd.1 kd.2) kds
def dictZipD (ds : List D) (_ : Store) : Option D := match ds with
  | [.lst ns, .tup vs] => (keysOf ns).map fun ks => .dct (mergeKD [] (ks.zip vs))
  | _ => none
@[simp] theorem dictZipD_ap (ns vs : List D) (S : Store) : dictZipD [.lst ns, .tup vs] S = (keysOf ns).map fun ks => .dct (mergeKD [] (ks.zip vs)) := rfl
theorem keysOf_strs : ∀ xs : List Str, keysOf (xs.map D.str) = some (xs.map Sum.inr)
  | [] => rfl
  | x :: xs => by
    show (some (Sum.inr x)).bind (fun k => (keysOf (xs.map D.str)).map (k :: ·)) = _
    rw [keysOf_strs xs]
    rfl
theorem keysOf_rep {K : PySem.W.Frag} {T : Tb} {H : Hp} : ∀ {ns : List D} {ks : List Key} {vs : List V}, RepL K T H vs ns → keysOf ns = some ks → vs = ks.map kV
  | [], ks, _, .nil, e => by cases e; rfl
  | d :: ns, ks, _, .cons r rl, e => by
    unfold keysOf at e
    cases q : keyOf d with
    | none => rw [q] at e; cases e
    | some k =>
      rw [q] at e
      have e : (keysOf ns).map (k :: ·) = some ks := e
      obtain ⟨ks', e2, rfl⟩ := Option.map_eq_some_iff.mp e
      rw [List.map_cons, keysOf_rep rl e2, key_rep r q]
theorem RepK.merge {K : PySem.W.Frag} {T : Tb} {H : Hp} : ∀ {ks : List Key} {vs : List V} {ds : List D} {kvs : List (Key × V)} {kds : List (Key × D)}, RepL K T H vs ds → RepK K T H kvs kds → RepK K T H (mergeK kvs (ks.zip vs)) (mergeKD kds (ks.zip ds))
  | [], _, _, _, _, _, h => h
  | k :: ks, _, _, _, _, .nil, h => h
  | k :: ks, _, _, _, _, .cons r rl, h => RepK.merge (ks := ks) rl (h.put k r)
theorem j_dictZip {e e2 : Expr} {ms : AM} {p p2 q pos : Pos} (hc : X.calm = true) (hg : Gl X "dict") (hm : X.mg "dict" = none) (hg2 : Gl X "zip") (hm2 : X.mg "zip" = none) (ha : PA X [e, e2] (tDA X.K X.mg Wx ms))
    (hs : starEach [e, e2] X.env = (false, eval e X.env) :: starEach [e2] X.env := by rfl) (hpl : (backTo q (starEach [e2] X.env)).any (·.1) = false := by rfl) : PE X (.Call (.Name "dict" p) [.Call (.Name "zip" p2) [e, e2] [] q] [] pos) (tD X.K X.mg Wx (mCall dictZipD ms)) :=
  pe_imp (pe_dictZip hc hg hm hg2 hm2 ha hs hpl) fun g H Q h => by
    obtain ⟨T, r, S, rs, sim, h⟩ := h
    refine ⟨T, r, S, rs, sim, Out.bind h fun ds S1 T1 H1 vs st sim1 rel h1 => ?_⟩
    refine Out.use h1 fun d ed k => ?_
    unfold dictZipD at ed
    split at ed
    · rename_i ns vd
      obtain ⟨ks, ek, rfl⟩ := Option.map_eq_some_iff.mp ed
      cases rel with
      | cons q1 rel =>
        cases rel with
        | cons q2 rel =>
          cases rel
          cases q1 with
          | @lst a us _ ha1 ha2 ha3 =>
            cases q2 with
            | @tup b ws _ hb1 hb2 hb3 =>
              have e1 := keysOf_rep ha3 ek
              subst e1
              refine ⟨a, b, ks, ws, rfl, SqL.of ha1, SqT.of hb1, fun pp hp => ?_⟩
              have stp := sim1.stepNew (o := .dK (mergeK [] (ks.zip ws))) hp
              have rk : RepK X.K T1 H1 (mergeK [] (ks.zip ws)) (mergeKD [] (ks.zip vd)) := RepK.merge hb3 ⟨rfl, .nil⟩
              have rk2 := rk.step stp
              exact k T1 _ (.ref pp) stp (sim1.new hp (hlen_oth sim1.hl fun xs => ⟨(by intro z; cases z), (by intro z; cases z), (by intro x z; cases z), (by intro x z; cases z)⟩)) (.dct (.inl upd_same) (sim1.off hp) rk2.1 rk2.2)
    · cases ed
end
end Dv
namespace Dv
open PySem L2
section
variable {rows : List (List Int)}
end
section
variable {ns : List Int} {t n : Nat} {y2 : Option D}
theorem rows_of {rows : List (List Int)} : ∀ {ds : List D}, (∀ d ∈ ds, d ∈ rows.map rowD) → ∃ m : List (List Int), ds = m.map rowD
  | [], _ => ⟨[], rfl⟩
  | d :: ds, h => by
    obtain ⟨l, _, rfl⟩ := List.mem_map.mp (h d List.mem_cons_self)
    obtain ⟨m, rfl⟩ := rows_of (rows := rows) fun e he => h e (List.mem_cons_of_mem _ he)
    exact ⟨l :: m, rfl⟩
end
end Dv
namespace Dv
open PySem PySem.Spec PyProof.Rows L2
section
variable {prog : Program} {w : World} {A : Around} {E : Value → Shared → Prop} {s : Shared}
end
section
variable {X : Cx} {Wx : WX} {m : EM}
end
end Dv
namespace Dv
open PySem PySem.Spec PyProof.Rows L2
section
variable {X : Cx}
end
section
variable {X : Cx} {Wx : WX} {m : EM} {K : PySem.W.Frag} {mg : Str → Option Value}
end
end Dv
namespace Dv
open PySem L2
def dinD (a b : D) (S : Store) : Option D := match keyOf a, dctAt b S with
  | some k, some kds => some (.bl (valKD kds k).isSome)
  | _, _ => none
def dputD (o y z : D) (r : Dv.Env) (S : Store) : Z := match o with
  | .loc n => match S[n]?, keyOf y with
    | some (.dct kds), some k => if kds.length < 90000 then .ok .next r (List.set S n (.dct (putKD kds k z))) else .bad
    | _, _ => .bad
  | _ => .bad
def sDPutD (mo mi mv : EM) : SM := fun r S => bindS (mv r S) r fun z S1 => bindS (mo r S1) r fun o S2 => bindS (mi r S2) r fun y S3 => dputD o y z r S3
@[simp] theorem sDPutD_ap {mo mi mv : EM} {r : Dv.Env} {S : Store} : sDPutD mo mi mv r S = bindS (mv r S) r fun z S1 => bindS (mo r S1) r fun o S2 => bindS (mi r S2) r fun y S3 => dputD o y z r S3 := rfl
section
variable {X : Cx} {Wx : WX} {o i e f : Expr} {pos pos' apos cpos : Pos} {mo mi mx mv : EM}
theorem valKD_is {K : PySem.W.Frag} {T : Tb} {H : Hp} {kvs : List (Key × V)} {kds : List (Key × D)} (rk : RepK K T H kvs kds) (k : Key) : (valV kvs k).isSome = (valKD kds k).isSome := by
  rcases rk.val k with ⟨z1, z2⟩ | ⟨v, d, z1, z2, _⟩ <;> rw [z1, z2] <;> rfl
theorem j_din (hu : X.A.units + 64 < cLine) (hi : PE X i (tD X.K X.mg Wx mi)) (ho : PE X o (tD X.K X.mg Wx mo)) (h1 : behindInMarks .In o = false := by rfl) : PE X (.Compare i [.In] [o] pos) (tD X.K X.mg Wx (mBin dinD mi mo)) :=
  pe_imp (pe_cmp (pc_din (by omega) hi ho) h1) fun g H Q h => by
    obtain ⟨T, r, S, rs, sim, h⟩ := h
    refine ⟨T, r, S, rs, sim, Out.bind h fun x S1 T1 H1 v st sim1 rel h1 => ?_⟩
    refine ⟨T1, r, S1, rs.step st, sim1, Out.bind h1 fun y S2 T2 H2 w st2 sim2 rel2 h2 => ?_⟩
    refine Out.use h2 fun d e k => ?_
    unfold dinD at e
    split at e
    · rename_i key kds e1 e2
      cases e
      obtain ⟨a, kvs, rfl, hr, rk⟩ := dctAt_rep sim2 rel2 e2
      have ew := key_rep rel e1
      subst ew
      rw [← valKD_is rk key] at k
      exact ⟨a, valV kvs key, rfl, .inl ⟨kvs, key, hr, rfl, rfl⟩, k T2 H2 _ (Step.refl T2 H2) sim2 (.bl _)⟩
    · cases e
theorem js_dput (hu : X.A.units + 64 < cLine) (hv : PE X e (tD X.K X.mg Wx mv)) (ho : PE X o (tD X.K X.mg Wx mo)) (hi : PE X i (tD X.K X.mg Wx mi)) (hs : swapsWith e (some (.Subscript o i pos')) pos.line X.env = pure false := by rfl) :
    PS X (.Assign [.Subscript o i pos'] e pos) (tDS X.K X.mg Wx (sDPutD mo mi mv)) :=
  ps_imp (ps_dput (by omega) ho hi hv hs) fun E g H h => by
    obtain ⟨T, r, S, rs, sim, h⟩ := h
    refine ⟨T, r, S, rs, sim, ZOut.bind h rs fun z S1 T1 H1 u st sim1 rel rs1 h1 => ?_⟩
    refine ⟨T1, r, S1, rs1, sim1, ZOut.bind h1 rs1 fun o S2 T2 H2 x st2 sim2 rel2 rs2 h2 => ?_⟩
    refine ⟨T2, r, S2, rs2, sim2, ZOut.bind h2 rs2 fun y S3 T3 H3 w st3 sim3 rel3 rs3 h3 => ?_⟩
    unfold dputD at h3
    split at h3
    · rename_i n
      split at h3
      · rename_i kds key e1 e2
        split at h3
        · rename_i hlt
          cases rel2.step st3 with
          | @loc a _ hn =>
            obtain ⟨kvs, q1, q2, q3⟩ := sim3.obj n a _ hn e1
            have rk : RepK X.K T3 H3 kvs kds := ⟨q2, q3⟩
            have ew := key_rep rel3 e2
            subst ew
            have hz : kvs.length < sizeLine := by
              rw [rk.length]
              exact Nat.lt_of_lt_of_le (show kds.length < 100000 by omega) (sz5 (Nat.le_refl _))
            have hmem : a ∈ T3.loc := List.mem_of_getElem? hn
            have st4 : Step T3 H3 T3 (upd H3 a (.dK (putK kvs key u))) := sim3.stepSet hmem
            have hl : HLen (upd H3 a (.dK (putK kvs key u))) := hlen_oth sim3.hl fun xs => ⟨(by intro z; cases z), (by intro z; cases z), (by intro x z; cases z), (by intro x z; cases z)⟩
            have rk4 := (rk.put key (rel.step (st2.trans st3))).step st4
            exact ⟨a, _, rfl, .inl ⟨kvs, key, q1, rfl, hz, rfl⟩, h3 T3 _ g st4 (sim3.set hn hl ⟨_, upd_same, rk4.1, rk4.2⟩) (rs3.step st4)⟩
        · exact h3.elim
      · exact h3.elim
    · exact h3.elim
end
end Dv
namespace Dv
open PySem L2
end Dv
namespace Dv
open PySem L2
def mIfT (tc ta tb : BM) : BM := fun r S => (tc r S).bind fun k S1 => if k = true then ta r S1 else tb r S1
@[simp] theorem mIfT_ap {tc ta tb : BM} {r : Env} {S : Store} : mIfT tc ta tb r S = (tc r S).bind fun k S1 => if k = true then ta r S1 else tb r S1 := rfl
section
variable {X : Cx} {Wx : WX} {c a b : Expr} {pos : Pos} {tc ta tb : BM}
theorem pt_ifT {wc wa wb : TT} (hc : PT X c wc) (ha : PT X a wa) (hb : PT X b wb) : PT X (.IfExp c a b pos) (fun g H Q => wc g H fun k H1 => if k = true then wa g H1 Q else wb g H1 Q) := by
  refine ⟨fun pins s g H Q I h => ?_⟩
  have e : PySem.isTrue (.IfExp c a b pos) X.env (eval (.IfExp c a b pos) X.env) = (do if ← PySem.isTrue c X.env (eval c X.env) then PySem.isTrue a X.env (eval a X.env) else PySem.isTrue b X.env (eval b X.env)) := by
    rw [PySem.isTrue]
  rw [e]
  refine wpAny_bind (thn (hc.run pins s g H _ I h) fun k s1 ⟨H1, I1, q1⟩ => ?_)
  cases k with
  | true => exact ha.run pins s1 g H1 Q I1 q1
  | false => exact hb.run pins s1 g H1 Q I1 q1
theorem jt_if (hc : PT X c (tDT X.K X.mg Wx tc)) (ha : PT X a (tDT X.K X.mg Wx ta)) (hb : PT X b (tDT X.K X.mg Wx tb)) : PT X (.IfExp c a b pos) (tDT X.K X.mg Wx (mIfT tc ta tb)) :=
  pt_imp (pt_ifT hc ha hb) fun g H Q h => by
    obtain ⟨T, r, S, rs, sim, h⟩ := h
    refine ⟨T, r, S, rs, sim, Out.bind h fun x S1 T1 H1 v st sim1 rel h1 => ?_⟩
    subst rel
    cases v with
    | true => exact ⟨T1, r, S1, rs.step st, sim1, h1⟩
    | false => exact ⟨T1, r, S1, rs.step st, sim1, h1⟩
end
end Dv
namespace Dv
open PySem L2
section
variable {X : Cx} {K : PySem.W.Frag} {mg : Str → Option Value}
end
end Dv
namespace Dv
open PySem PySem.Spec PyProof.Rows L2
section
variable {prog : Program} {w : World} {A : Around} {E : Value → Shared → Prop} {s : Shared}
end
section
variable {X : Cx} {Wx : WX} {e : Expr} {ms : AM} {pos p tpos : Pos} {elts : List Expr} {kk : Nat}
end
end Dv
namespace Dv
open PySem PySem.Spec PyProof.Rows L2
section
variable {X : Cx}
end
section
variable {K : PySem.W.Frag} {mg : Str → Option Value}
end
section
variable {X : Cx} {Wx : WX} {o e : Expr} {apos pos : Pos} {mo m : EM}
end
end Dv
namespace Dv
open PySem PySem.Spec PyProof.Rows L2
section
variable {X : Cx}
end
section
variable {X : Cx} {Wx : WX} {o e : Expr} {apos pos : Pos} {mo m : EM}
end
end Dv
namespace Dv
open PySem PySem.Spec PyProof.Rows L2
def keysL : List D → Option (List Key)
  | [] => some []
  | d :: ds => match keyOf d, keysL ds with
    | some k, some ks => some (k :: ks)
    | _, _ => none
def tkeyOf : D → Option (List Key)
  | .tup ds => keysL ds
  | _ => none
def valTD (kds : List (List Key × D)) (k : List Key) : Option D := (kds.find? fun kv => decide (kv.1 = k)).map (·.2)
def putTD (kds : List (List Key × D)) (k : List Key) (d : D) : List (List Key × D) :=
  if (kds.any fun kv => decide (kv.1 = k)) = true then kds.map fun kv => if kv.1 = k then (kv.1, d) else kv else kds ++ [(k, d)]
section
variable {K : PySem.W.Frag} {mg : Str → Option Value} {T : Tb} {H : Hp} {S : Store}
theorem keysL_rep : ∀ {ds : List D} {ks : List Key} {vs : List V}, RepL K T H vs ds → keysL ds = some ks → vs = ks.map kV
  | [], _, _, .nil, e => by cases e; rfl
  | d :: ds, ks, _, .cons r rr, e => by
    unfold keysL at e
    split at e
    · rename_i k ks' e1 e2
      cases e
      rw [key_rep r e1, keysL_rep rr e2]
      rfl
    · cases e
theorem tkey_rep {v : V} {d : D} {k : List Key} (h : Rep K T H v d) (e : tkeyOf d = some k) : ∃ b, v = .ref b ∧ H b = some (.tup (k.map kV)) ∧ T.off b := by
  cases h with
  | @tup a xs ds h1 n r => exact ⟨a, rfl, by rw [← keysL_rep r e]; exact h1, n⟩
  | _ => cases e
def RepT (K : PySem.W.Frag) (T : Tb) (H : Hp) (kvs : List (List Key × V)) (kds : List (List Key × D)) : Prop := kvs.map (·.1) = kds.map (·.1) ∧ RepL K T H (kvs.map (·.2)) (kds.map (·.2))
theorem RepT.nil : RepT K T H [] [] := ⟨rfl, .nil⟩
theorem RepT.uncons {kvs : List (List Key × V)} {k : List Key} {d : D} {kds : List (List Key × D)} (h : RepT K T H kvs ((k, d) :: kds)) : ∃ v r, kvs = (k, v) :: r ∧ Rep K T H v d ∧ RepT K T H r kds := by
  obtain ⟨h1, h2⟩ := h
  cases kvs with
  | nil => cases h1
  | cons p r =>
    obtain ⟨k', v⟩ := p
    rw [List.map_cons, List.map_cons, List.cons.injEq] at h1
    obtain ⟨rfl, h1⟩ := h1
    cases h2 with
    | cons a b => exact ⟨v, r, rfl, a, h1, b⟩
theorem RepT.cons {kvs : List (List Key × V)} {k : List Key} {v : V} {d : D} {kds : List (List Key × D)} (a : Rep K T H v d) (h : RepT K T H kvs kds) : RepT K T H ((k, v) :: kvs) ((k, d) :: kds) := ⟨by rw [List.map_cons, List.map_cons, h.1], .cons a h.2⟩
theorem RepT.kp {T' : Tb} {H' : Hp} {kvs : List (List Key × V)} {kds : List (List Key × D)} (s : Kp T H T' H') (h : RepT K T H kvs kds) : RepT K T' H' kvs kds := ⟨h.1, h.2.kp s⟩
theorem RepT.step {T' : Tb} {H' : Hp} {kvs : List (List Key × V)} {kds : List (List Key × D)} (s : Step T H T' H') (h : RepT K T H kvs kds) : RepT K T' H' kvs kds := h.kp s.kp
theorem RepT.length {kvs : List (List Key × V)} {kds : List (List Key × D)} (h : RepT K T H kvs kds) : kvs.length = kds.length := by
  have := congrArg List.length h.1
  simpa using this
theorem RepT.val (k : List Key) : ∀ {kds : List (List Key × D)} {kvs : List (List Key × V)}, RepT K T H kvs kds → (valV kvs k = none ∧ valTD kds k = none) ∨ ∃ v d, valV kvs k = some v ∧ valTD kds k = some d ∧ Rep K T H v d
  | [], kvs, h => by
    have : kvs = [] := List.eq_nil_of_length_eq_zero (by rw [h.length]; rfl)
    subst this
    exact .inl ⟨rfl, rfl⟩
  | (k', d) :: kds, kvs, h => by
    obtain ⟨v, r, rfl, a, b⟩ := h.uncons
    by_cases e : k' = k
    · refine .inr ⟨v, d, valV_pos e, ?_, a⟩
      unfold valTD
      simp [List.find?_cons, e]
    · have e2 : valTD ((k', d) :: kds) k = valTD kds k := by
        unfold valTD
        simp [List.find?_cons, e]
      rw [valV_neg (p := (k', v)) e, e2]
      exact b.val k
theorem RepT.any (k : List Key) : ∀ {kds : List (List Key × D)} {kvs : List (List Key × V)}, RepT K T H kvs kds → (kvs.any fun kv => decide (kv.1 = k)) = kds.any fun kv => decide (kv.1 = k)
  | [], kvs, h => by
    have : kvs = [] := List.eq_nil_of_length_eq_zero (by rw [h.length]; rfl)
    subst this
    rfl
  | (k', d) :: kds, kvs, h => by
    obtain ⟨v, r, rfl, a, b⟩ := h.uncons
    rw [List.any_cons, List.any_cons, b.any k]
theorem RepT.repl {v : V} {d : D} (rv : Rep K T H v d) (k : List Key) : ∀ {kds : List (List Key × D)} {kvs : List (List Key × V)}, RepT K T H kvs kds → RepT K T H (kvs.map fun kv => if kv.1 = k then (kv.1, v) else kv) (kds.map fun kv => if kv.1 = k then (kv.1, d) else kv)
  | [], kvs, h => by
    have : kvs = [] := List.eq_nil_of_length_eq_zero (by rw [h.length]; rfl)
    subst this
    exact .nil
  | (k', d') :: kds, kvs, h => by
    obtain ⟨v', r, rfl, a, b⟩ := h.uncons
    rw [List.map_cons, List.map_cons]
    by_cases e : k' = k
    · simp only [e, if_true]
      exact .cons rv (b.repl rv k)
    · simp only [e, if_false]
      exact .cons a (b.repl rv k)
theorem RepT.snoc {v : V} {d : D} {k : List Key} {kds : List (List Key × D)} {kvs : List (List Key × V)} (h : RepT K T H kvs kds) (rv : Rep K T H v d) : RepT K T H (kvs ++ [(k, v)]) (kds ++ [(k, d)]) := ⟨by rw [List.map_append, List.map_append, h.1]; rfl, by
  rw [List.map_append, List.map_append]
  exact RepL.append h.2 (.cons rv .nil)⟩
theorem RepT.put {v : V} {d : D} {kds : List (List Key × D)} {kvs : List (List Key × V)} (h : RepT K T H kvs kds) (k : List Key) (rv : Rep K T H v d) : RepT K T H (putK kvs k v) (putTD kds k d) := by
  unfold putK putTD
  rw [h.any k]
  split
  · exact h.repl rv k
  · exact h.snoc rv
def dttAt (d : D) (S : Store) : Option (List (List Key × D)) := match d with
  | .dtt kds => some kds
  | .loc n => match S[n]? with
    | some (.dtt kds) => some kds
    | _ => none
  | _ => none
@[simp] theorem dttAt_dtt (kds : List (List Key × D)) (S : Store) : dttAt (.dtt kds) S = some kds := rfl
@[simp] theorem dttAt_loc (n : Nat) (S : Store) : dttAt (.loc n) S = (match S[n]? with
    | some (.dtt kds) => some kds
    | _ => none) := rfl
theorem dttAt_rep {v : V} {d : D} {kds : List (List Key × D)} (sim : Sim K mg T S H) (r : Rep K T H v d) (e : dttAt d S = some kds) : ∃ a kvs, v = .ref a ∧ Rd H a (.dT kvs) ∧ RepT K T H kvs kds := by
  cases r with
  | dtt h n e' r' =>
    cases e
    exact ⟨_, _, rfl, h, e', r'⟩
  | @loc a n h =>
    simp only [dttAt] at e
    split at e
    · rename_i ys hs
      cases e
      obtain ⟨kvs, h1, h2, h3⟩ := sim.obj n a _ h hs
      exact ⟨a, kvs, rfl, .inl h1, h2, h3⟩
    · cases e
  | _ => cases e
end
end Dv
namespace Dv
open PySem PySem.Spec PyProof.Rows L2
section
variable {X : Cx} {kx vx tg iter : Expr} {ifs : List Expr} {scope : Scope} {own : List (Str × Nat)} {pos : Pos} {wi : TI} {gt : TG} {tt : TT} {tk tv : TE}
end
end Dv
namespace Dv
open PySem L2
theorem nodictT {H : Hp} {p : Addr} {kvs : List (List Key × V)} (h : HLen H) : HLen (upd H p (.dT kvs)) := hlen_oth h fun xs => ⟨(by intro z; cases z), (by intro z; cases z), (by intro x z; cases z), (by intro x z; cases z)⟩
section
variable {X : Cx} {Wx : WX} {kx vx tg iter : Expr} {ifs : List Expr} {scope : Scope} {own : List (Str × Nat)} {pos : Pos} {mi : IM} {sl : List Nat} {gm : D → Env → Option Env} {tt : BM} {tk tv : EM} {nw : Bool}
end
end Dv
namespace Dv
open PySem PySem.Spec PyProof.Rows L2
section
variable {prog : Program} {w : World} {A : Around} {E : Value → Shared → Prop} {s : Shared}
end
section
variable {X : Cx} {Wx : WX} {o : Expr} {p apos mpos pos : Pos} {mo : EM}
end
end Dv
namespace Dv
open PySem PySem.Spec PyProof.Rows L2
def mNewDT0 : EM := fun _ S => .ok (.loc S.length) (S ++ [.dtt []])
@[simp] theorem mNewDT0_ap {r : Env} {S : Store} : mNewDT0 r S = .ok (.loc S.length) (S ++ [.dtt []]) := rfl
def dgetTD (a b : D) (S : Store) : Option D := match dttAt a S, tkeyOf b with
  | some kds, some k => valTD kds k
  | _, _ => none
def mDGet2T (mo mi mx : EM) : EM := fun r S => (mo r S).bind fun o S1 => if (dttAt o S1).isSome = true then (mi r S1).bind fun y S2 => (mx r S2).bind fun z S3 => match dttAt o S3, tkeyOf y with
  | some kds, some k => .ok ((valTD kds k).getD z) S3
  | _, _ => .bad else .bad
def dputTD (o y z : D) (r : Env) (S : Store) : Z := match o with
  | .loc n => match S[n]?, tkeyOf y with
    | some (.dtt kds), some k => if kds.length < 90000 then .ok .next r (List.set S n (.dtt (putTD kds k z))) else .bad
    | _, _ => .bad
  | _ => .bad
def sDPutT (mo mi mv : EM) : SM := fun r S => bindS (mv r S) r fun z S1 => bindS (mo r S1) r fun o S2 => bindS (mi r S2) r fun y S3 => dputTD o y z r S3
@[simp] theorem sDPutT_ap {mo mi mv : EM} {r : Env} {S : Store} : sDPutT mo mi mv r S = bindS (mv r S) r fun z S1 => bindS (mo r S1) r fun o S2 => bindS (mi r S2) r fun y S3 => dputTD o y z r S3 := rfl
section
variable {X : Cx} {Wx : WX} {o i e f : Expr} {pos pos' apos cpos : Pos} {mo mi mx mv : EM}
theorem j_newDT0 : PE X (.Dict [] [] pos) (tD X.K X.mg Wx mNewDT0) := by
  refine pe_imp pe_dnewT fun g H Q h => ?_
  obtain ⟨T, r, S, rs, sim, h⟩ := h
  intro p hp
  exact h (T.add p) _ _ (sim.stepAlloc hp) (sim.alloc hp (nodictT sim.hl) ⟨[], upd_same, rfl, .nil⟩) (.loc sim.newGet)
theorem j_dgetT (hu : X.A.units + 64 < cLine) (hs : NoSl i) (ho : PE X o (tD X.K X.mg Wx mo)) (hi : PE X i (tD X.K X.mg Wx mi)) : PE X (.Subscript o i pos) (tD X.K X.mg Wx (mBin dgetTD mo mi)) := by
  refine pe_imp (pe_dget (by omega) ho hi hs) fun g H Q h => ?_
  obtain ⟨T, r, S, rs, sim, h⟩ := h
  refine ⟨T, r, S, rs, sim, Out.bind h fun x S1 T1 H1 v st sim1 rel h1 => ?_⟩
  refine ⟨T1, r, S1, rs.step st, sim1, Out.bind h1 fun y S2 T2 H2 w st2 sim2 rel2 h2 => ?_⟩
  refine Out.use h2 fun d e k => ?_
  unfold dgetTD at e
  split at e
  · rename_i kds key e1 e2
    obtain ⟨a, kvs, rfl, hr, rk⟩ := dttAt_rep sim2 (rel.step st2) e1
    obtain ⟨b, rfl, hb, _⟩ := tkey_rep rel2 e2
    rcases rk.val key with ⟨_, z⟩ | ⟨v', d', z1, z2, z3⟩
    · rw [z] at e
      cases e
    · rw [z2] at e
      cases e
      exact ⟨a, v', rfl, .inr ⟨kvs, key, b, hr, rfl, hb, z1.symm⟩, k T2 H2 v' (Step.refl T2 H2) sim2 z3⟩
  · cases e
theorem j_dget2T (hu : X.A.units + 64 < cLine) (ho : PE X o (tD X.K X.mg Wx mo)) (he : PE X e (tD X.K X.mg Wx mi)) (hf : PE X f (tD X.K X.mg Wx mx)) (m : M2 X o "get" apos e f cpos) : PE X (.Call (.Attribute o "get" apos) [e, f] [] cpos) (tD X.K X.mg Wx (mDGet2T mo mi mx)) := by
  refine pe_imp (pe_dget2 (by omega) ho he hf m) fun g H Q h => ?_
  obtain ⟨T, r, S, rs, sim, h⟩ := h
  refine ⟨T, r, S, rs, sim, Out.bind h fun x S1 T1 H1 v st sim1 rel h1 => ?_⟩
  by_cases hd : (dttAt x S1).isSome = true
  · rw [if_pos hd] at h1
    obtain ⟨kds0, e0⟩ := Option.isSome_iff_exists.mp hd
    obtain ⟨a, kvs0, rfl, hr0, _⟩ := dttAt_rep sim1 rel e0
    refine ⟨a, rfl, .inr ⟨kvs0, hr0⟩, T1, r, S1, rs.step st, sim1, Out.bind h1 fun y S2 T2 H2 w st2 sim2 rel2 h2 => ?_⟩
    refine ⟨T2, r, S2, (rs.step st).step st2, sim2, Out.bind h2 fun z S3 T3 H3 u st3 sim3 rel3 h3 => ?_⟩
    split at h3
    · rename_i kds key e1 e2
      obtain ⟨a', kvs, ea, hr, rk⟩ := dttAt_rep sim3 ((rel.step st2).step st3) e1
      cases ea
      obtain ⟨b, rfl, hb, _⟩ := tkey_rep (rel2.step st3) e2
      refine ⟨valV kvs key, .inr ⟨kvs, key, b, hr, rfl, hb, rfl⟩, h3 T3 H3 _ (Step.refl T3 H3) sim3 ?_⟩
      rcases rk.val key with ⟨z1, z2⟩ | ⟨v', d', z1, z2, z3⟩
      · rw [z1, z2]
        exact rel3
      · rw [z1, z2]
        exact z3
    · exact h3.elim
  · rw [if_neg hd] at h1
    exact h1.elim
theorem js_dputT (hu : X.A.units + 64 < cLine) (hv : PE X e (tD X.K X.mg Wx mv)) (ho : PE X o (tD X.K X.mg Wx mo)) (hi : PE X i (tD X.K X.mg Wx mi)) (hs : swapsWith e (some (.Subscript o i pos')) pos.line X.env = pure false := by rfl) :
    PS X (.Assign [.Subscript o i pos'] e pos) (tDS X.K X.mg Wx (sDPutT mo mi mv)) :=
  ps_imp (ps_dput (by omega) ho hi hv hs) fun E g H h => by
    obtain ⟨T, r, S, rs, sim, h⟩ := h
    refine ⟨T, r, S, rs, sim, ZOut.bind h rs fun z S1 T1 H1 u st sim1 rel rs1 h1 => ?_⟩
    refine ⟨T1, r, S1, rs1, sim1, ZOut.bind h1 rs1 fun o S2 T2 H2 x st2 sim2 rel2 rs2 h2 => ?_⟩
    refine ⟨T2, r, S2, rs2, sim2, ZOut.bind h2 rs2 fun y S3 T3 H3 w st3 sim3 rel3 rs3 h3 => ?_⟩
    unfold dputTD at h3
    split at h3
    · rename_i n
      split at h3
      · rename_i kds key e1 e2
        split at h3
        · rename_i hlt
          cases rel2.step st3 with
          | @loc a _ hn =>
            obtain ⟨kvs, q1, q2, q3⟩ := sim3.obj n a _ hn e1
            have rk : RepT X.K T3 H3 kvs kds := ⟨q2, q3⟩
            obtain ⟨b, rfl, hb, _⟩ := tkey_rep rel3 e2
            have hz : kvs.length < sizeLine := by
              rw [rk.length]
              exact Nat.lt_of_lt_of_le (show kds.length < 100000 by omega) (sz5 (Nat.le_refl _))
            have st4 : Step T3 H3 T3 (upd H3 a (.dT (putK kvs key u))) := sim3.stepSet (List.mem_of_getElem? hn)
            have rk4 := (rk.put key (rel.step (st2.trans st3))).step st4
            exact ⟨a, _, rfl, .inr ⟨kvs, key, b, q1, rfl, hb, hz, rfl⟩, h3 T3 _ g st4 (sim3.set hn (nodictT sim3.hl) ⟨_, upd_same, rk4.1, rk4.2⟩) (rs3.step st4)⟩
        · exact h3.elim
      · exact h3.elim
    · exact h3.elim
end
theorem keys_refs {H : Hp} : ∀ {kvs : List (List Key × V)} {ks : List (List Key × Addr × Value)} {rows : List (List Int)}, KT H kvs ks → kvs.map (·.1) = rows.map (List.map Sum.inl) → ∃ L : List (Addr × List Int), L.map (·.2) = rows ∧ (ks.map fun x => Value.ref x.2.1) = L.map (fun p => Value.ref p.1) ∧ ∀ p ∈ L, H p.1 = some (.tup (p.2.map V.int))
  | _, _, [], .nil, _ => ⟨[], rfl, rfl, by simp⟩
  | _, _, _ :: _, .nil, e => by cases e
  | _, _, [], .cons _ _, e => by cases e
  | (k, v) :: kvs, (k', b, u) :: ks, r :: rows, .cons h t, e => by
    rw [List.map_cons, List.map_cons, List.cons.injEq] at e
    obtain ⟨L, h1, h2, h3⟩ := keys_refs t e.2
    refine ⟨(b, r) :: L, by rw [List.map_cons, h1], by rw [List.map_cons, List.map_cons, h2], fun p hp => ?_⟩
    rcases List.mem_cons.mp hp with rfl | hp
    · have hb : H b = some (.tup (k.map kV)) := h.2.1
      have ek : k = r.map Sum.inl := e.1
      rw [ek, List.map_map] at hb
      exact hb
    · exact h3 p hp
def rSortDT : List V → Hp → VK → Prop := fun vs H Q => ∃ (a : Addr) (kvs : List (List Key × V)) (rows : List (List Int)), vs = [V.ref a] ∧ Rd H a (.dT kvs) ∧ kvs.map (·.1) = rows.map (List.map Sum.inl) ∧ (2 ≤ rows.length → ∀ r ∈ rows, r ≠ []) ∧ rows.length ≤ 4000 ∧
  ∀ (ys : List (Addr × List Int)) p, (ys.map (·.2)).Perm rows → (∀ y ∈ ys, H y.1 = some (.tup (y.2.map V.int))) → ys.Pairwise (fun u v => ltR v.2 u.2 = false) → H p = none → Q (.ref p) (upd H p (.lst (ys.map fun y => V.ref y.1)))
theorem cr_sortDT {X : Cx} (hc : X.calm = true) : CallR X (.builtin "sorted") rSortDT := by
  intro pins s g H vs us Q I r h
  obtain ⟨a, kvs, rows, rfl, ha, hr, hne, few, q⟩ := h
  rw [Vals.ref1 r]
  obtain ⟨z, hs, ks, pr, ob, es, ep, ho, hx, hdt, hes, hn⟩ := (show ObjOk X.prog X.w H s.heap a (.dT kvs) from ha.ok I.hok)
  obtain ⟨L, e1, e2, hL⟩ := keys_refs pr hr
  have l1 : es.size = ks.length := size_of_entries hes
  have l2 : kvs.length = ks.length := Paired.length pr
  refine Calls.call_function_entry kind_sorted plain_sorted entry_sorted (args_sorted1 _) ?_
  unfold Builtin.«sorted»
  refine wpAny_bind (m := checkCount "sorted" 1 1 _) (wpAny_pure ?_)
  refine wpAny_bind (PySem.W.kdu_collect (A := X.A.in1) (kdl_raw hs hx hdt) (by simp [I.ok.hd hc]) ho (by omega) fun h' tk acc k1 it => ?_)
  have ea : acc.toList = ks.map fun x => Value.ref x.2.1 := by
    have hl : acc.toList.length = ks.length := by rw [Array.length_toList, it.1]; exact l1
    apply List.ext_getElem?
    intro j
    rw [List.getElem?_map]
    cases hj : acc.toList[j]? with
    | none =>
      have h1 := List.getElem?_eq_none_iff.mp hj
      rw [List.getElem?_eq_none (by omega)]
      all_goals rfl
    | some v =>
      obtain ⟨en, hen, hv⟩ := it.2 j v (by rw [← Array.getElem?_toList]; exact hj)
      have qe := entry_at hes j
      rw [hen] at qe
      cases hb : ks[j]? with
      | none =>
        rw [hb] at qe
        exact nomatch (show some en = none from qe)
      | some b =>
        rw [hb] at qe
        have e2 : en = entryOfKey (tupleKind (mixKind X.prog X.w)) b := Option.some.inj qe
        rw [hv, e2]
        all_goals rfl
  rw [ea, e2]
  have I1 : Inv X pins g H { s with heap := h', toks := tk } := I.kept (t' := tk) k1
  have lenL : L.length = rows.length := by rw [← e1, List.length_map]
  have lsz : (L.map fun p => Value.ref p.1).length ≤ sizeLine := by rw [List.length_map, lenL, sizeLine_eq]; omega
  refine wpAny_bind (wpAny_newList ?_ lsz)
  have tin : ∀ p ∈ L, TS.TupInts h' (.ref p.1) p.2 := fun p hp => tupInts_of (I1.isT (SqT.of (hL p hp)))
  have hoL : (h'.push (seqObj "list" (L.map fun p => Value.ref p.1).toArray 0)).get? h'.objs.size = some (seqObj "list" (L.map fun p => Value.ref p.1).toArray 0) := Heap.get?_push_size _ rfl
  have up1 : ∀ b o, h'.get? b = some o → (h'.push (seqObj "list" (L.map fun p => Value.ref p.1).toArray 0)).get? b = some o := fun b o e => Heap.get?_push_of_some _ e
  refine wpAny_bind (wpAny_holding (wpAny_call_entry slot_list_sort ⟨_, hoL, rfl⟩ entry_list_sort (SrtO.list_sort_ord (ltv := fun v u => ltR (TS.intsOf h' v) (TS.intsOf h' u)) ⟨fun x y => ltR_swo.asym _ _, fun x y z => ltR_swo.tr _ _ _⟩ hoL lsz (fun h2 => ?_) fun out hso hb => ⟨_, rfl, ?_⟩) (args_list_sort _)))
  · rw [List.length_map, lenL] at h2
    refine rows_sortable (h0 := h') (fun v hv => ?_) (by rw [List.length_map, lenL]; exact h2) (fun o e => ?_) fun v hv ns tt => ?_
    · obtain ⟨p, hp, rfl⟩ := List.mem_map.mp hv
      exact ⟨p.2, (tin p hp).keeps fun b o e _ => up1 b o e, hne h2 p.2 (by rw [← e1]; exact List.mem_map_of_mem hp)⟩
    · have e' : some o = some (seqObj "list" (L.map fun p => Value.ref p.1).toArray 0) := e.symm.trans hoL
      cases e'
      intro c
      exact absurd (Value.type.inj c) (by decide)
    · obtain ⟨p, hp, rfl⟩ := List.mem_map.mp hv
      have t1 := tin p hp
      have t2 := t1.keeps (h' := h'.push (seqObj "list" (L.map fun p => Value.ref p.1).toArray 0)) fun b o e _ => up1 b o e
      rw [t1.ints, ← t2.ints]
      exact tt.ints
  · obtain ⟨c, hcc⟩ := sortedHeap_at (vs := L.map fun p => Value.ref p.1) (out := out.toArray) hoL
    have po : out.Perm (L.map fun p => Value.ref p.1) := hb.perm
    obtain ⟨L2, pL2, rfl⟩ := perm_refs po L rfl
    have sd : L2.Pairwise fun u v => ltR v.2 u.2 = false := by
      have hs' : (L2.map fun p => Value.ref p.1).Pairwise fun u v => ltR (TS.intsOf h' v) (TS.intsOf h' u) = false := hso
      refine (List.pairwise_map.mp hs').imp_of_mem fun {u v} hu hv hq => ?_
      have e1 := (tin u (pL2.mem_iff.mp hu)).ints
      have e2 := (tin v (pL2.mem_iff.mp hv)).ints
      rw [e1, e2] at hq
      exact hq
    have fr : ∀ b u, h'.get? b = some u → (sortedHeap (h'.push (seqObj "list" (L.map fun p => Value.ref p.1).toArray 0)) h'.objs.size (L.map fun p => Value.ref p.1) (L2.map fun p => Value.ref p.1).toArray).get? b = some u := fun b u e => by
      have hlt := Heap.lt_size e
      rw [sortedHeap_old (Nat.ne_of_lt hlt) (by rw [size_push']; exact Nat.lt_succ_of_lt hlt)]
      exact Heap.get?_push_of_some _ e
    have hp : H h'.objs.size = none := I1.hok.fresh (Nat.le_refl _)
    refine wpAny_pure ⟨_, rfl, .ref h'.objs.size, upd H h'.objs.size (.lst (L2.map fun y => V.ref y.1)), ?_, rfl, q L2 _ (by rw [← e1]; exact pL2.map _) (fun y hy => hL y (pL2.mem_iff.mp hy)) sd hp⟩
    have hok : HOk X.prog X.w (upd H h'.objs.size (.lst (L2.map fun y => V.ref y.1))) _ := I1.hok.laid fr (Nat.le_refl _) ⟨by rw [List.length_map, pL2.length_eq, lenL, sizeLine_eq]; omega, L2.map fun p => Value.ref p.1, c, ?_, hcc⟩
    · exact I1.call' (ch := []) rfl (Un.laid fr (Nat.le_refl _) hp) hok I1.bare fun _ z => nomatch z
    · clear sd fr pL2 hcc hb hso po
      induction L2 with
      | nil => exact .nil
      | cons p L2 ih => exact .cons rfl ih
def rowK : List Key → Option (List Int)
  | [] => some []
  | .inl i :: ks => (rowK ks).map (i :: ·)
  | .inr _ :: _ => none
def rowsK : List (List Key × D) → Option (List (List Int))
  | [] => some []
  | (k, _) :: ks => match rowK k, rowsK ks with
    | some r, some rs => some (r :: rs)
    | _, _ => none
theorem rowK_some : ∀ {k : List Key} {r : List Int}, rowK k = some r → k = r.map Sum.inl
  | [], _, h => by cases h; rfl
  | .inl i :: ks, r, h => by
    obtain ⟨r', h1, rfl⟩ := Option.map_eq_some_iff.mp h
    rw [rowK_some h1]
    rfl
  | .inr _ :: _, _, h => by cases h
theorem rowsK_some : ∀ {kds : List (List Key × D)} {rows : List (List Int)}, rowsK kds = some rows → kds.map (·.1) = rows.map (List.map Sum.inl)
  | [], _, h => by cases h; rfl
  | (k, d) :: ks, rows, h => by
    unfold rowsK at h
    split at h
    · rename_i r rs e1 e2
      cases h
      rw [List.map_cons, List.map_cons, rowsK_some e2, rowK_some e1]
    · cases h
def sortDtD (ds : List D) (S : Store) : Option D := match ds with
  | [d] => match dttAt d S with
    | some kds => match rowsK kds with
      | some rows => if rows.length ≤ 4000 ∧ (2 ≤ rows.length → ∀ r ∈ rows, r ≠ []) then some (.lst ((sortL ltR rows).map rowD)) else none
      | none => none
    | none => none
  | _ => none
section
variable {K : PySem.W.Frag} {mg : Str → Option Value}
theorem refs_rep {T : Tb} {S : Store} {H : Hp} (sim : Sim K mg T S H) : ∀ {ys : List (Addr × List Int)}, (∀ y ∈ ys, H y.1 = some (.tup (y.2.map V.int))) → RepL K T H (ys.map fun y => V.ref y.1) ((ys.map (·.2)).map rowD)
  | [], _ => .nil
  | y :: ys, h => .cons (.tup (h y List.mem_cons_self) (sim.tupOff (h y List.mem_cons_self)) (RepL.ints _)) (refs_rep sim fun z hz => h z (List.mem_cons_of_mem _ hz))
theorem srtd_uniq {a b : List (List Int)} (p : a.Perm b) (ha : a.Pairwise fun u v => ltR v u = false) (hb : b.Pairwise fun u v => ltR v u = false) : a = b :=
  List.Perm.eq_of_pairwise (fun u v _ _ h1 h2 => ltR_tri u v h2 h1) ha hb p
theorem pok_sortDT : POk K mg rSortDT sortDtD := fun T S H vs ds d Q sim rep e k => by
  unfold sortDtD at e
  split at e
  · rename_i d0
    split at e
    · rename_i kds ed
      split at e
      · rename_i rows er
        split at e
        · rename_i c
          cases e
          obtain ⟨v, rfl, rv⟩ := rep.one
          obtain ⟨a, kvs, rfl, hr, rk⟩ := dttAt_rep sim rv ed
          refine ⟨a, kvs, rows, rfl, hr, by rw [rk.1]; exact rowsK_some er, c.2, c.1, fun ys p pm hy srt hp => ?_⟩
          have e1 : ys.map (·.2) = sortL ltR rows := srtd_uniq (pm.trans (sortL_perm rows).symm) (List.pairwise_map.mpr srt) (sortL_srtd ltR_swo rows)
          have hz : (ys.map fun y => V.ref y.1).length ≤ sizeLine := by
            rw [List.length_map, ← List.length_map (f := fun y : Addr × List Int => y.2), pm.length_eq, sizeLine_eq]
            omega
          rw [← e1] at k
          exact k _ _ (sim.stepNew hp) (sim.new hp (hlen_lst sim.hl hz)) (.lst upd_same (sim.off hp) ((refs_rep sim hy).step (sim.stepNew hp)))
        · cases e
      · cases e
    · cases e
  · cases e
end
end Dv
namespace Dv
open PySem PySem.Spec PyProof.Rows L2
section
variable {X : Cx} {Wx : WX} {e e2 : Expr} {ms : AM} {pos p tpos : Pos} {elts : List Expr} {kk : Nat}
end
end Dv
namespace Dv
open PySem PySem.Spec PyProof.Rows L2
section
variable {K : PySem.W.Frag} {T : Tb} {H : Hp}
end
section
variable {X : Cx}
end
end Dv
namespace Dv
open PySem PySem.Spec PyProof.Rows L2
section
variable {P : Program} {w : World} {A : Around} {Ex : Value → Shared → Prop} {s : Shared} {a : Addr} {D : Froz.SD} {l : List Str}
end
end Dv
set_option maxHeartbeats 4000000
namespace Dv
open PySem PySem.Spec PyProof.Rows L2
section
variable {P : Program} {w : World} {A : Around} {E : Value → Shared → Prop} {s : Shared}
end
section
variable {P : Program} {w : World} {A : Around} {s : Shared}
end
end Dv
namespace Dv
open PySem L2
end Dv
namespace Dv
open PySem PySem.Spec PyProof.Rows L2
section
variable {prog : Program} {w : World} {A : Around} {s : Shared} {Q : Bool → Shared → Prop}
end
end Dv
namespace Dv
open PySem PySem.Spec PyProof.Rows L2
section
variable {X : Cx}
end
end Dv
namespace Dv
open PySem PySem.Spec PyProof.Rows L2
section
variable {K : PySem.W.Frag} {mg : Str → Option Value} {T : Tb} {S : Store} {H : Hp}
end
section
variable {X : Cx} {Wx : WX}
end
end Dv
namespace Dv
open PySem PySem.Spec PyProof.Rows L2
section
variable {X : Cx}
end
end Dv
namespace Dv
open PySem PySem.Spec PyProof.Rows L2
section
variable {prog : Program} {w : World} {A : Around} {s : Shared}
end
section
variable {X : Cx}
end
section
variable {X : Cx} {Wx : WX}
end
end Dv
namespace Dv
open PySem PySem.Spec PyProof.Rows L2
section
end
section
variable {X : Cx} {K : PySem.W.Frag} {mg : Str → Option Value}
end
end Dv
namespace Dv
open PySem L2
section
variable {X : Cx} {CX : CXT} {Wx : WX} {k n N : Nat} {f : Addr} {fd : FuncData} {ps ks : List Str} {Fn : List D → Store → R D} {x : Str} {p pos kpos : Pos} {e : Expr} {es : List Expr} {kws : List Keyword} {ms mk : AM} {m : EM} {nm : Option Str}
end
section
variable {K : PySem.W.Frag} {Dk : Addr}
end
end Dv
namespace Dv
open PySem L2
section
variable {X : Cx} {Wx : WX} {tg e : Expr} {m : EM}
end
end Dv
namespace Dv
open PySem PySem.W PySem.Spec PyProof.Rows L2
section
variable {X : Cx}
end
section
variable {K : PySem.W.Frag} {mg : Str → Option Value} {T : Tb} {H : Hp}
end
end Dv
namespace Dv
open PySem L2
section
variable {X : Cx} {Wx : WX} {st1 st2 : Stmt} {rest : List Stmt} {sa sb sc : SM}
end
end Dv
namespace Dv
open PySem PySem.Spec PyProof.Rows L2
open L2 (St)
section
variable {X : Cx} {pins : List (Addr × Obj)} {σ : L2.St} {H : Hp} {s : Shared} {d : Addr} {o : Obj}
end
section
variable {P : Program} {w : World} {K : PySem.W.Frag} {d : Addr} {o : Obj} {es : Array DictEntry} {ep : Nat}
end
section
variable {X : Cx} {e : Expr} {td : TE} {apos cpos : Pos}
end
section
variable {K : PySem.W.Frag} {mg : Str → Option Value} {T : Tb} {H : Hp} {S : Store}
end
section
variable {X : Cx} {Wx : WX} {e : Expr} {apos cpos pos tpos : Pos} {m : EM} {elts : List Expr} {kk : Nat} {sl : List Nat} {gm : D → Env → Option Env} {sb : SM}
end
end Dv
namespace Dv
open PySem PySem.W PySem.Spec PyProof.Rows L2
section
variable {X : Cx}
end
section
variable {K : PySem.W.Frag} {mg : Str → Option Value}
end
section
variable {K : PySem.W.Frag} {mg : Str → Option Value}
end
end Dv
namespace Dv
open PySem L2
section
variable {X : Cx} {K : PySem.W.Frag} {mg : Str → Option Value}
end
end Dv
namespace Dv
open PySem L2
def min2D (ds : List D) (_ : Store) : Option D := match ds with
  | [.int i, .int j] => some (.int (if j < i then j else i))
  | _ => none
def max2D (ds : List D) (_ : Store) : Option D := match ds with
  | [.int i, .int j] => some (.int (if j > i then j else i))
  | _ => none
section
variable {K : PySem.W.Frag} {mg : Str → Option Value}
theorem ints2 {T : Tb} {H : Hp} {vs : List V} {i j : Int} (h : RepL K T H vs [.int i, .int j]) : vs = [.int i, .int j] := by
  cases h with
  | cons a t =>
    cases t with
    | cons b u =>
      cases u
      rw [a.int_of, b.int_of]
theorem pok_max2 : POk K mg (fun xs H Q => ∃ i j, xs = [V.int i, V.int j] ∧ Q (.int (if j > i then j else i)) H) max2D := fun T S H vs ds d Q sim rep e k => by
  unfold max2D at e
  split at e
  · rename_i i j
    cases e
    exact ⟨i, j, ints2 rep, k H _ (Step.refl T H) sim (.int _)⟩
  · cases e
end
end Dv
namespace Dv
open PySem PySem.Spec PyProof.Rows L2
abbrev NK := NestedKey
abbrev IsN (P : Program) (w : World) (h : Heap) (k : NK) (a : Addr) : Prop := (nestedKind P w).is h k a
section
variable {P : Program} {w : World} {A : Around} {Ex : Value → Shared → Prop} {s : Shared}
end
end Dv
namespace Dv
open PySem PySem.Spec PyProof.Rows L2
abbrev NEnt := Nat × Addr × NK
section
variable {P : Program} {w : World} {A : Around} {Ex : Value → Shared → Prop} {s : Shared} {a : Addr} {E : List NEnt} {es : Array (Int × Value)} {ep : Nat} {t : SetTable} {h : Heap}
end
end Dv
namespace Dv
open PySem PySem.Spec PyProof.Rows L2
section
variable {P : Program} {w : World} {A : Around} {Ex : Value → Shared → Prop} {s : Shared} {a : Addr} {E : List NEnt} {es : Array (Int × Value)} {ep : Nat} {t : SetTable}
end
end Dv
namespace Dv
open PySem PySem.W PySem.Spec PyProof.Rows L2
def pairD (p : Pr) : D := .tup [.str p.1, rowD p.2]
theorem nums_inj : ∀ {a b : List Int}, a.map NestedKey.num = b.map NestedKey.num → a = b
  | [], [], _ => rfl
  | [], _ :: _, h => by cases h
  | _ :: _, [], h => by cases h
  | x :: a, y :: b, h => by
    rw [List.map_cons, List.map_cons, List.cons.injEq] at h
    rw [NestedKey.num.inj h.1, nums_inj h.2]
theorem nkP_inj {p q : Pr} (h : nkP p = nkP q) : p = q := by
  obtain ⟨x, r⟩ := p
  obtain ⟨y, r'⟩ := q
  have h := NestedKey.tup.inj h
  rw [List.cons.injEq, List.cons.injEq] at h
  rw [show x = y from NestedKey.text.inj h.1, show r = r' from nums_inj (NestedKey.tup.inj h.2.1)]
theorem depth_nums : ∀ r : List Int, NestedKey.depthAll (r.map NestedKey.num) = 0
  | [] => rfl
  | x :: r => by
    show max 0 (NestedKey.depthAll (r.map NestedKey.num)) = 0
    rw [depth_nums r]
    rfl
theorem nkP_depth (p : Pr) : (nkP p).depth ≤ 8 := by
  show max 0 (max (NestedKey.depthAll (p.2.map NestedKey.num) + 1) 0) + 1 ≤ 8
  rw [depth_nums]
  decide
def SqPr (K : PySem.W.Frag) (H : Hp) (a : Addr) (p : Pr) : Prop := ∃ b, SqT K H a [.str p.1, .ref b] ∧ SqT K H b (p.2.map V.int)
theorem nums_of_vals {h : Heap} : ∀ {r : List Int} {us : List Value}, Vals (r.map V.int) us → NestedAll h (r.map NestedKey.num) us
  | [], _, .nil => .nil
  | x :: r, _, .cons hv t => by
    obtain ⟨u, rfl⟩ := hv
    exact .cons (.int x u) (nums_of_vals t)
theorem Inv.isPr {X : Cx} {pins : List (Addr × Obj)} {g : L2.St} {H : Hp} {s : Shared} {a : Addr} {p : Pr} (I : Inv X pins g H s) (h : SqPr X.K H a p) : IsN X.prog X.w s.heap (nkP p) a := by
  obtain ⟨b, h1, h2⟩ := h
  obtain ⟨its, r, ⟨o, ho, hc, n, hd⟩, _⟩ := I.tuple h1
  obtain ⟨its2, r2, ⟨o2, ho2, hc2, n2, hd2⟩, _⟩ := I.tuple h2
  refine ⟨.tup ho hc hd ?_, nkP_depth p⟩
  cases r with
  | cons v1 r =>
    cases r with
    | cons v2 r =>
      cases r
      obtain ⟨t, rfl⟩ := v1
      cases v2
      exact .cons (.text _ t) (.cons (.tup ho2 hc2 hd2 (by simpa using nums_of_vals r2)) .nil)
section
variable {K : PySem.W.Frag} {T : Tb} {H : Hp}
end
end Dv
namespace Dv
open PySem PySem.W PySem.Spec PyProof.Rows L2
section
variable {P : Program} {w : World} {K : PySem.W.Frag} {h : Heap} {a : Addr} {L : List (Addr × Pr)}
end
end Dv
namespace Dv
open PySem PySem.Spec PyProof.Rows L2
section
variable {P : Program} {w : World} {A : Around} {s : Shared}
end
section
variable {X : Cx}
end
end Dv
namespace Dv
open PySem PySem.W PySem.Spec PyProof.Rows L2
section
variable {prog : Program} {w : World} {A : Around} {E : Value → Shared → Prop} {s : Shared}
end
section
variable {X : Cx} {pos py p2 : Pos} {t0 : Expr} {g0 : TG} {i k : Nat} {y : Str}
end
section
variable {X : Cx} {Wx : WX} {pos py p2 tp : Pos} {t0 e : Expr} {m : EM} {sl : List Nat} {gm : D → Env → Option Env} {i k : Nat} {y : Str}
end
end Dv
namespace Dv
open PySem PySem.Spec PyProof.Rows L2
section
variable {X : Cx} {o e : Expr} {apos cpos : Pos} {td ty : TE}
end
section
variable {X : Cx} {Wx : WX} {o e : Expr} {apos cpos : Pos} {mo me : EM}
end
end Dv
set_option maxHeartbeats 1000000
namespace Dv
open PySem PySem.Spec PyProof.Rows L2
section
variable {P : Program} {w : World} {z TI TO i1 i2 S : Addr} {r1 r2 : List Addr} {xs ys : Array Value} {I1 I2 : Nat → Heap → Prop}
end
section
variable {P : Program} {w : World} {A : Around} {E : Value → Shared → Prop} {s : Shared}
end
end Dv
set_option maxHeartbeats 1000000
namespace Dv
open PySem PySem.Spec PyProof.Rows L2
section
variable {P : Program} {w : World} {h h' : Heap}
end
section
variable {X : Cx} {Wx : WX}
end
end Dv
namespace Dv
open PySem L2
section
variable {K : PySem.W.Frag} {mg : Str → Option Value} {T T' : Tb} {H H' : Hp} {S : Store}
end
section
variable {X : Cx} {Wx : WX} {kx vx : Expr} {ifs : List Expr} {scope : Scope} {own : List (Str × Nat)} {pos apos cpos npos tpos : Pos} {elts : List Expr} {kk : Nat} {sl : List Nat} {gm : D → Env → Option Env} {tt : BM} {tk tv : EM} {i : Nat} {x : Str}
end
end Dv
namespace Dv
open PySem PySem.Spec PyProof.Rows L2
def tDSetDT (td ty tx : TE) : TE := fun σ H Q => td σ H fun x H1 => ∃ a, x = .ref a ∧ IsD H1 a ∧ ty σ H1 fun y H2 => tx σ H2 fun z H3 => ∃ (kvs : List (List Key × V)) (k : List Key) (b : Addr), H3 a = some (.dT kvs) ∧ y = .ref b ∧ H3 b = some (.tup (k.map kV)) ∧ kvs.length < sizeLine ∧
  (∀ v, valV kvs k = some v → Q v H3) ∧ (valV kvs k = none → Q z (upd H3 a (.dT (putK kvs k z))))
section
variable {X : Cx} {o e f : Expr} {apos cpos : Pos} {td ty tx : TE}
theorem pe_dsetdT (hu : X.A.units + 1 < cLine) (ho : PE X o td) (he : PE X e ty) (hf : PE X f tx) (m : M2 X o "setdefault" apos e f cpos) : PE X (.Call (.Attribute o "setdefault" apos) [e, f] [] cpos) (tDSetDT td ty tx) := by
  refine ⟨fun pins s σ H Q I h => ?_⟩
  refine wpAny_Call_method m.base m.few m.line PySem.F.plainAttrs_dict PySem.F.slot_dict_setdefault PySem.F.type_dict_setdefault (thn (ho.run pins s σ H _ I h) fun u s1 ⟨x, H1, I1, rx, a, ex, d, q1⟩ => ?_)
  subst ex
  obtain rfl : u = Value.ref a := rx
  obtain ⟨t1, t2, hds⟩ := isD_at I1 d
  refine ⟨t1, t2, ?_⟩
  rw [m.trees]
  refine Calls.callWith_builtin rfl (Calls.evalArgs_plain (Calls.spliced_cons (thn (he.run pins s1 σ H1 _ I1 q1) fun iv s2 ⟨y, H2, I2, ry, q2⟩ =>
    Calls.spliced_cons (thn (hf.run pins s2 σ H2 _ I2 q2) fun fv s3 ⟨z, H3, I3, rz, kvs, k, b, ea, ey, eb, hlt, q3, q4⟩ => Calls.spliced_nil ?_))))
  subst ey
  cases (show iv = Value.ref b from ry)
  obtain ⟨zz, hd, xs, rel, dd⟩ := dt_of I3.hok ea
  have hz : xs.length ≤ sizeLine := by rw [← Paired.length rel]; exact zz
  refine call_setdefault_heap (hsz := hz) (tupleKind_room_in1 hu) (key_of I3.hok eb) hd dd (fun p hp => ?_) fun hn h' dd' hs => ?_
  · have r := rel.val k
    rw [hp] at r
    cases ev : valV kvs k with
    | none =>
      rw [ev] at r
      exact (show False from r).elim
    | some v0 =>
      rw [ev] at r
      exact ⟨v0, H3, I3.tok _, r, q3 v0 ev⟩
  · have r := rel.val k
    rw [hn] at r
    cases ev : valV kvs k with
    | some v0 =>
      rw [ev] at r
      exact (show False from r).elim
    | none =>
      have hl : (putK kvs k z).length ≤ sizeLine := by have := length_putK kvs k z; omega
      obtain ⟨q, es, ep, hq, h2, h3, h4, _, h5⟩ := dd'
      refine ⟨z, upd H3 a (.dT (putK kvs k z)), d_write I3 (by rw [ea]; exact True.intro) hs ⟨q, hq⟩ ⟨hl, hd, _, (rel.put k eb rz).keeps fun c ys ec => ?_, q, es, ep, hq, h2, h3, h4, h5⟩, rz, q4 ev⟩
      rw [upd_ne (ne_of ec ea (fun z => nomatch z))]
      exact ec
end
section
variable {X : Cx} {Wx : WX} {o i e f : Expr} {pos apos cpos : Pos} {mo mi mx : EM}
def mSetDefT (mo mi mx : EM) : EM := fun r S => (mo r S).bind fun o S1 => match o with
  | .loc n => if (dttAt (.loc n) S1).isSome = true then (mi r S1).bind fun y S2 => (mx r S2).bind fun z S3 => match S3[n]?, tkeyOf y with
    | some (.dtt kds), some k => if kds.length < 90000 then (match valTD kds k with
      | some d => .ok d S3
      | none => .ok z (List.set S3 n (.dtt (putTD kds k z)))) else .bad
    | _, _ => .bad else .bad
  | _ => .bad
theorem j_setdefT (hu : X.A.units + 64 < cLine) (ho : PE X o (tD X.K X.mg Wx mo)) (he : PE X e (tD X.K X.mg Wx mi)) (hf : PE X f (tD X.K X.mg Wx mx)) (m : M2 X o "setdefault" apos e f cpos) : PE X (.Call (.Attribute o "setdefault" apos) [e, f] [] cpos) (tD X.K X.mg Wx (mSetDefT mo mi mx)) := by
  refine pe_imp (pe_dsetdT (by omega) ho he hf m) fun g H Q h => ?_
  obtain ⟨T, r, S, rs, sim, h⟩ := h
  refine ⟨T, r, S, rs, sim, Out.bind h fun x S1 T1 H1 v st sim1 rel h1 => ?_⟩
  split at h1
  · rename_i n
    by_cases hd : (dttAt (.loc n) S1).isSome = true
    · rw [if_pos hd] at h1
      obtain ⟨kds0, e0⟩ := Option.isSome_iff_exists.mp hd
      obtain ⟨a, kvs0, rfl, hr0, _⟩ := dttAt_rep sim1 rel e0
      refine ⟨a, rfl, .inr ⟨kvs0, hr0⟩, T1, r, S1, rs.step st, sim1, Out.bind h1 fun y S2 T2 H2 w st2 sim2 rel2 h2 => ?_⟩
      refine ⟨T2, r, S2, (rs.step st).step st2, sim2, Out.bind h2 fun z S3 T3 H3 u st3 sim3 rel3 h3 => ?_⟩
      split at h3
      · rename_i kds key e1 e2
        split at h3
        · rename_i hlt
          cases (rel.step st2).step st3 with
          | loc hn =>
            obtain ⟨kvs, q1, q2, q3⟩ := sim3.obj n a _ hn e1
            have rk : RepT X.K T3 H3 kvs kds := ⟨q2, q3⟩
            obtain ⟨b, rfl, hb, _⟩ := tkey_rep (rel2.step st3) e2
            have hz : kvs.length < sizeLine := by
              rw [rk.length]
              exact Nat.lt_of_lt_of_le (show kds.length < 100000 by omega) (sz5 (Nat.le_refl _))
            refine ⟨kvs, key, b, q1, rfl, hb, hz, fun v' ev => ?_, fun ev => ?_⟩
            · rcases rk.val key with ⟨z1, _⟩ | ⟨v2, d2, z1, z2, z3⟩
              · rw [z1] at ev
                cases ev
              · rw [z1] at ev
                cases ev
                rw [z2] at h3
                exact h3 T3 H3 _ (Step.refl T3 H3) sim3 z3
            · rcases rk.val key with ⟨_, z2⟩ | ⟨v2, d2, z1, z2, z3⟩
              · rw [z2] at h3
                have hmem : a ∈ T3.loc := List.mem_of_getElem? hn
                have st4 : Step T3 H3 T3 (upd H3 a (.dT (putK kvs key u))) := sim3.stepSet hmem
                have rk4 := (rk.put key rel3).step st4
                exact h3 T3 _ _ st4 (sim3.set hn (nodictT sim3.hl) ⟨_, upd_same, rk4.1, rk4.2⟩) (rel3.step st4)
              · rw [z1] at ev
                cases ev
        · exact h3.elim
      · exact h3.elim
    · rw [if_neg hd] at h1
      exact h1.elim
  · exact h1.elim
end
end Dv
namespace Dv
open PySem PySem.Spec PyProof.Rows L2
section
variable {X : Cx} {o e f : Expr} {apos cpos : Pos} {td ty tx : TE}
end
section
variable {X : Cx} {Wx : WX} {o i e f : Expr} {pos apos cpos : Pos} {mo mi mx : EM}
end
end Dv
namespace Dv
open PySem PySem.Spec PyProof.Rows L2
def prOf : D → Option Pr
  | .tup [.str x, .tup ds] => (intsOf ds).map fun r => (x, r)
  | _ => none
def valPD (kds : List (Pr × D)) (k : Pr) : Option D := (kds.find? fun kv => decide (kv.1 = k)).map (·.2)
def putPD (kds : List (Pr × D)) (k : Pr) (d : D) : List (Pr × D) :=
  if (kds.any fun kv => decide (kv.1 = k)) = true then kds.map fun kv => if kv.1 = k then (kv.1, d) else kv else kds ++ [(k, d)]
abbrev GE := Pr × Addr × V
def valG (xs : List GE) (k : Pr) : Option V := (xs.find? fun x => decide (x.1 = k)).map (·.2.2)
def putG (xs : List GE) (k : Pr) (b : Addr) (v : V) : List GE :=
  if (xs.any fun x => decide (x.1 = k)) = true then xs.map fun x => if x.1 = k then (x.1, x.2.1, v) else x else xs ++ [(k, b, v)]
theorem putG_len (xs : List GE) (k : Pr) (b : Addr) (v : V) : (putG xs k b v).length ≤ xs.length + 1 := by
  unfold putG
  split
  · rw [List.length_map]
    omega
  · rw [List.length_append, List.length_singleton]
    exact Nat.le_refl _
section
variable {K : PySem.W.Frag} {mg : Str → Option Value} {T : Tb} {H : Hp} {S : Store}
def RepP (K : PySem.W.Frag) (T : Tb) (H : Hp) (xs : List GE) (kds : List (Pr × D)) : Prop := xs.map (·.1) = kds.map (·.1) ∧ RepL K T H (xs.map fun x => V.ref x.2.1) (xs.map fun x => prD x.1) ∧ RepL K T H (xs.map (·.2.2)) (kds.map (·.2))
theorem RepP.nil : RepP K T H [] [] := ⟨rfl, .nil, .nil⟩
theorem RepP.uncons {xs : List GE} {k : Pr} {d : D} {kds : List (Pr × D)} (h : RepP K T H xs ((k, d) :: kds)) : ∃ b v r, xs = (k, b, v) :: r ∧ Rep K T H (.ref b) (prD k) ∧ Rep K T H v d ∧ RepP K T H r kds := by
  obtain ⟨h1, h2, h3⟩ := h
  cases xs with
  | nil => cases h1
  | cons p r =>
    obtain ⟨k', b, v⟩ := p
    rw [List.map_cons, List.map_cons, List.cons.injEq] at h1
    obtain ⟨e, h1⟩ := h1
    have e : k' = k := e
    subst e
    cases h2 with
    | cons a2 b2 =>
      cases h3 with
      | cons a3 b3 => exact ⟨b, v, r, rfl, a2, a3, h1, b2, b3⟩
theorem RepP.cons {xs : List GE} {k : Pr} {b : Addr} {v : V} {d : D} {kds : List (Pr × D)} (rb : Rep K T H (.ref b) (prD k)) (a : Rep K T H v d) (h : RepP K T H xs kds) : RepP K T H ((k, b, v) :: xs) ((k, d) :: kds) := ⟨by rw [List.map_cons, List.map_cons, h.1], .cons rb h.2.1, .cons a h.2.2⟩
theorem RepP.kp {T' : Tb} {H' : Hp} {xs : List GE} {kds : List (Pr × D)} (s : Kp T H T' H') (h : RepP K T H xs kds) : RepP K T' H' xs kds := ⟨h.1, h.2.1.kp s, h.2.2.kp s⟩
theorem RepP.step {T' : Tb} {H' : Hp} {xs : List GE} {kds : List (Pr × D)} (s : Step T H T' H') (h : RepP K T H xs kds) : RepP K T' H' xs kds := h.kp s.kp
theorem RepP.length {xs : List GE} {kds : List (Pr × D)} (h : RepP K T H xs kds) : xs.length = kds.length := by
  have := congrArg List.length h.1
  simpa using this
theorem valG_pos {x : GE} {xs : List GE} {k : Pr} (e : x.1 = k) : valG (x :: xs) k = some x.2.2 := by
  unfold valG
  simp [List.find?_cons, e]
theorem valG_neg {x : GE} {xs : List GE} {k : Pr} (e : x.1 ≠ k) : valG (x :: xs) k = valG xs k := by
  unfold valG
  simp [List.find?_cons, e]
theorem RepP.val (k : Pr) : ∀ {kds : List (Pr × D)} {xs : List GE}, RepP K T H xs kds → (valG xs k = none ∧ valPD kds k = none) ∨ ∃ v d, valG xs k = some v ∧ valPD kds k = some d ∧ Rep K T H v d
  | [], xs, h => by
    have : xs = [] := List.eq_nil_of_length_eq_zero (by rw [h.length]; rfl)
    subst this
    exact .inl ⟨rfl, rfl⟩
  | (k', d) :: kds, xs, h => by
    obtain ⟨b, v, r, rfl, _, a, q⟩ := h.uncons
    by_cases e : k' = k
    · refine .inr ⟨v, d, valG_pos e, ?_, a⟩
      unfold valPD
      simp [List.find?_cons, e]
    · have e2 : valPD ((k', d) :: kds) k = valPD kds k := by
        unfold valPD
        simp [List.find?_cons, e]
      rw [valG_neg (x := (k', b, v)) e, e2]
      exact q.val k
theorem RepP.any (k : Pr) : ∀ {kds : List (Pr × D)} {xs : List GE}, RepP K T H xs kds → (xs.any fun x => decide (x.1 = k)) = kds.any fun kv => decide (kv.1 = k)
  | [], xs, h => by
    have : xs = [] := List.eq_nil_of_length_eq_zero (by rw [h.length]; rfl)
    subst this
    rfl
  | (k', d) :: kds, xs, h => by
    obtain ⟨b, v, r, rfl, _, a, q⟩ := h.uncons
    rw [List.any_cons, List.any_cons, q.any k]
theorem RepP.repl {v : V} {d : D} (rv : Rep K T H v d) (k : Pr) : ∀ {kds : List (Pr × D)} {xs : List GE}, RepP K T H xs kds → RepP K T H (xs.map fun x => if x.1 = k then (x.1, x.2.1, v) else x) (kds.map fun kv => if kv.1 = k then (kv.1, d) else kv)
  | [], xs, h => by
    have : xs = [] := List.eq_nil_of_length_eq_zero (by rw [h.length]; rfl)
    subst this
    exact .nil
  | (k', d') :: kds, xs, h => by
    obtain ⟨b, v', r, rfl, rb, a, q⟩ := h.uncons
    rw [List.map_cons, List.map_cons]
    by_cases e : k' = k
    · simp only [e, if_true]
      rw [← e]
      exact .cons rb rv (e ▸ q.repl rv k')
    · simp only [e, if_false]
      exact .cons rb a (q.repl rv k)
theorem RepP.snoc {b : Addr} {v : V} {d : D} {k : Pr} {kds : List (Pr × D)} {xs : List GE} (h : RepP K T H xs kds) (rb : Rep K T H (.ref b) (prD k)) (rv : Rep K T H v d) : RepP K T H (xs ++ [(k, b, v)]) (kds ++ [(k, d)]) := ⟨by rw [List.map_append, List.map_append, h.1]; rfl, by
  rw [List.map_append, List.map_append]
  exact RepL.append h.2.1 (.cons rb .nil), by
  rw [List.map_append, List.map_append]
  exact RepL.append h.2.2 (.cons rv .nil)⟩
theorem RepP.put {b : Addr} {v : V} {d : D} {kds : List (Pr × D)} {xs : List GE} (h : RepP K T H xs kds) (k : Pr) (rb : Rep K T H (.ref b) (prD k)) (rv : Rep K T H v d) : RepP K T H (putG xs k b v) (putPD kds k d) := by
  unfold putG putPD
  rw [h.any k]
  split
  · exact h.repl rv k
  · exact h.snoc rb rv
theorem pr_rep {v : V} {d : D} {k : Pr} (h : Rep K T H v d) (e : prOf d = some k) : ∃ b, v = .ref b ∧ d = prD k := by
  unfold prOf at e
  split at e
  · rename_i x ds
    obtain ⟨r, e1, rfl⟩ := Option.map_eq_some_iff.mp e
    cases h with
    | tup ha n rr => exact ⟨_, rfl, by rw [intsOf_some e1]; rfl⟩
  · cases e
theorem pr_sq {b : Addr} {k : Pr} (h : Rep K T H (.ref b) (prD k)) : SqPr K H b k := by
  obtain ⟨x, r⟩ := k
  cases h with
  | tup ha n rr =>
    cases rr with
    | cons r1 rr =>
      cases rr with
      | cons r2 rr =>
        cases rr
        cases r1
        cases r2 with
        | tup ha2 n2 rr2 =>
          rw [RepL.of_ints rr2] at ha2
          exact ⟨_, SqT.of ha, SqT.of ha2⟩
theorem RepP.sq : ∀ {kds : List (Pr × D)} {xs : List GE}, RepP K T H xs kds → ∀ x ∈ xs, SqPr K H x.2.1 x.1
  | [], xs, h => by
    have : xs = [] := List.eq_nil_of_length_eq_zero (by rw [h.length]; rfl)
    subst this
    intro x hx
    cases hx
  | (k', d') :: kds, xs, h => by
    obtain ⟨b, v', r, rfl, rb, a, q⟩ := h.uncons
    intro x hx
    rcases List.mem_cons.mp hx with rfl | hx
    · exact pr_sq rb
    · exact q.sq x hx
open Classical in
def dprAt (w : World) (d : D) (S : Store) : Option (List (Pr × D)) := match d with
  | .dpr w' kds => if w' = w then some kds else none
  | .loc n => match S[n]? with
    | some (.dpr w' kds) => if w' = w then some kds else none
    | _ => none
  | _ => none
@[simp] theorem dprAt_dpr (w : World) (kds : List (Pr × D)) (S : Store) : dprAt w (.dpr w kds) S = some kds := by
  unfold dprAt
  simp
theorem dprAt_loc {w : World} {n : Nat} {kds : List (Pr × D)} {S : Store} (h : S[n]? = some (.dpr w kds)) : dprAt w (.loc n) S = some kds := by
  unfold dprAt
  simp [h]
theorem dprAt_rep {w : World} {v : V} {d : D} {kds : List (Pr × D)} (sim : Sim K mg T S H) (r : Rep K T H v d) (e : dprAt w d S = some kds) : ∃ a xs, v = .ref a ∧ H a = some (DprO w a xs) ∧ RepP K T H xs kds := by
  cases r with
  | dpr h n e1 r1 r2 =>
    unfold dprAt at e
    simp only at e
    split at e
    · rename_i hw
      cases e
      subst hw
      exact ⟨_, _, rfl, h, e1, r1, r2⟩
    · cases e
  | @loc a n h =>
    unfold dprAt at e
    simp only at e
    split at e
    · rename_i w' ys hs
      split at e
      · rename_i hw
        cases e
        subst hw
        obtain ⟨xs, h1, h2, h3, h4⟩ := sim.obj n a _ h hs
        exact ⟨a, xs, rfl, h1, h2, h3, h4⟩
      · cases e
    · cases e
  | _ => cases e
end
def GP (x : GE) (y : Pr × Addr × Value) : Prop := x.1 = y.1 ∧ x.2.1 = y.2.1 ∧ RelV x.2.2 y.2.2
def toNK (y : Pr × Addr × Value) : NestedKey × Addr × Value := (nkP y.1, y.2.1, y.2.2)
section
variable {X : Cx} {pins : List (Addr × Obj)} {g : L2.St} {H : Hp} {s : Shared} {a b : Addr} {xs : List GE} {k : Pr}
theorem gp_keys : ∀ {xs : List GE} {ys : List (Pr × Addr × Value)}, Paired GP xs ys → xs.map (·.1) = ys.map (·.1)
  | _, _, .nil => rfl
  | _, _, .cons r t => by rw [List.map_cons, List.map_cons, r.1, gp_keys t]
theorem gp_sq {Kf : PySem.W.Frag} : ∀ {xs : List GE} {ys : List (Pr × Addr × Value)}, Paired GP xs ys → (∀ x ∈ xs, SqPr Kf H x.2.1 x.1) → ∀ y ∈ ys, SqPr Kf H y.2.1 y.1
  | _, _, .nil, _, y, hy => by cases hy
  | _, _, .cons r t, h, y, hy => by
    rcases List.mem_cons.mp hy with rfl | hy
    · have := h _ List.mem_cons_self
      rw [r.1, r.2.1] at this
      exact this
    · exact gp_sq t (fun x hx => h x (List.mem_cons_of_mem _ hx)) y hy
theorem gp_val (k : Pr) : ∀ {xs : List GE} {ys : List (Pr × Addr × Value)}, Paired GP xs ys → RelO (valG xs k) ((atKey (ys.map toNK) (nkP k)).map (·.2))
  | _, _, .nil => True.intro
  | _, _, @Paired.cons _ _ _ x y xs ys r t => by
    have ih := gp_val k t
    by_cases e : x.1 = k
    · rw [valG_pos e]
      have : (atKey ((y :: ys).map toNK) (nkP k)).map (·.2) = some y.2.2 := by
        unfold atKey
        have e2 : (toNK y).1 = nkP k := by
          show nkP y.1 = nkP k
          rw [← r.1, e]
        rw [List.map_cons, List.find?_cons, decide_eq_true e2]
        rfl
      rw [this]
      exact r.2.2
    · rw [valG_neg e]
      have : atKey ((y :: ys).map toNK) (nkP k) = atKey (ys.map toNK) (nkP k) := by
        unfold atKey
        have e2 : (toNK y).1 ≠ nkP k := fun z => e (r.1.trans (nkP_inj z))
        rw [List.map_cons, List.find?_cons, decide_eq_false e2]
      rw [this]
      exact ih
theorem dpr_at (I : Inv X pins g H s) (h : H a = some (DprO X.w a xs)) (hk : ∀ x ∈ xs, SqPr X.K H x.2.1 x.1) : (a == sysModules) = false ∧ xs.length ≤ sizeLine ∧ ∃ ys, Paired GP xs ys ∧ s.heap.DictOfH (nestedKind X.prog X.w) a (ys.map toNK) := by
  obtain ⟨⟨h1, h2, h3, ys, ob, es, ep, pr, ho, hx, hd, he⟩, _, _⟩ := (show ObjOk X.prog X.w H s.heap a (DprO X.w a xs) from I.hok a _ h)
  have pr : Paired GP xs ys := pr
  refine ⟨h1, h2, ys, pr, ob, es, ep, ho, hx, hd, ?_, fun y hy => ?_, ?_⟩
  · rw [he, List.map_map]
    rfl
  · obtain ⟨z, hz, rfl⟩ := List.mem_map.mp hy
    exact Dv.Inv.isPr I (gp_sq pr hk z hz)
  · rw [gp_keys pr] at h3
    rw [List.map_map, show ((fun x : NestedKey × Addr × Value => x.1) ∘ toNK) = nkP ∘ (fun y : Pr × Addr × Value => y.1) from rfl, ← List.map_map]
    exact List.pairwise_map.mpr (h3.imp fun {x y} n e => n (nkP_inj e))
theorem dpr_typ (I : Inv X pins g H s) (h : H a = some (DprO X.w a xs)) : s.TypeIs (.ref a) "dict" ∧ (∀ b, Value.ref a = .ref b → ∃ ob, s.heap.get? b = some ob ∧ ob.dict = none) ∧ (a == sysModules) = false := by
  obtain ⟨⟨h1, h2, h3, ys, ob, es, ep, pr, ho, hx, hd, he⟩, _, _⟩ := (show ObjOk X.prog X.w H s.heap a (DprO X.w a xs) from I.hok a _ h)
  exact ⟨⟨ob, ho, hx.1⟩, fun b e => by cases e; exact ⟨ob, ho, hx.2.1⟩, h1⟩
theorem gp_put (k : Pr) (b : Addr) {v : V} {u : Value} (rv : RelV v u) {xs : List GE} {ys : List (Pr × Addr × Value)} (t : Paired GP xs ys) : ∃ zs, Paired GP (putG xs k b v) zs ∧ storedH (ys.map toNK) (nkP k) b u = zs.map toNK := by
  have rel := gp_val k t
  have repl : ∀ {xs : List GE} {ys : List (Pr × Addr × Value)}, Paired GP xs ys → Paired GP (xs.map fun x => if x.1 = k then (x.1, x.2.1, v) else x) (ys.map fun y => if y.1 = k then (y.1, y.2.1, u) else y) ∧ (ys.map toNK).map (putAt (nkP k) u) = (ys.map fun y => if y.1 = k then (y.1, y.2.1, u) else y).map toNK := by
    intro xs ys t
    induction t with
    | nil => exact ⟨.nil, rfl⟩
    | @cons x y xs ys r t ih =>
      rw [List.map_cons, List.map_cons, List.map_cons, List.map_cons, List.map_cons, ih.2]
      by_cases e : x.1 = k
      · have e2 : y.1 = k := r.1.symm.trans e
        have e3 : (toNK y).1 = nkP k := by show nkP y.1 = _; rw [e2]
        refine ⟨.cons (by rw [if_pos e, if_pos e2]; exact ⟨r.1, r.2.1, rv⟩) ih.1, ?_⟩
        rw [if_pos e2, putAt, if_pos e3]
        rfl
      · have e2 : y.1 ≠ k := fun z => e (r.1.trans z)
        have e3 : (toNK y).1 ≠ nkP k := fun z => e2 (nkP_inj z)
        refine ⟨.cons (by rw [if_neg e, if_neg e2]; exact r) ih.1, ?_⟩
        rw [if_neg e2, putAt, if_neg e3]
  have anyv : ∀ xs : List GE, (xs.any fun x => decide (x.1 = k)) = (valG xs k).isSome := by
    intro xs
    induction xs with
    | nil => rfl
    | cons x xs ih =>
      rw [List.any_cons]
      by_cases e : x.1 = k
      · rw [valG_pos e, decide_eq_true e]
        rfl
      · rw [valG_neg e, decide_eq_false e, ih]
        rfl
  unfold putG
  rw [anyv]
  cases hv : valG xs k with
  | none =>
    rw [hv] at rel
    cases hp : atKey (ys.map toNK) (nkP k) with
    | some p =>
      rw [hp] at rel
      exact (show False from rel).elim
    | none =>
      refine ⟨ys ++ [(k, b, u)], ?_, ?_⟩
      · simp only [Option.isSome_none, Bool.false_eq_true, if_false]
        have snoc : ∀ {xs : List GE} {ys : List (Pr × Addr × Value)}, Paired GP xs ys → Paired GP (xs ++ [(k, b, v)]) (ys ++ [(k, b, u)]) := by
          intro xs ys t
          induction t with
          | nil => exact .cons ⟨rfl, rfl, rv⟩ .nil
          | cons r t ih => exact .cons r ih
        exact snoc t
      · rw [storedH_new hp, List.map_append]
        rfl
  | some v0 =>
    rw [hv] at rel
    cases hp : atKey (ys.map toNK) (nkP k) with
    | none =>
      rw [hp] at rel
      exact (show False from rel).elim
    | some p =>
      refine ⟨ys.map fun y => if y.1 = k then (y.1, y.2.1, u) else y, ?_, ?_⟩
      · simp only [Option.isSome_some, if_true]
        exact (repl t).1
      · rw [storedH_old hp]
        exact (repl t).2
theorem putG_nd {xs : List GE} (h : (xs.map (·.1)).Nodup) (k : Pr) (b : Addr) (v : V) : ((putG xs k b v).map (·.1)).Nodup := by
  unfold putG
  split
  · rw [List.map_map]
    have : ((fun x : GE => x.1) ∘ fun x => if x.1 = k then (x.1, x.2.1, v) else x) = fun x => x.1 := by
      funext x
      show (if x.1 = k then (x.1, x.2.1, v) else x).1 = x.1
      split <;> rfl
    rw [this]
    exact h
  · rename_i hn
    rw [List.map_append]
    refine List.nodup_append.mpr ⟨h, by simp, fun p hp q hq e => ?_⟩
    have hq : q = k := by simpa using hq
    subst hq
    subst e
    obtain ⟨x, hx, e⟩ := List.mem_map.mp hp
    exact hn (List.any_eq_true.mpr ⟨x, hx, decide_eq_true e⟩)
theorem dpr_put {h' : Heap} {t' : Nat} {v : V} {u : Value} {ys : List (Pr × Addr × Value)} (I : Inv X pins g H s) (h : H a = some (DprO X.w a xs)) (hs : (a == sysModules) = false) (hz : xs.length < sizeLine) (nd : (xs.map (·.1)).Nodup) (t : Paired GP xs ys) (rv : RelV v u)
    (dd : h'.DictOfH (nestedKind X.prog X.w) a (storedH (ys.map toNK) (nkP k) b u)) (sb : Heap.SameBut a s.heap h') : Inv X pins g (upd H a (DprO X.w a (putG xs k b v))) { s with heap := h', toks := t' } := by
  obtain ⟨zs, p1, p2⟩ := gp_put k b rv t
  rw [p2] at dd
  obtain ⟨ob, es, ep, ho, hx, hd, he, _, _⟩ := dd
  refine d_write I (by rw [h]; exact True.intro) sb ⟨ob, ho⟩ ⟨⟨hs, ?_, putG_nd nd k b v, zs, ob, es, ep, p1, ho, hx, hd, ?_⟩, ⟨ob, ho⟩, fun h1 h2 f st => ?_⟩
  · have := putG_len xs k b v
    omega
  · rw [he, List.map_map]
    rfl
  · obtain ⟨q1, q2, q3, zs', ob', es', ep', r1, r2, r3, r4, r5⟩ := f
    exact ⟨q1, q2, q3, zs', ob', es', ep', r1, st _ r2, r3, r4, r5⟩
theorem dpr_nd (I : Inv X pins g H s) (h : H a = some (DprO X.w a xs)) : (xs.map (·.1)).Nodup := by
  obtain ⟨⟨h1, h2, h3, _⟩, _, _⟩ := (show ObjOk X.prog X.w H s.heap a (DprO X.w a xs) from I.hok a _ h)
  exact h3
theorem dpr_empty {P : Program} {w : World} (h : Heap) (hbig : sysModules < h.objs.size) : ObjOk P w H (h.push { cls := .type "dict", data := .dict #[] }) h.objs.size (DprO w h.objs.size []) := by
  have hs : (h.objs.size == sysModules) = false := beq_eq_false_iff_ne.mpr (Ne.symm (Nat.ne_of_lt hbig))
  refine ⟨⟨hs, Nat.zero_le _, List.nodup_nil, [], { cls := .type "dict", data := .dict #[] }, #[], 0, .nil, Heap.get?_push_size _ rfl, ⟨rfl, rfl, rfl⟩, rfl, rfl⟩, ⟨_, Heap.get?_push_size _ rfl⟩, fun h1 h2 f st => ?_⟩
  obtain ⟨q1, q2, q3, zs', ob', es', ep', r1, r2, r3, r4, r5⟩ := f
  exact ⟨q1, q2, q3, zs', ob', es', ep', r1, st _ r2, r3, r4, r5⟩
end
end Dv
namespace Dv
open PySem PySem.Spec PyProof.Rows L2
theorem nodictP {H : Hp} {p a : Addr} {w : World} {xs : List GE} (h : HLen H) : HLen (upd H p (DprO w a xs)) := hlen_oth h fun xs => ⟨(by intro z; cases z), (by intro z; cases z), (by intro x z; cases z), (by intro x z; cases z)⟩
def mNewPr0 (w : World) : EM := fun _ S => .ok (.loc S.length) (S ++ [.dpr w []])
@[simp] theorem mNewPr0_ap {w : World} {r : Env} {S : Store} : mNewPr0 w r S = .ok (.loc S.length) (S ++ [.dpr w []]) := rfl
def mGetPr (w : World) (mo mi mx : EM) : EM := fun r S => (mo r S).bind fun o S1 => if (dprAt w o S1).isSome = true then (mi r S1).bind fun y S2 => (mx r S2).bind fun z S3 => match dprAt w o S3, prOf y with
    | some kds, some k => .ok ((valPD kds k).getD z) S3
    | _, _ => .bad else .bad
def dputPD (w : World) (o y z : D) (r : Env) (S : Store) : Z := match o with
  | .loc n => match dprAt w (.loc n) S, prOf y with
    | some kds, some k => if kds.length < 90000 then .ok .next r (List.set S n (.dpr w (putPD kds k z))) else .bad
    | _, _ => .bad
  | _ => .bad
def sDPutP (w : World) (mo mi mv : EM) : SM := fun r S => bindS (mv r S) r fun z S1 => bindS (mo r S1) r fun o S2 => bindS (mi r S2) r fun y S3 => dputPD w o y z r S3
@[simp] theorem sDPutP_ap {w : World} {mo mi mv : EM} {r : Env} {S : Store} : sDPutP w mo mi mv r S = bindS (mv r S) r fun z S1 => bindS (mo r S1) r fun o S2 => bindS (mi r S2) r fun y S3 => dputPD w o y z r S3 := rfl
section
variable {X : Cx} {Wx : WX} {o i e f : Expr} {pos pos' apos cpos : Pos} {mo mi mx mv : EM}
theorem pe_dnewP : PE X (.Dict [] [] pos) (fun _ H Q => ∀ p, H p = none → Q (.ref p) (upd H p (DprO X.w p []))) := ⟨fun pins s σ H Q I h =>
  wpAny_Dict_empty ⟨.ref s.heap.objs.size, _, I.laid (a := s.heap.objs.size) (o := DprO X.w s.heap.objs.size []) (t' := s.toks) (fun _ _ q => Heap.get?_push_of_some _ q) (Nat.le_refl _) (dpr_empty s.heap I.big), rfl, h _ (I.hok.fresh (Nat.le_refl _))⟩⟩
theorem j_newPr0 : PE X (.Dict [] [] pos) (tD X.K X.mg Wx (mNewPr0 X.w)) := by
  refine pe_imp pe_dnewP fun g H Q h => ?_
  obtain ⟨T, r, S, rs, sim, h⟩ := h
  intro p hp
  exact h (T.add p) _ _ (sim.stepAlloc hp) (sim.alloc hp (nodictP sim.hl) ⟨[], upd_same, rfl, .nil, .nil⟩) (.loc sim.newGet)
def tGetPr (td ty tx : TE) (w : World) (K : PySem.W.Frag) : TE := fun σ H Q => td σ H fun x H1 => ∃ a, x = .ref a ∧ (∃ xs, H1 a = some (DprO w a xs)) ∧ ty σ H1 fun y H2 => tx σ H2 fun z H3 => ∃ (xs : List GE) (k : Pr) (b : Addr), H3 a = some (DprO w a xs) ∧ (∀ x ∈ xs, SqPr K H3 x.2.1 x.1) ∧ y = .ref b ∧ SqPr K H3 b k ∧ Q ((valG xs k).getD z) H3
theorem pe_getPr (hu : X.A.units + 64 < cLine) (ho : PE X o td) (he : PE X e ty) (hf : PE X f tx) (m : M2 X o "get" apos e f cpos) : PE X (.Call (.Attribute o "get" apos) [e, f] [] cpos) (tGetPr td ty tx X.w X.K) := by
  refine ⟨fun pins s σ H Q I h => ?_⟩
  refine wpAny_Call_method m.base m.few m.line PySem.F.plainAttrs_dict PySem.F.slot_dict_get PySem.F.type_dict_get (thn (ho.run pins s σ H _ I h) fun u s1 ⟨x, H1, I1, rx, a, ex, d, q1⟩ => ?_)
  subst ex
  obtain rfl : u = Value.ref a := rx
  obtain ⟨xs0, d⟩ := d
  obtain ⟨t1, t2, hds⟩ := dpr_typ I1 d
  refine ⟨t1, t2, ?_⟩
  rw [m.trees]
  refine Calls.callWith_builtin rfl (Calls.evalArgs_plain (Calls.spliced_cons (thn (he.run pins s1 σ H1 _ I1 q1) fun iv s2 ⟨y, H2, I2, ry, q2⟩ =>
    Calls.spliced_cons (thn (hf.run pins s2 σ H2 _ I2 q2) fun fv s3 ⟨z, H3, I3, rz, xs, k, b, ea, hk, ey, eb, q3⟩ => Calls.spliced_nil ?_))))
  subst ey
  cases (show iv = Value.ref b from ry)
  obtain ⟨hd, hz, ys, rel, dd⟩ := dpr_at I3 ea hk
  refine getOr_keyed (knd := nestedKind X.prog X.w) (kvs := pairsH (ys.map toNK)) (k := nkP k) (show X.A.in1.units + 8 < cLine from by show X.A.units + 1 + 8 < cLine; omega) (Dv.Inv.isPr I3 eb) hds ⟨_, dd, rfl⟩ ?_
  rw [valueAt_pairsH]
  have r := gp_val k rel
  cases ev : valG xs k with
  | none =>
    rw [ev] at r q3
    cases hp : (atKey (ys.map toNK) (nkP k)).map (·.2) with
    | none =>
      have q3 : Q z H3 := q3
      exact ⟨z, H3, I3.tok _, rz, q3⟩
    | some p =>
      rw [hp] at r
      exact (show False from r).elim
  | some v0 =>
    rw [ev] at r q3
    cases hp : (atKey (ys.map toNK) (nkP k)).map (·.2) with
    | none =>
      rw [hp] at r
      exact (show False from r).elim
    | some p =>
      rw [hp] at r
      exact ⟨v0, H3, I3.tok _, r, q3⟩
theorem j_getPr (hu : X.A.units + 64 < cLine) (ho : PE X o (tD X.K X.mg Wx mo)) (he : PE X e (tD X.K X.mg Wx mi)) (hf : PE X f (tD X.K X.mg Wx mx)) (m : M2 X o "get" apos e f cpos) : PE X (.Call (.Attribute o "get" apos) [e, f] [] cpos) (tD X.K X.mg Wx (mGetPr X.w mo mi mx)) := by
  refine pe_imp (pe_getPr hu ho he hf m) fun g H Q h => ?_
  obtain ⟨T, r, S, rs, sim, h⟩ := h
  refine ⟨T, r, S, rs, sim, Out.bind h fun x S1 T1 H1 v st sim1 rel h1 => ?_⟩
  by_cases hd : (dprAt X.w x S1).isSome = true
  · rw [if_pos hd] at h1
    obtain ⟨kds0, e0⟩ := Option.isSome_iff_exists.mp hd
    obtain ⟨a, xs0, rfl, hr0, _⟩ := dprAt_rep sim1 rel e0
    refine ⟨a, rfl, ⟨xs0, hr0⟩, T1, r, S1, rs.step st, sim1, Out.bind h1 fun y S2 T2 H2 w st2 sim2 rel2 h2 => ?_⟩
    refine ⟨T2, r, S2, (rs.step st).step st2, sim2, Out.bind h2 fun z S3 T3 H3 u st3 sim3 rel3 h3 => ?_⟩
    split at h3
    · rename_i kds key e1 e2
      obtain ⟨a', xs, ea, hr, rk⟩ := dprAt_rep sim3 ((rel.step st2).step st3) e1
      cases ea
      obtain ⟨b, rfl, ed⟩ := pr_rep (rel2.step st3) e2
      subst ed
      refine ⟨xs, key, b, hr, rk.sq, rfl, pr_sq (rel2.step st3), h3 T3 H3 _ (Step.refl T3 H3) sim3 ?_⟩
      rcases rk.val key with ⟨z1, z2⟩ | ⟨v', d', z1, z2, z3⟩
      · rw [z1, z2]
        exact rel3
      · rw [z1, z2]
        exact z3
    · exact h3.elim
  · rw [if_neg hd] at h1
    exact h1.elim
def sPutPr (td ty tv : TE) (w : World) (K : PySem.W.Frag) : TS := fun D σ H => tv σ H fun v H1 => td σ H1 fun x H2 => ty σ H2 fun y H3 => ∃ (a : Addr) (xs : List GE) (k : Pr) (b : Addr), x = .ref a ∧ H3 a = some (DprO w a xs) ∧ (∀ x ∈ xs, SqPr K H3 x.2.1 x.1) ∧ y = .ref b ∧ SqPr K H3 b k ∧ xs.length < sizeLine ∧ D.nx σ (upd H3 a (DprO w a (putG xs k b v)))
theorem ps_putPr {td ty tv : TE} (hu : X.A.units + 64 < cLine) (ho : PE X o td) (hi : PE X i ty) (hv : PE X e tv) (hs : swapsWith e (some (.Subscript o i pos')) pos.line X.env = pure false) : PS X (.Assign [.Subscript o i pos'] e pos) (sPutPr td ty tv X.w X.K) := by
  refine ⟨fun pins s σ H D I h => ?_⟩
  refine wpAny_Assign_Subscript (thn (hv.run pins s σ H _ I h) fun r s1 ⟨v, H1, I1, rv, q1⟩ => thn (ho.run pins s1 σ H1 _ I1 q1) fun u s2 ⟨x, H2, I2, rx, q2⟩ => thn (hi.run pins s2 σ H2 _ I2 q2) fun iv s3 ⟨y, H3, I3, ry, a, xs, k, b, ex, ea, hk, ey, eb, hz, q3⟩ => ?_) hs
  subst ex
  obtain rfl : u = Value.ref a := rx
  subst ey
  cases (show iv = Value.ref b from ry)
  obtain ⟨hd, _, ys, rel, dd⟩ := dpr_at I3 ea hk
  have hzy : (ys.map toNK).length ≤ sizeLine := by
    rw [List.length_map, ← Paired.length rel]
    omega
  refine wpAny_setItem_heap (knd := nestedKind X.prog X.w) (hsz := hzy) (show X.A.in1.units + 8 < cLine from by show X.A.units + 1 + 8 < cLine; omega) (Dv.Inv.isPr I3 eb) dd fun h' dd' sb => ?_
  exact ⟨σ, _, dpr_put I3 ea hd hz (dpr_nd I3 ea) rel rv dd' sb, q3⟩
theorem js_dputP (hu : X.A.units + 64 < cLine) (hv : PE X e (tD X.K X.mg Wx mv)) (ho : PE X o (tD X.K X.mg Wx mo)) (hi : PE X i (tD X.K X.mg Wx mi)) (hs : swapsWith e (some (.Subscript o i pos')) pos.line X.env = pure false := by rfl) :
    PS X (.Assign [.Subscript o i pos'] e pos) (tDS X.K X.mg Wx (sDPutP X.w mo mi mv)) :=
  ps_imp (ps_putPr hu ho hi hv hs) fun E g H h => by
    obtain ⟨T, r, S, rs, sim, h⟩ := h
    refine ⟨T, r, S, rs, sim, ZOut.bind h rs fun z S1 T1 H1 u st sim1 rel rs1 h1 => ?_⟩
    refine ⟨T1, r, S1, rs1, sim1, ZOut.bind h1 rs1 fun o S2 T2 H2 x st2 sim2 rel2 rs2 h2 => ?_⟩
    refine ⟨T2, r, S2, rs2, sim2, ZOut.bind h2 rs2 fun y S3 T3 H3 w st3 sim3 rel3 rs3 h3 => ?_⟩
    unfold dputPD at h3
    split at h3
    · rename_i n
      split at h3
      · rename_i kds key e1 e2
        split at h3
        · rename_i hlt
          obtain ⟨a, xs, rfl, q1, rk⟩ := dprAt_rep sim3 (rel2.step st3) e1
          cases rel2.step st3 with
          | loc hn =>
            obtain ⟨b, rfl, ed⟩ := pr_rep rel3 e2
            subst ed
            have hz : xs.length < sizeLine := by
              rw [rk.length]
              exact Nat.lt_of_lt_of_le (show kds.length < 100000 by omega) (sz5 (Nat.le_refl _))
            have st4 : Step T3 H3 T3 (upd H3 a (DprO X.w a (putG xs key b u))) := sim3.stepSet (List.mem_of_getElem? hn)
            have rk4 := (rk.put key rel3 (rel.step (st2.trans st3))).step st4
            exact ⟨a, xs, key, b, rfl, q1, rk.sq, rfl, pr_sq rel3, hz, h3 T3 _ g st4 (sim3.set hn (nodictP sim3.hl) ⟨_, upd_same, rk4.1, rk4.2.1, rk4.2.2⟩) (rs3.step st4)⟩
        · exact h3.elim
      · exact h3.elim
    · exact h3.elim
end
end Dv
namespace Dv
open PySem PySem.Spec PyProof.Rows L2
theorem dpr_dictSet {X : Cx} {pins : List (Addr × Obj)} {g : L2.St} {H : Hp} {s : Shared} {E : Value → Shared → Prop} {D b : Addr} {xs : List GE} {k : Pr} {v : V} {r : Value} {Q : Unit → Shared → Prop} (hu : X.A.units + 65 < cLine) (I : Inv X pins g H s) (hD : H D = some (DprO X.w D xs)) (hk : ∀ x ∈ xs, SqPr X.K H x.2.1 x.1) (hb : SqPr X.K H b k) (hz : xs.length < sizeLine)
    (rv : RelV v r) (h : ∀ s', Inv X pins g (upd H D (DprO X.w D (putG xs k b v))) s' → Q () s') : wpAny (model X.prog X.w) X.A (dictSet D (.ref b) r) Q E s := by
  obtain ⟨hd, _, ys, rel, dd⟩ := dpr_at I hD hk
  have hzy : (ys.map toNK).length ≤ sizeLine := by
    rw [List.length_map, ← Paired.length rel]
    omega
  refine wpAny_dictSet_heap (knd := nestedKind X.prog X.w) (hsz := hzy) (show X.A.units + 8 < cLine from by omega) (Dv.Inv.isPr I hb) dd fun h' dd' sb => h _ ?_
  exact dpr_put I hD hd hz (dpr_nd I hD) rel rv dd' sb
def tDcP (K : PySem.W.Frag) (w : World) (wi : TI) (gt : TG) (tt : TT) (tk tv : TE) (vs : List Nat) : TE := fun g H Q => wi g H fun J H1 => ∀ D, H1 D = none →
  ∃ W : Nat → Nat → Hp → Prop, (∃ m, W 0 m (upd H1 D (DprO w D []))) ∧ ∀ i m H, W i m H → (J.stop i H ∧ Q (.ref D) H) ∨
    (J.go i H ∧ ∃ M : Hp → Prop, (∀ H', M H' → ∃ m', m' < m ∧ W (i + 1) m' H') ∧ ∀ x H', J.yld i H x H' → gt x (wipe g vs) H' fun g2 H2 => wipe g2 vs = wipe g vs ∧ tt g2 H2 fun b H3 => if b = true then tk g2 H3 fun y H4 => tv g2 H4 fun z H5 => ∃ xs k c, y = .ref c ∧ SqPr K H5 c k ∧ (∀ x ∈ xs, SqPr K H5 x.2.1 x.1) ∧ H5 D = some (DprO w D xs) ∧ xs.length < sizeLine ∧ M (upd H5 D (DprO w D (putG xs k c z))) else M H3)
section
variable {X : Cx} {kx vx tg iter : Expr} {ifs : List Expr} {scope : Scope} {own : List (Str × Nat)} {pos : Pos} {wi : TI} {gt : TG} {tt : TT} {tk tv : TE}
theorem dcP_turns {BX : Cx} (hc : BX.calm = true) (hu : BX.A.units + 65 < cLine) (hex : BX.pn = []) {J : It} {fp : List Addr} {it D : Addr} {tn : Nat → Heap → Prop} (T : Turn BX.prog BX.w BX.K tg J fp it tn)
    (pg : PG BX tg gt) (pt : PTs BX ifs tt) (pk : PE BX kx tk) (pe : PE BX vx tv) {vs : List Nat} {g : L2.St} {W : Nat → Nat → Hp → Prop} {R : Result → Shared → Prop} {Qd : Hp → Prop} {scp : Scope} {ps : Pos}
    (fpo : ∀ {g' : L2.St} {H' : Hp} {s' : Shared}, Inv BX [] g' H' s' → (∀ b ∈ fp, H' b = none) → ∀ b ∈ fp, FpOk BX [] H' b)
    (turn : ∀ i m H, W i m H → (J.stop i H ∧ Qd H) ∨ (J.go i H ∧ ∃ M : Hp → Prop, (∀ H', M H' → ∃ m', m' < m ∧ W (i + 1) m' H') ∧ ∀ x H', J.yld i H x H' → gt x (wipe g vs) H' fun g2 H2 => wipe g2 vs = wipe g vs ∧ tt g2 H2 fun b H3 => if b = true then tk g2 H3 fun y H4 => tv g2 H4 fun z H5 => ∃ xs k c, y = .ref c ∧ SqPr BX.K H5 c k ∧ (∀ x ∈ xs, SqPr BX.K H5 x.2.1 x.1) ∧ H5 D = some (DprO BX.w D xs) ∧ xs.length < sizeLine ∧ M (upd H5 D (DprO BX.w D (putG xs k c z))) else M H3))
    (fin : ∀ s' H', Inv BX [] (wipe g vs) H' s' → (∀ b ∈ fp, H' b = none) → Qd H' → R (.ok .next) s') {s0 : Shared} {H0 : Hp} {m0 : Nat} (I0 : Inv BX [] (wipe g vs) H0 s0) (t0 : tn 0 s0.heap) (n0 : ∀ b ∈ fp, H0 b = none) (w0 : W 0 m0 H0) (hx : BX.xe = fun _ _ => False) :
    codeAny (model BX.prog BX.w) BX.A (.compLoop (.DictComp kx vx [⟨tg, iter, ifs, 0⟩] scp ps) 0 (.ref it) (.ref D) BX.env) R s0 := by
  refine compLoop_anyD (fun m s => ∃ i H, W i m H ∧ Inv BX [] (wipe g vs) H s ∧ tn i s.heap ∧ ∀ b ∈ fp, H b = none) ?_ m0 ⟨0, H0, w0, I0, t0, n0⟩
  rintro m s1 ⟨i, H1, w1, I1, t1, n1⟩
  rcases turn i m H1 w1 with ⟨h1, h2⟩ | ⟨h1, M, hM, step⟩
  · refine thnF (T.done BX rfl rfl rfl hc i [] s1 _ H1 (fun _ _ => False) I1 (fpo I1 n1) t1 h1) fun r s2 ⟨er, I2⟩ => ?_
    subst er
    exact fin s2 H1 I2 n1 h2
  · refine thnF (T.item BX rfl rfl rfl hc i [] s1 _ H1 (fun _ _ => False) I1 (fpo I1 n1) t1 h1) fun r s2 ⟨u, er, q2⟩ => ?_
    subst er
    refine thnF q2 fun _ s3 ⟨x, H3, I3, r3, y3, t3, n3⟩ => ?_
    have I3' := I3.pinned (fpo I3 n3) (T.obj _ _ t3)
    -- what the turn leaves
    have leave : ∀ {g' : L2.St} {s' : Shared} {H' : Hp}, wipe g' vs = wipe g vs → Inv BX ([] ++ pinsAt fp s3.heap) g' H' s' → M H' → ∃ m', m' < m ∧ ∃ i H, W i m' H ∧ Inv BX [] (wipe g vs) H s' ∧ tn i s'.heap ∧ ∀ b ∈ fp, H b = none := fun {g' s' H'} hw I' hm => by
      obtain ⟨m', k1, k2⟩ := hM H' hm
      have still : ∀ b ∈ fp, ∀ o, s3.heap.get? b = some o → s'.heap.get? b = some o ∧ H' b = none := fun b hb o e => by
        have z := I'.pin (b, o) (List.mem_append_right _ (List.mem_append_right _ (mem_pinsAt hb e)))
        exact ⟨z.1, z.2.1⟩
      have len : (wipe g vs).length = g'.length := by rw [← hw, wipe_length]
      refine ⟨m', k1, i + 1, H', k2, I'.unpinned.weak len fun j v e => ?_, T.keep _ _ _ t3 fun b hb o e => (still b hb o e).1, fun b hb => ?_⟩
      · rw [← hw] at e
        exact (wipe_some e).1
      · obtain ⟨o, e, _⟩ := T.obj _ _ t3 b hb
        exact (still b hb o e).2
    have no : ∀ {α : Type} {t : Sem α} {Q Q' : α → Shared → Prop} {E' : Value → Shared → Prop} {s : Shared}, wpAny (model BX.prog BX.w) BX.A t Q BX.xe s → (∀ a s, Q a s → Q' a s) → wpAny (model BX.prog BX.w) BX.A t Q' E' s := fun h k => wpAny_mono h k fun e s z => by
      rw [hx] at z
      exact z.elim
    refine no (pg.run _ s3 _ H3 x u _ I3' r3 (step x H3 y3)) fun _ s4 ⟨g4, H4, I4, hw4, q4⟩ => ?_
    refine no (pt.run _ s4 g4 H4 _ I4 q4) fun b s5 ⟨H5, I5, q5⟩ => ?_
    cases b with
    | false =>
      rw [if_neg Bool.false_ne_true] at q5 ⊢
      exact leave hw4 I5 q5
    | true =>
      rw [if_pos rfl] at q5 ⊢
      refine no (pk.run _ s5 g4 H5 _ I5 q5) fun v s6 ⟨y, H6, I6, r6, q6⟩ => ?_
      refine no (pe.run _ s6 g4 H6 _ I6 q6) fun v2 s7 ⟨z, H7, I7, r7, xs, k, c, ey, hc7, hk7, hD7, hz7, q7⟩ => ?_
      subst ey
      cases r6
      exact dpr_dictSet hu I7 hD7 hk7 hc7 hz7 r7 fun s8 I8 => leave hw4 I8 q7
theorem dcP_core {pins : List (Addr × Obj)} {s : Shared} {g : L2.St} {H : Hp} {Q : VK} {pos2 : Pos} {use : Option (Value → Sem Unit)} {Qf : Value → Shared → Prop} (hc : X.calm = true) (hu : X.A.units + 65 < cLine) (hN : X.N.Nodup) (I : Inv X pins g H s) (hi : PI X tg iter wi) (ok : BlkOk X.N X.env.scope scope own)
    (hg : ∀ (s : Shared) (H : Hp) (Cl : Addr) (cl : List (Str × Addr)) (fp : List Addr), PG (X.blk s H scope (compEnvC scope cl Cl X.env) fp) tg gt) (ht : ∀ (s : Shared) (H : Hp) (Cl : Addr) (cl : List (Str × Addr)) (fp : List Addr), PTs (X.blk s H scope (compEnvC scope cl Cl X.env) fp) ifs tt)
    (hk : ∀ (s : Shared) (H : Hp) (Cl : Addr) (cl : List (Str × Addr)) (fp : List Addr), PE (X.blk s H scope (compEnvC scope cl Cl X.env) fp) kx tk) (he : ∀ (s : Shared) (H : Hp) (Cl : Addr) (cl : List (Str × Addr)) (fp : List Addr), PE (X.blk s H scope (compEnvC scope cl Cl X.env) fp) vx tv) (hs : ∀ x, foldedSetIterable iter X.env x = pure x)
    (h : tDcP X.K X.w wi gt tt tk tv (own.map (·.2)) g H Q) (hRR : ∀ D C s' m H', Inv X pins g H' s' → Q (.ref D) H' → s'.heap.Ns C m → FpOk X pins H' C → compPost (model X.prog X.w) X.A X.xe use Qf (.ref D) C (.ok .next) s') :
    wpAny (model X.prog X.w) X.A (comprehension (.DictComp kx vx [⟨tg, iter, ifs, 0⟩] scope pos) scope X.env pos2 newDict false (eval iter X.env) use) Qf X.xe s := by
  have clo := closure_ok fun y hy e => (ok.free y hy e).elim (fun k => I.ok.has _ (.inl k)) fun k => I.ok.has _ (.inr k)
  refine wpAny_comprehension_free (use := use) rfl hs clo ok.kind (fun y hy e => by rw [ok.uniq y hy, e]) (thn (hi.run pins s g H _ I h) fun v s1 h1 => thn h1 fun itv s2 h2 => ?_)
  obtain ⟨it, fp, tn, J, H2, rfl, I2, T, t2, f2, q⟩ := h2
  refine wpAny_newObj_type (newEnv_comp ?_)
  -- the new dict at D
  obtain ⟨D, hD⟩ : ∃ D, D = s2.heap.objs.size := ⟨_, rfl⟩
  rw [← hD]
  have hDn : H2 D = none := I2.hok.fresh (Nat.le_of_eq hD.symm)
  obtain ⟨W, ⟨m0, w0⟩, turn⟩ := q D hDn
  have lt : ∀ b ∈ fp, b < s2.heap.objs.size := fun b hb => by
    obtain ⟨o, e, _⟩ := T.obj _ _ t2 b hb
    exact Heap.lt_size e
  obtain ⟨s3, hs3⟩ : ∃ s3 : Shared, s3 = { s2 with heap := s2.heap.push { cls := .type "dict", data := .dict #[] } } := ⟨_, rfl⟩
  have up : ∀ b o, s2.heap.get? b = some o → s3.heap.get? b = some o := fun b o e => by rw [hs3]; exact Heap.get?_push_of_some _ e
  have I3 : Inv X pins g (upd H2 D (DprO X.w D [])) s3 := by
    rw [hs3]
    exact I2.laid (t' := s2.toks) (fun b o e => Heap.get?_push_of_some _ e) (Nat.le_of_eq hD.symm) (by rw [hD]; exact dpr_empty s2.heap I2.big)
  have f3 : ∀ b ∈ fp, FpOk X pins (upd H2 D (DprO X.w D [])) b ∧ b < s3.heap.objs.size := fun b hb => by
    have l := lt b hb
    refine ⟨⟨?_, (f2 b hb).2⟩, by rw [hs3]; show b < (s2.heap.push _).objs.size; rw [Heap.size_push]; exact Nat.lt_succ_of_lt l⟩
    rw [upd_ne (show b ≠ D by rw [hD]; exact Nat.ne_of_lt l)]
    exact (f2 b hb).1
  have n3 : ∀ b ∈ fp, (upd H2 D (DprO X.w D [])) b = none := fun b hb => (f3 b hb).1.1
  have I4 := block_start I3 ok hN f3
  generalize hH3 : upd H2 D (DprO X.w D []) = H3 at I3 f3 n3 I4 w0
  generalize hcl : cellsFrom (s3.heap.objs.size + 1) scope.names (cloFrom X.env.cells scope.names []) = cl at I4
  have es3 : s3.heap.objs.size = (s2.heap.push { cls := .type "dict", data := .dict #[] }).objs.size := by rw [hs3]
  have hce : (compEnvC scope cl s3.heap.objs.size X.env).locals = s3.heap.objs.size := rfl
  have t4 : tn 0 (pushCells (s3.heap.push { cls := .type "dict", data := .dict #[] }) scope.names) := T.keep _ _ _ t2 fun b _ o e => pushCells_keeps _ _ _ _ (Heap.get?_push_of_some _ (up b o e))
  have key : codeAny (model X.prog X.w) X.A (.compLoop (.DictComp kx vx [⟨tg, iter, ifs, 0⟩] scope pos) 0 (.ref it) (.ref D) (compEnvC scope cl s3.heap.objs.size X.env)) (compPost (model X.prog X.w) X.A X.xe use Qf (.ref D) s3.heap.objs.size)
      { s3 with heap := pushCells (s3.heap.push { cls := .type "dict", data := .dict #[] }) scope.names } := by
    refine dcP_turns (BX := X.blk s3 H3 scope (compEnvC scope cl s3.heap.objs.size X.env) fp) hc hu rfl T (hg _ _ _ _ _) (ht _ _ _ _ _) (hk _ _ _ _ _) (he _ _ _ _ _) (vs := own.map (·.2)) (g := g) (W := W) (Qd := Q (.ref D)) (fun {g' H' s'} I' hn b hb => ?_) turn (fun s' H' I' hn hq => ?_) I4 t4 n3 w0 rfl
    · exact ⟨hn b hb, (I'.ok.exf b hb).1, I'.ok.exfs b hb, .inl hb, fun x c e => (I'.ok.exf b hb).2 x c e, fun p hp => absurd (show p ∈ ([] : List (Addr × Obj)) ++ [] from hp) (by simp)⟩
    · have I5 : Inv X pins g H' s' := I3.call' (ch := fp) I'.os I'.base I'.hok I'.bare fun b hb => ⟨(f3 b hb).1.2.2.2.1, (f3 b hb).1.2.1, (f3 b hb).1.2.2.2.2.1, (f3 b hb).1.2.2.2.2.2⟩
      have nC : H' s3.heap.objs.size = none := I'.free
      obtain ⟨mm, hn5, _⟩ := I'.loc
      have hn5 : s'.heap.Ns s3.heap.objs.size mm := hn5
      exact hRR D _ s' mm H' I5 hq hn5 (I3.fpOk (Nat.le_refl _) nC)
  subst hcl
  rw [hs3] at key t4
  exact codeAny_compStart_dict key (T.self X.A 0 _ _ _ t4 key)
theorem ps_setDcP {i : Nat} {y : Str} {py spos : Pos} (hc : X.calm = true) (hu : X.A.units + 65 < cLine) (hN : X.N.Nodup) (hy : X.N[i]? = some y) (hyl : X.env.scope.names.lookup y = some .local)
    (hsw : swapsWith (.DictComp kx vx [⟨tg, iter, ifs, 0⟩] scope pos) (some (.Name y py)) spos.line X.env = pure true) (hi : PI X tg iter wi) (ok : BlkOk X.N X.env.scope scope own)
    (hg : ∀ (s : Shared) (H : Hp) (Cl : Addr) (cl : List (Str × Addr)) (fp : List Addr), PG (X.blk s H scope (compEnvC scope cl Cl X.env) fp) tg gt) (ht : ∀ (s : Shared) (H : Hp) (Cl : Addr) (cl : List (Str × Addr)) (fp : List Addr), PTs (X.blk s H scope (compEnvC scope cl Cl X.env) fp) ifs tt)
    (hk : ∀ (s : Shared) (H : Hp) (Cl : Addr) (cl : List (Str × Addr)) (fp : List Addr), PE (X.blk s H scope (compEnvC scope cl Cl X.env) fp) kx tk) (he : ∀ (s : Shared) (H : Hp) (Cl : Addr) (cl : List (Str × Addr)) (fp : List Addr), PE (X.blk s H scope (compEnvC scope cl Cl X.env) fp) vx tv) (hs : ∀ x, foldedSetIterable iter X.env x = pure x := by intro _; rfl) :
    PS X (.Assign [.Name y py] (.DictComp kx vx [⟨tg, iter, ifs, 0⟩] scope pos) spos) (tAsg (tDcP X.K X.w wi gt tt tk tv (own.map (·.2))) (gName i)) := ⟨fun pins s st H D I h => by
  rw [exec_Assign_Name_used _ _ _ _ hsw]
  refine wpAny_bind (wpAny_standAt (wpAny_bind ?_))
  show wpAny _ X.A (do let _ ← comprehension (.DictComp kx vx [⟨tg, iter, ifs, 0⟩] scope pos) scope X.env (firstIterPos [⟨tg, iter, ifs, 0⟩] pos) newDict false (eval iter X.env) (some (assign (.Name y py) X.env))) _ _ s
  refine wpAny_bind (thn (dcP_core (Qf := fun _ s' => SP X pins D .next s') hc hu hN I hi ok hg ht hk he hs h fun d C s' m H' I' q hn f => ?_) fun _ s' hq => wpAny_pure (wpAny_pure hq))
  show wpAny _ _ (assign (.Name y py) X.env (.ref d)) _ _ _
  refine wpAny_assign_Name (store_ok2 (v := V.ref d) I' hN hy (.inl hyl) rfl (fun s2 I2 ⟨b, sb, hb⟩ => ?_) (.inr hyl))
  obtain ⟨f0, f1, f2, f3, f4, f5⟩ := f
  have ne : C ≠ b := hb.elim (fun z => by rw [z]; exact f1) fun z e => f4 y b z e.symm
  exact ⟨m, hn.sameBut sb ne, fun h3 sb3 => ⟨_, H', I2.turned (t' := s2.toks) (fun c o hc' e => (sb3.2 c hc').trans e) f0 f1 f3 f4 f5, q⟩⟩⟩
end
end Dv
namespace Dv
open PySem L2
def dcPL (gm : D → Env → Option Env) (tt : BM) (tk tv : EM) (r0 : Env) : List D → List (Pr × D) → Store → R (List (Pr × D))
  | [], acc, S => .ok acc S
  | d :: ds, acc, S => match gm d r0 with
    | none => .bad
    | some r1 => (nox (tt r1 S)).bind fun b S1 => if b = true then (nox (tk r1 S1)).bind fun k S2 => (nox (tv r1 S2)).bind fun v S3 => match prOf k with
        | some key => if acc.length < 90000 then dcPL gm tt tk tv r0 ds (putPD acc key v) S3 else .bad
        | none => .bad
      else dcPL gm tt tk tv r0 ds acc S1
def dFinP (w : World) (nw : Bool) (kds : List (Pr × D)) (S : Store) : R D := match nw with
  | true => .ok (.loc S.length) (S ++ [.dpr w kds])
  | false => .ok (.dpr w kds) S
@[simp] theorem dFinP_t (w : World) (kds : List (Pr × D)) (S : Store) : dFinP w true kds S = .ok (.loc S.length) (S ++ [.dpr w kds]) := rfl
@[simp] theorem dFinP_f (w : World) (kds : List (Pr × D)) (S : Store) : dFinP w false kds S = .ok (.dpr w kds) S := rfl
def mDcP (w : World) (nw : Bool) (mi : IM) (vs : List Nat) (gm : D → Env → Option Env) (tt : BM) (tk tv : EM) : EM := fun r S => (mi r S).bind fun ds S1 => (dcPL gm tt tk tv (wipeE r vs) ds [] S1).bind fun kds S2 => dFinP w nw kds S2
@[simp] theorem mDcP_ap {w : World} {nw : Bool} {mi : IM} {vs : List Nat} {gm : D → Env → Option Env} {tt : BM} {tk tv : EM} {r : Env} {S : Store} : mDcP w nw mi vs gm tt tk tv r S = (mi r S).bind fun ds S1 => (dcPL gm tt tk tv (wipeE r vs) ds [] S1).bind fun kds S2 => dFinP w nw kds S2 := rfl
theorem dcPL_cons {gm : D → Env → Option Env} {tt : BM} {tk tv : EM} {r0 : Env} (d : D) (ds : List D) (acc : List (Pr × D)) (S : Store) : dcPL gm tt tk tv r0 (d :: ds) acc S = (match gm d r0 with
    | none => .bad
    | some r1 => (nox (tt r1 S)).bind fun b S1 => if b = true then (nox (tk r1 S1)).bind fun k S2 => (nox (tv r1 S2)).bind fun v S3 => match prOf k with
        | some key => if acc.length < 90000 then dcPL gm tt tk tv r0 ds (putPD acc key v) S3 else .bad
        | none => .bad
      else dcPL gm tt tk tv r0 ds acc S1) := rfl
section
variable {X : Cx} {Wx : WX} {kx vx tg iter : Expr} {ifs : List Expr} {scope : Scope} {own : List (Str × Nat)} {pos : Pos} {mi : IM} {sl : List Nat} {gm : D → Env → Option Env} {tt : BM} {tk tv : EM} {nw : Bool}
theorem dcP_of {w : World} {K : PySem.W.Frag} {mg : Str → Option Value} {vs : List Nat} (hsl : ∀ i ∈ sl, i ∈ vs) {T1 : Tb} {H1 : Hp} {S1 : Store} {g : L2.St} {r : Env} {J : It} {ds : List D} {Q : VK} (sim1 : Sim K mg T1 S1 H1) (rs1 : RepSt K T1 H1 r g) (wk : Walks K mg T1 H1 J ds)
    (h1 : Out K mg Wx (Rep K) T1 g H1 ((dcPL gm tt tk tv (wipeE r vs) ds [] S1).bind fun kds S2 => dFinP w nw kds S2) Q) :
    ∀ Dl, H1 Dl = none → ∃ W : Nat → Nat → Hp → Prop, (∃ m, W 0 m (upd H1 Dl (DprO w Dl []))) ∧ ∀ i m H, W i m H →
      (J.stop i H ∧ Q (.ref Dl) H) ∨ (J.go i H ∧ ∃ Nx : Hp → Prop, (∀ H', Nx H' → ∃ m', m' < m ∧ W (i + 1) m' H') ∧ ∀ x H', J.yld i H x H' → gD K mg sl gm x (wipe g vs) H' fun σ2 H2 => wipe σ2 vs = wipe g vs ∧ tDT K mg W0 tt σ2 H2 fun b H3 =>
        if b = true then tD K mg W0 tk σ2 H3 fun y H4 => tD K mg W0 tv σ2 H4 fun z H5 => ∃ xs k c, y = .ref c ∧ SqPr K H5 c k ∧ (∀ x ∈ xs, SqPr K H5 x.2.1 x.1) ∧ H5 Dl = some (DprO w Dl xs) ∧ xs.length < sizeLine ∧ Nx (upd H5 Dl (DprO w Dl (putG xs k c z))) else Nx H3) := by
  intro Dl hD
  obtain ⟨kp0, simh⟩ := sim1.hide (u := DprO w Dl []) hD (nodictP sim1.hl)
  have opn : ∀ {Ta Tb : Tb} {Ha Hb : Hp}, Ta.hid = Dl :: T1.hid → Step T1 H1 ⟨Ta.loc, T1.hid⟩ Ha → Step Ta Ha Tb Hb → Tb.hid = Dl :: T1.hid ∧ Step T1 H1 ⟨Tb.loc, T1.hid⟩ Hb := fun {Ta Tb Ha Hb} e1 s1 s2 => by
    refine ⟨s2.hid.trans e1, s1.trans ⟨s2.ext, rfl, fun b hb => s2.hkeep b (by rw [e1]; exact List.mem_cons_of_mem _ hb), fun b u n q => ?_, s2.new⟩⟩
    by_cases hb : b = Dl
    · subst hb
      rw [s2.hkeep b (by rw [e1]; exact List.mem_cons_self)]
      exact q
    · exact s2.keep b u ⟨n.1, fun z => by
        rw [e1] at z
        exact (List.mem_cons.mp z).elim hb n.2⟩ q
  refine ⟨fun i m H => ∃ T S acc ys, m = ds.length - i ∧ i ≤ ds.length ∧ T.hid = Dl :: T1.hid ∧ Step T1 H1 ⟨T.loc, T1.hid⟩ H ∧ Sim K mg T S H ∧ H Dl = some (DprO w Dl acc) ∧ RepP K T H acc ys ∧
    Out K mg Wx (Rep K) T1 g H1 ((dcPL gm tt tk tv (wipeE r vs) (ds.drop i) ys S).bind fun kds S2 => dFinP w nw kds S2) Q, ⟨ds.length, T1.hide Dl, S1, [], [], by simp, Nat.zero_le _, rfl, sim1.stepNew hD, simh, upd_same, .nil, h1⟩, ?_⟩
  rintro i m H2 ⟨T2, S2, acc, ys, rfl, hi, eh, st2, sim2, hD2, ra, ho⟩
  have off2 : ∀ b, T1.off b → H1 b ≠ none → T2.off b := fun b n q => ⟨(st2.out q n).1, fun z => by
    rw [eh] at z
    rcases List.mem_cons.mp z with z | z
    · exact q (by rw [z]; exact hD)
    · exact n.2 z⟩
  have kf2 : Kf T1 H1 T2 H2 := ⟨⟨fun b u k n q => ⟨st2.keep b u n q, off2 b n (some_ne q)⟩, fun b u n q => ⟨st2.rd q n, off2 b n (rd_some q)⟩, fun n a q => st2.get q⟩, fun b o u n q => ⟨st2.keep b _ n q, off2 b n (some_ne q)⟩⟩
  obtain ⟨stop, go⟩ := wk T2 S2 H2 kf2 sim2
  by_cases hlt : i < ds.length
  · have ed : ds.drop i = ds[i] :: ds.drop (i + 1) := List.drop_eq_getElem_cons hlt
    rw [ed, dcPL_cons] at ho
    obtain ⟨g1, yl⟩ := go i ds[i] (List.getElem?_eq_getElem hlt)
    refine .inr ⟨g1, fun H => ∃ T S acc ys, T.hid = Dl :: T1.hid ∧ Step T1 H1 ⟨T.loc, T1.hid⟩ H ∧ Sim K mg T S H ∧ H Dl = some (DprO w Dl acc) ∧ RepP K T H acc ys ∧
      Out K mg Wx (Rep K) T1 g H1 ((dcPL gm tt tk tv (wipeE r vs) (ds.drop (i + 1)) ys S).bind fun kds S2 => dFinP w nw kds S2) Q, fun H3 q => ?_, fun x H3 y => ?_⟩
    · obtain ⟨T3, S3, acc3, ys3, q1, q2, q3, q4, q5, q7⟩ := q
      exact ⟨ds.length - (i + 1), by omega, T3, S3, acc3, ys3, rfl, hlt, q1, q2, q3, q4, q5, q7⟩
    · obtain ⟨st3, sim3, rep3⟩ := yl x H3 y
      obtain ⟨eh3, op3⟩ := opn eh st2 st3
      have hid3 : Dl ∈ T2.hid := by rw [eh]; exact List.mem_cons_self
      split at ho
      · exact ho.elim
      · rename_i r1 eg
        refine ⟨T2, wipeE r vs, S2, ds[i], r1, ((rs1.wipe vs).kp kf2.toKp).step st3, sim3, rep3, eg, fun g4 rs4 lg kg => ⟨wipe_same hsl (by rw [lg, wipe_length]) kg, T2, r1, S2, rs4, sim3, ?_⟩⟩
        rw [R.bind_assoc] at ho
        refine lc_bind ho fun b S4 T4 H4 v st4 sim4 rel4 ho4 => ?_
        subst rel4
        obtain ⟨eh4, op4⟩ := opn eh3 op3 st4
        have hid4 : Dl ∈ T4.hid := by rw [eh4]; exact List.mem_cons_self
        have hD4 : H4 Dl = some (DprO w Dl acc) := (st4.hkeep Dl hid3).trans ((st3.hkeep Dl hid3).trans hD2)
        cases v with
        | false =>
          rw [if_neg Bool.false_ne_true] at ho4 ⊢
          exact ⟨T4, S4, acc, ys, eh4, op4, sim4, hD4, ra.step (st3.trans st4), ho4⟩
        | true =>
          rw [if_pos rfl, R.bind_assoc] at ho4
          rw [if_pos rfl]
          refine ⟨T4, r1, S4, rs4.step st4, sim4, lc_bind ho4 fun kd S5 T5 H5 kv st5 sim5 rel5 ho5 => ?_⟩
          obtain ⟨eh5, op5⟩ := opn eh4 op4 st5
          have hid5 : Dl ∈ T5.hid := by rw [eh5]; exact List.mem_cons_self
          rw [R.bind_assoc] at ho5
          refine ⟨T5, r1, S5, (rs4.step st4).step st5, sim5, lc_bind ho5 fun vd S6 T6 H6 vv st6 sim6 rel6 ho6 => ?_⟩
          obtain ⟨eh6, op6⟩ := opn eh5 op5 st6
          have hid6 : Dl ∈ T6.hid := by rw [eh6]; exact List.mem_cons_self
          split at ho6
          · rename_i key ek
            split at ho6
            · rename_i hlt6
              obtain ⟨cb, rfl, ekd⟩ := pr_rep (rel5.step st6) ek
              subst ekd
              have rb6 := rel5.step st6
              have ra6 : RepP K T6 H6 acc ys := ra.step (((st3.trans st4).trans st5).trans st6)
              have hal : acc.length + 1 ≤ sizeLine := by rw [ra6.length]; exact sz5 (by omega)
              obtain ⟨kp7, sim7⟩ := sim6.setHid (u := DprO w Dl (putG acc key cb vv)) hid6 (nodictP sim6.hl)
              refine ⟨acc, key, cb, rfl, pr_sq rb6, ra6.sq, (st6.hkeep Dl hid5).trans ((st5.hkeep Dl hid4).trans hD4), hal, T6, S6, putG acc key cb vv, putPD ys key vd, eh6, ⟨op6.ext, rfl, fun b hb => ?_, fun b u n q => ?_, op6.new⟩, sim7, upd_same, (ra6.put key rb6 rel6).kp kp7.toKp, ho6⟩
              · rw [upd_ne fun e => sim1.hid b hb (by rw [e]; exact hD)]
                exact op6.hkeep b hb
              · rw [upd_ne (ne_of_none q hD)]
                exact op6.keep b u n q
            · exact ho6.elim
          · exact ho6.elim
  · have e : i = ds.length := by omega
    subst e
    rw [List.drop_length] at ho
    have ho : Out K mg Wx (Rep K) T1 g H1 (dFinP w nw ys S2) Q := ho
    have pl : Dl ∉ T2.loc := fun z => sim2.apart z (by rw [eh]; exact List.mem_cons_self)
    have ph : Dl ∉ T1.hid := fun z => by
      have nd := (List.nodup_append.mp sim2.nd).2.1
      rw [eh] at nd
      exact (List.nodup_cons.mp nd).1 z
    refine .inl ⟨stop, ?_⟩
    obtain ⟨l2, h2⟩ := T2
    cases eh
    cases nw with
    | false => exact ho ⟨l2, T1.hid⟩ H2 _ st2 sim2.unhide (.dpr hD2 ⟨pl, ph⟩ ra.1 (ra.2.1.kp kp_unhide) (ra.2.2.kp kp_unhide))
    | true =>
      have off : ∀ b, (Tb.mk l2 (Dl :: T1.hid)).off b → (Tb.mk (l2 ++ [Dl]) T1.hid).off b := fun b n => ⟨fun z => by
        rcases List.mem_append.mp z with z | z
        · exact n.1 z
        · exact n.2 (by rw [List.mem_singleton.mp z]; exact List.mem_cons_self), fun z => n.2 (List.mem_cons_of_mem _ z)⟩
      have kp : Kp ⟨l2, Dl :: T1.hid⟩ H2 ⟨l2 ++ [Dl], T1.hid⟩ H2 := by
        refine ⟨fun b _ _ n q => ⟨q, off b n⟩, fun b _ n q => ⟨q, off b n⟩, fun n a q => ?_⟩
        have q : l2[n]? = some a := q
        show (l2 ++ [Dl])[n]? = some a
        rw [List.getElem?_append_left (List.getElem?_eq_some_iff.mp q).1]
        exact q
      have rk := ra.kp kp
      have st3 : Step T1 H1 ⟨l2 ++ [Dl], T1.hid⟩ H2 := by
        obtain ⟨m, em⟩ := st2.ext
        refine ⟨⟨m ++ [Dl], by show l2 ++ [Dl] = _; rw [← List.append_assoc]; exact congrArg (· ++ [Dl]) em⟩, rfl, st2.hkeep, st2.keep, fun a h n => ?_⟩
        rcases List.mem_append.mp h with h | h
        · exact st2.new a h n
        · rw [List.mem_singleton.mp h]
          exact hD
      have hlen : l2.length = S2.length := sim2.len
      refine ho ⟨l2 ++ [Dl], T1.hid⟩ H2 _ st3 (sim2.unhideNew ⟨acc, hD2, rk.1, rk.2.1, rk.2.2⟩) (.loc ?_)
      show (l2 ++ [Dl])[S2.length]? = some Dl
      rw [← hlen, List.getElem?_append_right (Nat.le_refl _), Nat.sub_self]
      rfl
theorem js_setDcP {j : Nat} {y : Str} {py spos : Pos} (hsl : ∀ i ∈ sl, i ∈ own.map (·.2)) (hc : X.calm = true) (hu : X.A.units + 65 < cLine) (hN : X.N.Nodup) (hy : X.N[j]? = some y) (hyl : X.env.scope.names.lookup y = some .local)
    (hsw : swapsWith (.DictComp kx vx [⟨tg, iter, ifs, 0⟩] scope pos) (some (.Name y py)) spos.line X.env = pure true) (hi : PI X tg iter (iD X.K X.mg Wx mi)) (ok : BlkOk X.N X.env.scope scope own)
    (hg : ∀ (s : Shared) (H : Hp) (C : Addr) (cl : List (Str × Addr)) (fp : List Addr), PG (X.blk s H scope (compEnvC scope cl C X.env) fp) tg (gD X.K X.mg sl gm)) (ht : ∀ (s : Shared) (H : Hp) (C : Addr) (cl : List (Str × Addr)) (fp : List Addr), PTs (X.blk s H scope (compEnvC scope cl C X.env) fp) ifs (tDT X.K X.mg W0 tt))
    (hk : ∀ (s : Shared) (H : Hp) (C : Addr) (cl : List (Str × Addr)) (fp : List Addr), PE (X.blk s H scope (compEnvC scope cl C X.env) fp) kx (tD X.K X.mg W0 tk))
    (he : ∀ (s : Shared) (H : Hp) (C : Addr) (cl : List (Str × Addr)) (fp : List Addr), PE (X.blk s H scope (compEnvC scope cl C X.env) fp) vx (tD X.K X.mg W0 tv)) (hs : ∀ x, foldedSetIterable iter X.env x = pure x := by intro _; rfl) :
    PS X (.Assign [.Name y py] (.DictComp kx vx [⟨tg, iter, ifs, 0⟩] scope pos) spos) (tDS X.K X.mg Wx (sSet j (mDcP X.w nw mi (own.map (·.2)) gm tt tk tv))) :=
  ps_imp (ps_setDcP (X := X) (pos := pos) hc hu hN hy hyl hsw hi ok hg ht hk he hs) fun E g H h => by
    obtain ⟨T, r, S, rs, sim, h⟩ := h
    have h' : Out X.K X.mg Wx (Rep X.K) T g H (mDcP X.w nw mi (own.map (·.2)) gm tt tk tv r S) (fun x H1 => gName j x g H1 E.nx) := ZOut.bind h rs fun d S1 T1 H1 v st sim1 rel rs1 h1 => h1.nx sim1 (rs1.set rel)
    refine ⟨T, r, S, rs, sim, Out.bind h' fun ds S1 T1 H1 J st sim1 rel h1 => ?_⟩
    exact dcP_of hsl sim1 (rs.step st) rel.1 h1
end
end Dv
namespace Dv
open PySem PySem.Spec PyProof.Rows L2 LamX PySem.W
section
variable {prog : Program} {w : World} {A : Around} {s : Shared}
theorem lam1_turn {f c' t : Addr} {qual y : Str} {params : Arguments} {scope : Scope} {cl : List (Str × Addr)} {pm ctv : Value} {p1 p2 p3 : Pos} {k : Nat} {z : Int} {tz : Tok} {its : Array Value} {Q : Value → Shared → Prop} {E : Value → Shared → Prop}
    (ho : s.heap.get? f = some (PySem.W.kla_obj "<lambda>" qual params (.Subscript (.Name y p1) (.Constant (.int 1) k p2) p3) scope cl pm c' ctv)) (hcd : s.heap.CodeRec (.ref c') qual) (hroom : A.depth < recursionLimit) (hnl : s.heap.NoLimit)
    (hbind : bindArgs (PySem.W.kla_fn "<lambda>" qual params (.Subscript (.Name y p1) (.Constant (.int 1) k p2) p3) scope cl pm (.ref c') ctv) ⟨[.ref t], []⟩ = pure [(y, .ref t)])
    (hk : scope.kind = .function) (hco : scope.isCoroutine = false) (hgen : scope.isGenerator = false) (hcell : ∀ n ∈ scope.names, n.2 ≠ .cell) (hy : scope.names.lookup y = some .local)
    (ht : IsTup s.heap t its) (hz : its[1]? = some (.int z tz)) (hdy : (y == ("__debug__" : Str)) = false)
    (out : ∀ h' tk, (∀ b o, s.heap.get? b = some o → h'.get? b = some o) → s.toks ≤ tk → Q (.int z tz) { s with heap := h', toks := tk }) : wpAny (model prog w) A (call (.ref f) [.ref t]) Q E s := by
  refine wpAny_call ?_
  refine PySem.W.kla_callFunE hroom ho rfl hco hgen rfl hcd ?_
  rw [hbind]
  refine wpAny_pure (wpAny_newFunctionEnv hcell (fun n hn => by
    rw [List.mem_singleton] at hn
    subst hn
    exact hy) (fun h1 hns hsb => ?_) hk)
  have keep : ∀ b o, s.heap.get? b = some o → h1.get? b = some o := fun b o e => hsb.extBut b o (Nat.ne_of_lt (Heap.lt_size e)) (Heap.get?_push_of_some _ e)
  refine ⟨hnl.fresh _ hsb, PySem.W.kla_codeExpr ?_⟩
  have ht1 : IsTup h1 t its := by
    obtain ⟨o, e1, e2⟩ := ht
    exact ⟨o, keep _ _ e1, e2⟩
  have h0s : 1 < its.size := (Array.getElem?_eq_some_iff.mp hz).1
  have i1 : seqIndex? (1 : Int) its.size = some 1 := (L2.ixN_seq (by
    unfold L2.ixN
    rw [if_pos (by omega), if_pos (by omega)]
    rfl)).1
  refine Subscript_ ?_
  refine wpAny_Name (wpAny_loadName_local (v := .ref t) hk hy hns (by simp) ?_) hdy
  refine wpAny_Constant_int ?_
  refine subscriptTail_builtinR (x := .int z tz) ht1.typeIs PySem.F.slot_tuple_getitem.lookup ?_
  refine getItem_tuple ht1 (by decide) (by decide) i1 hz ⟨rfl, ?_⟩
  exact out h1 _ keep (by show s.toks ≤ s.toks + 1 + 1; exact Nat.le_trans (Nat.le_succ _) (Nat.le_succ _))
end
def key1 : D → Option Int
  | .tup (_ :: .int z :: _) => some z
  | _ => none
def keys1 : List D → Option (List Int)
  | [] => some []
  | d :: ds => match key1 d, keys1 ds with
    | some z, some zs => some (z :: zs)
    | _, _ => none
theorem keys1_get : ∀ {ds : List D} {zs : List Int}, keys1 ds = some zs → zs.length = ds.length ∧ ∀ (i : Nat) (d : D), ds[i]? = some d → ∃ a z r, d = .tup (a :: .int z :: r) ∧ zs[i]? = some z
  | [], _, h => by
    cases h
    exact ⟨rfl, fun i d e => by simp at e⟩
  | d :: ds, zs, h => by
    unfold keys1 at h
    split at h
    · rename_i z zs' e1 e2
      cases h
      obtain ⟨l, g⟩ := keys1_get e2
      refine ⟨by rw [List.length_cons, List.length_cons, l], fun i d' e => ?_⟩
      cases i with
      | zero =>
        simp at e
        subst e
        unfold key1 at e1
        split at e1
        · cases e1
          exact ⟨_, _, _, rfl, rfl⟩
        · cases e1
      | succ i =>
        simp only [List.getElem?_cons_succ] at e ⊢
        exact g i d' e
    · cases h
def btG (zs : List Int) (i j : Nat) : Bool := decide (zs.getD j 0 < zs.getD i 0)
def maxLamD (x q : Str) (ti : Nat) (ds : List D) (S : Store) : Option D := match ds, S[ti]? with
  | [.tup xs], some (O.tbl x' q') => match keys1 xs with
    | some zs => if x' = x ∧ q' = q ∧ xs ≠ [] then xs[argBest (btG zs) (xs.length - 1)]? else none
    | none => none
  | _, _ => none
def mMaxLam (x q : Str) (ti : Nat) (ms : AM) : EM := fun r S => (ms r S).bind fun ds S1 => ofO (maxLamD x q ti ds S1) S1
@[simp] theorem mMaxLam_ap {x q : Str} {ti : Nat} {ms : AM} {r : Env} {S : Store} : mMaxLam x q ti ms r S = (ms r S).bind fun ds S1 => ofO (maxLamD x q ti ds S1) S1 := rfl
theorem maxLam_some {x q : Str} {ti : Nat} {ds : List D} {S : Store} {d : D} (h : maxLamD x q ti ds S = some d) : ∃ xs zs, ds = [.tup xs] ∧ S[ti]? = some (.tbl x q) ∧ keys1 xs = some zs ∧ xs ≠ [] ∧ xs[argBest (btG zs) (xs.length - 1)]? = some d := by
  unfold maxLamD at h
  split at h
  · rename_i xs x' q' h1
    split at h
    · rename_i zs hz
      split at h
      · rename_i c
        obtain ⟨rfl, rfl, c⟩ := c
        exact ⟨xs, zs, rfl, h1, hz, c, h⟩
      · cases h
    · cases h
  · cases h
section
variable {X : Cx} {Wx : WX}
theorem j_maxLam {c P : Addr} {x z q : Str} {ti : Nat} {e : Expr} {ms : AM} {params : Arguments} {scope : Scope} {p pos lpos p1 p2 p3 : Pos} {kk : Nat} {kp : Pos} (TB : TabB X.base X.mg c P) (htb : TblAt X.K X.mg x P) (hcode : X.env.code = .ref c) (hq : X.env.qual ++ "<lambda>" = q)
    {kr : Nat} (hrm : Room kr X.A)
    (hg : Gl X "max") (hm : X.mg "max" = none) (hv : bootBuiltins "max" = some (.builtin "max")) (ha : PA X [e] (tDA X.K X.mg Wx ms))
    (hdef : defaultsOf params X.env = ([], [])) (hk : scope.kind = .function) (hco : scope.isCoroutine = false) (hgen : scope.isGenerator = false) (hcell : ∀ n ∈ scope.names, n.2 ≠ .cell) (hz : scope.names.lookup z = some .local)
    (hfree : ∀ n ∈ scope.names, n.2 ≠ .free)
    (hbind : ∀ (pm c' ctv v : Value) (cl : List (Str × Addr)), bindArgs (PySem.W.kla_fn "<lambda>" q params (.Subscript (.Name z p1) (.Constant (.int 1) kk p2) p3) scope cl pm c' ctv) ⟨[v], []⟩ = pure [(z, v)])
    (hdz : (z == ("__debug__" : Str)) = false := by decide)
    (he : backTo pos (starEach [e] X.env) = (false, eval e X.env) :: backTo pos (starEach [] X.env) := by rfl) (hpl : (backTo pos (starEach [e] X.env)).any (·.1) = false := by rfl) :
    PE X (.Call (.Name "max" p) [e] [⟨some "key", .Lambda params (.Subscript (.Name z p1) (.Constant (.int 1) kk p2) p3) scope lpos, kp⟩] pos) (tD X.K X.mg Wx (mMaxLam x q ti ms)) := by
  refine ⟨fun pins s σ H Q I h => ?_⟩
  obtain ⟨T, r, S, rs, sim, h⟩ := h
  rw [mMaxLam_ap] at h
  refine wpAny_Call_Name_kw (ld_blt I hg hm hv ?_)
  refine callWith_kw (thn (ha.run pos pins s σ H (fun vs H1 => ∃ T1 S1 ds d, Step T H T1 H1 ∧ Sim X.K X.mg T1 S1 H1 ∧ RepL X.K T1 H1 vs ds ∧ maxLamD x q ti ds S1 = some d ∧ ∀ T2 H2 v, Step T1 H1 T2 H2 → Sim X.K X.mg T2 S1 H2 → Rep X.K T2 H2 v d → Q v H2) I ⟨T, r, S, rs, sim, ?_⟩) fun us s1 h1 => ?_) he hpl rfl rfl
  · exact Out.bind h fun ds S1 T1 H1 vs st sim1 rel h1 => Out.use h1 fun d ed k => ⟨T1, S1, ds, d, st, sim1, rel, ed, k⟩
  obtain ⟨vs, H1, I1, r1, T1, S1, ds, d, st, sim1, rel, ed, k⟩ := h1
  obtain ⟨xs, zs, rfl, hS, hzs, hne, hd⟩ := maxLam_some ed
  obtain ⟨va, rfl, rv⟩ := rel.one
  cases rv
  rename_i a ws la offa rl
  rw [Vals.ref1 r1]
  have h0 : ti < T1.loc.length := by
    rw [sim1.len]
    exact (List.getElem?_eq_some_iff.mp hS).1
  obtain ⟨P', hP'⟩ : ∃ P', T1.loc[ti]? = some P' := ⟨_, List.getElem?_eq_getElem h0⟩
  obtain ⟨htb', ps, hH, ht, hcs⟩ := sim1.obj ti P' _ hP' hS
  obtain rfl := htb.uniq htb'
  refine wpAny_evalAll_cons (wpAny_bind (lam_mk I1 TB hcode hq hH ht (fun pos cv h => let ⟨c, a, b, _⟩ := hcs pos cv h; ⟨c, a, b⟩) hdef (fun n hn e => absurd e (hfree n hn)) fun f c' pm ctv H2 s2 md I2 hf hc' => ?_))
  refine wpAny_bind (wpAny_standAt (wpAny_pure ?_))
  obtain ⟨st2, sim2⟩ := made_sim sim1 hP' hS hH md
  have la2 : H2 a = some (.tup ws) := st2.keep _ _ offa la
  have rl2 := rl.step st2
  obtain ⟨its, iv, tl, hzl⟩ := I2.tuple (SqT.of la2)
  refine wpAny_pure ?_
  obtain ⟨⟨oc, vsc, tc, hoc, hdc, hvc⟩, _, _⟩ := I2.hok c' _ hc'
  obtain ⟨lz, gz⟩ := keys1_get hzs
  have lits : its.length = xs.length := by rw [← iv.length, rl.length]
  have hpos : 0 < xs.length := by cases xs with
    | nil => exact absurd rfl hne
    | cons _ _ => exact Nat.succ_pos _
  -- the walk's own iterator
  have tl' : s2.heap.IsTuple a its.toArray := by
    obtain ⟨o, ho, hc, n, hdd⟩ := tl
    exact ⟨o, ho, hc, n, hdd⟩
  have hlt : a < s2.heap.objs.size := by
    obtain ⟨o, ho, _⟩ := tl
    exact Heap.lt_size ho
  refine call_max_walkK (wpAny_pyIter_tuple tl' ?_)
  have up : ∀ b o, s2.heap.get? b = some o → (s2.heap.push ({ cls := .type "tuple_iterator", data := .fields #[.ref a, .int 0 0] } : Obj)).get? b = some o := fun b o e => Heap.get?_push_of_some _ e
  have hsz : (s2.heap.push ({ cls := .type "tuple_iterator", data := .fields #[.ref a, .int 0 0] } : Obj)).objs.size = s2.heap.objs.size + 1 := by rw [Heap.size_push]
  have hne' : a ≠ s2.heap.objs.size := Nat.ne_of_lt hlt
  have W := (Walks.tuple (prog := X.prog) (w := X.w) (A := X.A.in1) hrm.hd s2.heap.objs.size a hne' its.toArray).toS
  have W' : WalksS X.prog X.w X.A.in1 s2.heap.objs.size [s2.heap.objs.size, a] [s2.heap.objs.size] (fun a b => b = a) xs.length (fun i v => its.toArray[i]? = some v) (fun i s => s.heap.IsTupleIter s2.heap.objs.size a i ∧ s.heap.IsTuple a its.toArray) := by
    rw [← lits]
    exact W
  refine ⟨s2.heap.objs.size, [s2.heap.objs.size, a], [s2.heap.objs.size], fun a b => b = a, xs.length, fun i v => its.toArray[i]? = some v, fun i s => s.heap.IsTupleIter s2.heap.objs.size a i ∧ s.heap.IsTuple a its.toArray,
    fun s' => (∀ b o, s2.heap.get? b = some o → s'.heap.get? b = some o) ∧ s'.os = s2.os ∧ s'.gens = s2.gens ∧ s'.drawn = s2.drawn, fun i k _ => ∃ t, k = .int (zs.getD i 0) t, btG zs, rfl, W', ?_, ?_, hpos, ?_, ⟨up, rfl, rfl, rfl⟩, ?_⟩
  · exact ⟨⟨_, Heap.get?_push_size _ rfl, rfl, rfl⟩, tl'.at fun o e => up _ _ e⟩
  · intro b hb
    show b < (s2.heap.push _).objs.size
    rw [hsz]
    rcases List.mem_cons.mp hb with rfl | hb
    · exact Nat.lt_succ_self _
    · rw [List.mem_singleton.mp hb]
      exact Nat.lt_succ_of_lt hlt
  · refine ⟨fun s s' J mv => ?_, fun i k s s' V mv => V, fun i v s o Q' E' hi hPv J hSt hSo hQ' => ?_, fun i j ki kj s Q' E' J Vi Vj hQ' => ?_⟩
    · obtain ⟨j1, j2, j3, j4⟩ := J
      refine ⟨fun b o e => mv.heap b o (fun hb => ?_) (j1 b o e), mv.os.trans j2, mv.gens.trans j3, mv.drawn.trans j4⟩
      have hbl := Heap.lt_size e
      rcases List.mem_cons.mp hb with hb | hb
      · have hb : b = (s2.heap.push ({ cls := .type "tuple_iterator", data := .fields #[.ref a, .int 0 0] } : Obj)).objs.size := hb
        rw [hsz] at hb
        rw [hb] at hbl
        exact Nat.not_succ_le_self _ (Nat.le_of_lt hbl)
      · have hb := List.mem_singleton.mp hb
        rw [hb] at hbl
        exact Nat.lt_irrefl _ hbl
    · have hPv : its[i]? = some v := by simpa using hPv
      obtain ⟨a0, z0, r0, ed0, ez0⟩ := gz i xs[i] (List.getElem?_eq_getElem hi)
      obtain ⟨vw, e1, e2⟩ := rl2.get (List.getElem?_eq_getElem hi)
      rw [ed0] at e2
      cases e2
      rename_i tw xw lw offw rw'
      obtain ⟨itw, iw, tww, _⟩ := I2.tuple (SqT.of lw)
      obtain ⟨v0, f1, f2⟩ := rw'.get (i := 1) rfl
      cases f2
      obtain ⟨uw, q1, q2⟩ := iv.get e1
      obtain rfl : uw = Value.ref tw := q2
      rw [hPv] at q1
      cases q1
      obtain ⟨uz, z1, z2⟩ := iw.get f1
      obtain ⟨tz, rfl⟩ := z2
      obtain ⟨j1, j2, j3, j4⟩ := J
      refine lam1_turn (its := itw.toArray) (tz := tz) (j1 _ _ hf) ⟨c', oc, vsc, tc, rfl, j1 _ _ hoc, hdc, hvc⟩ ?_ (I2.nolimit.keeps j1) (hbind _ _ _ _ _) hk hco hgen hcell hz ?_ (by simpa using z1) hdz fun h' tk kp htk => ?_
      · show X.A.depth < recursionLimit
        have := hrm.dp
        omega
      · obtain ⟨o, a1, a2⟩ := tww
        exact ⟨o, j1 _ _ a1, a2⟩
      · refine hQ' _ _ ⟨fun b o e => kp _ _ (j1 b o e), j2, j3, j4⟩ (W'.frame _ _ _ _ hSt htk fun b _ o e => kp b o e) (kp _ _ hSo) ⟨tz, ?_⟩ fun j k' V => V
        rw [List.getD_eq_getElem?_getD, ez0]
        rfl
    · obtain ⟨t1, rfl⟩ := Vi
      obtain ⟨t2, rfl⟩ := Vj
      refine CmpOf.ints_gt (prog := X.prog) (w := X.w) (A := X.A.in1) (P := fun i v => ∃ t, v = .int (zs.getD i 0) t) (fun i => zs.getD i 0) (fun i v h => h) i j _ _ _ _ _ ⟨t1, rfl⟩ ⟨t2, rfl⟩ ?_
      exact hQ'
  · intro v s' hP J
    obtain ⟨j1, j2, j3, j4⟩ := J
    have hP : its[argBest (btG zs) (xs.length - 1)]? = some v := by simpa using hP
    obtain ⟨vw, e1, e2⟩ := rl2.get hd
    obtain ⟨uw, q1, q2⟩ := iv.get e1
    rw [hP] at q1
    cases q1
    have es : s' = { s2 with heap := s'.heap, toks := s'.toks } := by
      obtain ⟨a1, a2, a3, a4, a5⟩ := s'
      simp only at j2 j3 j4
      subst j2 j3 j4
      rfl
    rw [es]
    exact ⟨vw, H2, I2.kept (t' := s'.toks) j1, q2, k T1 H2 vw st2 sim2 e2⟩
end
end Dv
namespace Law
open PySem L2 Dv
def top (i : Nat) : Stmt := PySem.Challenge.pw_meetloft_k34_amounts_by_hand.main.body.getD i (.Pass ⟨0, 0, 0, 0⟩)
abbrev s__law_draw : Stmt := top 20
abbrev N__law_draw : List Str := ["script", "town", "many", "k", "cell", "digits", "number", "more"]
abbrev P__law_draw : List Str := ["script", "town", "many"]
theorem sc__law_draw : FnScope N__law_draw P__law_draw (defScope s__law_draw) := ⟨rfl, rfl, rfl, by decide +kernel, rfl, by decide +kernel, by decide +kernel⟩
abbrev s__law_pick : Stmt := top 21
abbrev N__law_pick : List Str := ["script", "town", "some"]
abbrev P__law_pick : List Str := ["script", "town", "some"]
theorem sc__law_pick : FnScope N__law_pick P__law_pick (defScope s__law_pick) := ⟨rfl, rfl, rfl, by decide +kernel, rfl, by decide +kernel, by decide +kernel⟩
abbrev s__law_drawn_rows : Stmt := top 22
abbrev N__law_drawn_rows : List Str := ["script", "town", "width", "most", "far", "found", "k", "row", "j"]
abbrev P__law_drawn_rows : List Str := ["script", "town", "width", "most", "far"]
theorem sc__law_drawn_rows : FnScope N__law_drawn_rows P__law_drawn_rows (defScope s__law_drawn_rows) := ⟨rfl, rfl, rfl, by decide +kernel, rfl, by decide +kernel, by decide +kernel⟩
abbrev s__law_drawn_book : Stmt := top 23
abbrev N__law_drawn_book : List Str := ["script", "town", "most", "far", "found", "word", "width"]
abbrev P__law_drawn_book : List Str := ["script", "town", "most", "far"]
theorem sc__law_drawn_book : FnScope N__law_drawn_book P__law_drawn_book (defScope s__law_drawn_book) := ⟨rfl, rfl, rfl, by decide +kernel, rfl, by decide +kernel, by decide +kernel⟩
abbrev s__law_drawn_view : Stmt := top 30
abbrev N__law_drawn_view : List Str := ["script", "town", "many", "words", "k", "used", "head", "names", "atoms", "some", "word", "width", "j", "one"]
abbrev P__law_drawn_view : List Str := ["script", "town", "many", "words"]
theorem sc__law_drawn_view : FnScope N__law_drawn_view P__law_drawn_view (defScope s__law_drawn_view) := ⟨rfl, rfl, rfl, by decide +kernel, rfl, by decide +kernel, by decide +kernel⟩
abbrev s__law_drawn_amounts : Stmt := top 31
abbrev N__law_drawn_amounts : List Str := ["script", "town", "book", "found", "word", "width", "rows", "row"]
abbrev P__law_drawn_amounts : List Str := ["script", "town", "book"]
theorem sc__law_drawn_amounts : FnScope N__law_drawn_amounts P__law_drawn_amounts (defScope s__law_drawn_amounts) := ⟨rfl, rfl, rfl, by decide +kernel, rfl, by decide +kernel, by decide +kernel⟩
abbrev s__law_names : Stmt := top 25
abbrev N__law_names : List Str := ["ask", "found", "word", "some", "one"]
abbrev P__law_names : List Str := ["ask"]
theorem sc__law_names : FnScope N__law_names P__law_names (defScope s__law_names) := ⟨rfl, rfl, rfl, by decide +kernel, rfl, by decide +kernel, by decide +kernel⟩
abbrev s__law_put : Stmt := top 26
abbrev N__law_put : List Str := ["some", "given", "one"]
abbrev P__law_put : List Str := ["some", "given"]
theorem sc__law_put : FnScope N__law_put P__law_put (defScope s__law_put) := ⟨rfl, rfl, rfl, by decide +kernel, rfl, by decide +kernel, by decide +kernel⟩
abbrev s__law_checks_hold : Stmt := top 27
abbrev N__law_checks_hold : List Str := ["checks", "given", "sort", "one", "other", "left", "right"]
abbrev P__law_checks_hold : List Str := ["checks", "given"]
theorem sc__law_checks_hold : FnScope N__law_checks_hold P__law_checks_hold (defScope s__law_checks_hold) := ⟨rfl, rfl, rfl, by decide +kernel, rfl, by decide +kernel, by decide +kernel⟩
abbrev s__law_is_answer : Stmt := top 28
abbrev N__law_is_answer : List Str := ["book", "ask", "given", "tables", "word", "width", "rows", "some"]
abbrev P__law_is_answer : List Str := ["book", "ask", "given"]
theorem sc__law_is_answer : FnScope N__law_is_answer P__law_is_answer (defScope s__law_is_answer) := ⟨rfl, rfl, rfl, by decide +kernel, rfl, by decide +kernel, by decide +kernel⟩
abbrev s__law_answers : Stmt := top 29
abbrev N__law_answers : List Str := ["book", "ask", "found", "name", "names", "values", "word", "width", "rows", "row", "longer", "value"]
abbrev P__law_answers : List Str := ["book", "ask"]
theorem sc__law_answers : FnScope N__law_answers P__law_answers (defScope s__law_answers) := ⟨rfl, rfl, rfl, by decide +kernel, rfl, by decide +kernel, by decide +kernel⟩
abbrev s__law_tables : Stmt := top 32
abbrev N__law_tables : List Str := ["book", "view", "table", "row", "totals", "names", "products", "sums", "head", "given", "times", "plus", "word", "some", "amount"]
abbrev P__law_tables : List Str := ["book", "view", "table"]
theorem sc__law_tables : FnScope N__law_tables P__law_tables (defScope s__law_tables) := ⟨rfl, rfl, rfl, by decide +kernel, rfl, by decide +kernel, by decide +kernel⟩
abbrev s__law_same : Stmt := top 19
abbrev N__law_same : List Str := ["got", "due", "one", "other"]
abbrev P__law_same : List Str := ["got", "due"]
theorem sc__law_same : FnScope N__law_same P__law_same (defScope s__law_same) := ⟨rfl, rfl, rfl, by decide +kernel, rfl, by decide +kernel, by decide +kernel⟩
abbrev s_names_in : Stmt := top 1
abbrev N_names_in : List Str := ["terms", "found", "term"]
abbrev P_names_in : List Str := ["terms"]
theorem sc_names_in : FnScope N_names_in P_names_in (defScope s_names_in) := ⟨rfl, rfl, rfl, by decide +kernel, rfl, by decide +kernel, by decide +kernel⟩
abbrev s_names_of : Stmt := top 2
abbrev N_names_of : List Str := ["ask", "word", "terms", "term"]
abbrev P_names_of : List Str := ["ask"]
theorem sc_names_of : FnScope N_names_of P_names_of (defScope s_names_of) := ⟨rfl, rfl, rfl, by decide +kernel, rfl, by decide +kernel, by decide +kernel⟩
abbrev s_rows_of : Stmt := top 3
abbrev N_rows_of : List Str := ["book", "word", "name", "width", "rows"]
abbrev P_rows_of : List Str := ["book", "word"]
theorem sc_rows_of : FnScope N_rows_of P_rows_of (defScope s_rows_of) := ⟨rfl, rfl, rfl, by decide +kernel, rfl, by decide +kernel, by decide +kernel⟩
abbrev s_matched : Stmt := top 4
abbrev N_matched : List Str := ["terms", "row", "given", "found", "name", "value", "term"]
abbrev P_matched : List Str := ["terms", "row", "given"]
theorem sc_matched : FnScope N_matched P_matched (defScope s_matched) := ⟨rfl, rfl, rfl, by decide +kernel, rfl, by decide +kernel, by decide +kernel⟩
abbrev s_value_of : Stmt := top 5
abbrev N_value_of : List Str := ["term", "given"]
abbrev P_value_of : List Str := ["term", "given"]
theorem sc_value_of : FnScope N_value_of P_value_of (defScope s_value_of) := ⟨rfl, rfl, rfl, by decide +kernel, rfl, by decide +kernel, by decide +kernel⟩
abbrev s_check_holds : Stmt := top 6
abbrev N_check_holds : List Str := ["check", "given", "sort", "one", "other", "left", "right"]
abbrev P_check_holds : List Str := ["check", "given"]
theorem sc_check_holds : FnScope N_check_holds P_check_holds (defScope s_check_holds) := ⟨rfl, rfl, rfl, by decide +kernel, rfl, by decide +kernel, by decide +kernel⟩
abbrev s_answers : Stmt := top 7
abbrev N_answers : List Str := ["book", "ask", "found", "names", "word", "terms", "rows", "given", "row", "check", "name"]
abbrev P_answers : List Str := ["book", "ask"]
theorem sc_answers : FnScope N_answers P_answers (defScope s_answers) := ⟨rfl, rfl, rfl, by decide +kernel, rfl, by decide +kernel, by decide +kernel⟩
abbrev s_ask_of : Stmt := top 9
abbrev N_ask_of : List Str := ["view"]
abbrev P_ask_of : List Str := ["view"]
theorem sc_ask_of : FnScope N_ask_of P_ask_of (defScope s_ask_of) := ⟨rfl, rfl, rfl, by decide +kernel, rfl, by decide +kernel, by decide +kernel⟩
abbrev s_put : Stmt := top 10
abbrev N_put : List Str := ["terms", "given", "term"]
abbrev P_put : List Str := ["terms", "given"]
theorem sc_put : FnScope N_put P_put (defScope s_put) := ⟨rfl, rfl, rfl, by decide +kernel, rfl, by decide +kernel, by decide +kernel⟩
abbrev s_amounts_of : Stmt := top 12
abbrev N_amounts_of : List Str := ["view", "answer", "table", "given", "rows", "name", "value", "word", "terms", "row", "term"]
abbrev P_amounts_of : List Str := ["view", "answer", "table"]
theorem sc_amounts_of : FnScope N_amounts_of P_amounts_of (defScope s_amounts_of) := ⟨rfl, rfl, rfl, by decide +kernel, rfl, by decide +kernel, by decide +kernel⟩
abbrev s_heads_of : Stmt := top 13
abbrev N_heads_of : List Str := ["book", "view", "amounts", "table", "answer", "word", "row", "number", "names", "found", "head", "name", "value"]
abbrev P_heads_of : List Str := ["book", "view", "amounts"]
theorem sc_heads_of : FnScope N_heads_of P_heads_of (defScope s_heads_of) := ⟨rfl, rfl, rfl, by decide +kernel, rfl, by decide +kernel, by decide +kernel⟩
abbrev s_product_of : Stmt := top 14
abbrev N_product_of : List Str := ["numbers", "total", "number"]
abbrev P_product_of : List Str := ["numbers"]
theorem sc_product_of : FnScope N_product_of P_product_of (defScope s_product_of) := ⟨rfl, rfl, rfl, by decide +kernel, rfl, by decide +kernel, by decide +kernel⟩
abbrev s_summed : Stmt := top 15
abbrev N_summed : List Str := ["book", "view", "amounts", "found", "row", "numbers"]
abbrev P_summed : List Str := ["book", "view", "amounts"]
theorem sc_summed : FnScope N_summed P_summed (defScope s_summed) := ⟨rfl, rfl, rfl, by decide +kernel, rfl, by decide +kernel, by decide +kernel⟩
abbrev s_greatest : Stmt := top 16
abbrev N_greatest : List Str := ["book", "view", "amounts", "found", "row", "numbers"]
abbrev P_greatest : List Str := ["book", "view", "amounts"]
theorem sc_greatest : FnScope N_greatest P_greatest (defScope s_greatest) := ⟨rfl, rfl, rfl, by decide +kernel, rfl, by decide +kernel, by decide +kernel⟩
abbrev s_best : Stmt := top 17
abbrev N_best : List Str := ["book", "view", "amounts", "found"]
abbrev P_best : List Str := ["book", "view", "amounts"]
theorem sc_best : FnScope N_best P_best (defScope s_best) := ⟨rfl, rfl, rfl, by decide +kernel, rfl, by decide +kernel, by decide +kernel⟩
abbrev s_law : Stmt := top 33
abbrev N_law : List Str := ["script", "town", "k", "book", "view", "amounts", "table", "first", "word", "row", "number", "products", "sums", "total", "width", "rows"]
abbrev P_law : List Str := ["script"]
theorem sc_law : FnScope N_law P_law (defScope s_law) := ⟨rfl, rfl, rfl, by decide +kernel, rfl, by decide +kernel, by decide +kernel⟩
def m__law_draw (w : World) (fu : Nat) : SM :=
    (sSeq (sIf (mNotT (mTru (mVar 1))) (sDrop (mAppend (mVar 1) (mCall maxD (mCons (mBin addD (mLc (mIter (mVar 0)) [4] (tgN 4) mYes (mCall absD (mCons (mVar 4) mNil))) (mLst (mCons (mC (.int 0)) mNil))) mNil)))) sNil)
    (sSeq (sDrop (mAppend (mVar 1) (mC (.int 0))))
    (sSeq (sSet 3 (mCall lenD (mCons (mVar 1) mNil)))
    (sSeq (sSet 4 (mIf (mTru (mVar 0)) (mBin ixD (mVar 0) (mBin modD (mVar 3) (mCall lenD (mCons (mVar 0) mNil)))) (mC (.int 0))))
    (sSeq (sSet 5 (mBin modD (mBin ixD (mVar 1) (mC (.int 0))) (mC (.int 65536))))
    (sSeq (sSetIx (mVar 1) (mC (.int 0)) (mBin fdivD (mBin ixD (mVar 1) (mC (.int 0))) (mC (.int 65536))))
    (sSeq (sSet 6 (mBin modD (mBin addD (mBin addD (mVar 4) (mBin mulD (mC (.int 40503)) (mVar 5))) (mBin mulD (mC (.int 104729)) (mVar 3))) (mC (.int 4294967291))))
    (sSeq (sSet 6 (mBin modD (mBin mulD (mBin modD (mBin mulD (mVar 6) (mVar 6)) (mC (.int 4294967279))) (mC (.int 48271))) (mC (.int 4294967291))))
    (sSeq (sSet 7 (mBin modD (mBin mulD (mBin modD (mBin mulD (mVar 6) (mVar 6)) (mC (.int 4294967279))) (mC (.int 69621))) (mC (.int 4294967291))))
    (sRet (mBin modD (mBin addD (mBin mulD (mBin fdivD (mVar 6) (mC (.int 64))) (mC (.int 67108864))) (mBin fdivD (mVar 7) (mC (.int 64)))) (mVar 2))))))))))))
def F__law_draw (w : World) (fu : Nat) : List D → Store → R D := runT 8 (m__law_draw w fu)
def m__law_pick (w : World) (fu : Nat) : SM :=
    (sRet (mBin ixD (mVar 2) (mApp 3 (F__law_draw w fu) (mCons (mVar 0) (mCons (mVar 1) (mCons (mCall lenD (mCons (mVar 2) mNil)) mNil))))))
def F__law_pick (w : World) (fu : Nat) : List D → Store → R D := runT 3 (m__law_pick w fu)
def m__law_drawn_rows (w : World) (fu : Nat) : SM :=
    (sSeq (sSet 5 (mLst mNil))
    (sSeq (sFor (mRng1 (mCons (mApp 3 (F__law_draw w fu) (mCons (mVar 0) (mCons (mVar 1) (mCons (mBin addD (mVar 3) (mC (.int 1))) mNil)))) mNil)) (tgN 6) (sSeq (sSet 7 (mCall tupD (mCons (mLc (mRng1 (mCons (mVar 2) mNil)) [8] (tgN 8) mYes (mApp 3 (F__law_draw w fu) (mCons (mVar 0) (mCons (mVar 1) (mCons (mVar 4) mNil))))) mNil)))
    (sSet 5 (mBin addD (mVar 5) (mBin mulD (mLst (mCons (mVar 7) mNil)) (mCall intD (mCons (mBin ninD (mVar 7) (mVar 5)) mNil)))))))
    (sRet (mCall tupD (mCons (mCall sortD (mCons (mVar 5) mNil)) mNil)))))
def F__law_drawn_rows (w : World) (fu : Nat) : List D → Store → R D := runT 9 (m__law_drawn_rows w fu)
def m__law_drawn_book (w : World) (fu : Nat) : SM :=
    (sSeq (sSet 4 (mNewL mNil))
    (sSeq (sFor (mIter (mTup (mCons (mC (.str "p")) (mCons (mC (.str "q")) (mCons (mC (.str "r")) (mCons (mC (.str "s")) mNil)))))) (tgN 5) (sSeq (sSet 6 (mApp 3 (F__law_pick w fu) (mCons (mVar 0) (mCons (mVar 1) (mCons (mLst (mCons (mC (.int 1)) (mCons (mC (.int 2)) (mCons (mC (.int 2)) (mCons (mC (.int 2)) (mCons (mC (.int 3)) mNil)))))) mNil)))))
    (sDrop (mAppend (mVar 4) (mTup (mCons (mVar 5) (mCons (mVar 6) (mCons (mApp 5 (F__law_drawn_rows w fu) (mCons (mVar 0) (mCons (mVar 1) (mCons (mVar 6) (mCons (mVar 2) (mCons (mVar 3) mNil)))))) mNil))))))))
    (sRet (mCall tupD (mCons (mSl (mVar 4) (mP (mApp 3 (F__law_draw w fu) (mCons (mVar 0) (mCons (mVar 1) (mCons (mC (.int 2)) mNil))))) mNoP) mNil)))))
def F__law_drawn_book (w : World) (fu : Nat) : List D → Store → R D := runT 7 (m__law_drawn_book w fu)
def m__law_drawn_view (w : World) (fu : Nat) : SM :=
    (sSeq (sAsg (mTup (mCons (mSl (mLst (mCons (mC (.str "a")) (mCons (mC (.str "b")) (mCons (mC (.str "c")) (mCons (mC (.str "d")) mNil))))) mNoP (mP (mBin addD (mC (.int 1)) (mApp 3 (F__law_draw w fu) (mCons (mVar 0) (mCons (mVar 1) (mCons (mC (.int 4)) mNil))))))) (mCons (mNewL mNil) mNil))) (tgT 2 (tgsCons (tgN 7) (tgsCons (tgN 8) tgsNil))))
    (sSeq (sFor (mRng1 (mCons (mBin addD (mC (.int 1)) (mApp 3 (F__law_draw w fu) (mCons (mVar 0) (mCons (mVar 1) (mCons (mVar 2) mNil))))) mNil)) (tgN 4) (sSeq (sAsg (mApp 3 (F__law_pick w fu) (mCons (mVar 0) (mCons (mVar 1) (mCons (mVar 3) mNil)))) (tgT 2 (tgsCons (tgN 10) (tgsCons (tgN 11) tgsNil))))
    (sSeq (sSet 9 (mLc (mRng1 (mCons (mVar 11) mNil)) [12] (tgN 12) mYes (mApp 3 (F__law_pick w fu) (mCons (mVar 0) (mCons (mVar 1) (mCons (mBin addD (mBin mulD (mVar 7) (mC (.int 4))) (mLst (mCons (mApp 3 (F__law_draw w fu) (mCons (mVar 0) (mCons (mVar 1) (mCons (mC (.int 2)) mNil)))) mNil))) mNil))))))
    (sDrop (mAppend (mVar 8) (mTup (mCons (mVar 10) (mCons (mCall tupD (mCons (mVar 9) mNil)) mNil))))))))
    (sSeq (sSet 5 (mLst mNil))
    (sSeq (sForG (mIterG (mVar 8)) (tgT 2 (tgsCons (tgN 10) (tgsCons (tgN 9) tgsNil))) (sSet 5 (mBin addD (mVar 5) (mLc (mIter (mVar 9)) [13] (tgN 13) (mAndT (mTru (mCall isiD (mCons (mVar 13) (mCons (mC (.ty "str")) mNil)))) (mT (mBin ninTD (mVar 13) (mVar 5)))) (mVar 13)))))
    (sSeq (sSet 6 (mCall tupD (mCons (mLc (mRng1 (mCons (mApp 3 (F__law_pick w fu) (mCons (mVar 0) (mCons (mVar 1) (mCons (mLst (mCons (mC (.int 0)) (mCons (mC (.int 1)) (mCons (mC (.int 1)) (mCons (mC (.int 2)) mNil))))) mNil)))) mNil)) [4] (tgN 4) mYes (mApp 3 (F__law_pick w fu) (mCons (mVar 0) (mCons (mVar 1) (mCons (mBin addD (mBin mulD (mVar 5) (mC (.int 3))) (mLst (mCons (mC (.int 1)) mNil))) mNil))))) mNil)))
    (sRet (mTup (mCons (mVar 6) (mCons (mCall tupD (mCons (mVar 8) mNil)) mNil)))))))))
def F__law_drawn_view (w : World) (fu : Nat) : List D → Store → R D := runT 14 (m__law_drawn_view w fu)
def m__law_drawn_amounts (w : World) (fu : Nat) : SM :=
    (sSeq (sSet 3 (mNewL mNil))
    (sSeq (sFor (mIter (mVar 2)) (tgT 3 (tgsCons (tgN 4) (tgsCons (tgN 5) (tgsCons (tgN 6) tgsNil)))) (sFor (mIter (mVar 6)) (tgN 7) (sIf (mT (mBin gtD (mApp 3 (F__law_draw w fu) (mCons (mVar 0) (mCons (mVar 1) (mCons (mC (.int 3)) mNil)))) (mC (.int 0)))) (sDrop (mAppend (mVar 3) (mTup (mCons (mVar 4) (mCons (mVar 7) (mCons (mBin subD (mApp 3 (F__law_draw w fu) (mCons (mVar 0) (mCons (mVar 1) (mCons (mC (.int 9)) mNil)))) (mC (.int 3))) mNil)))))) sNil)))
    (sRet (mCall tupD (mCons (mVar 3) mNil)))))
def F__law_drawn_amounts (w : World) (fu : Nat) : List D → Store → R D := runT 8 (m__law_drawn_amounts w fu)
def m__law_names (w : World) (fu : Nat) : SM :=
    (sSeq (sSet 1 (mLst mNil))
    (sSeq (sFor (mIter (mBin ixD (mVar 0) (mC (.int 0)))) (tgT 2 (tgsCons (tgN 2) (tgsCons (tgN 3) tgsNil))) (sFor (mIter (mVar 3)) (tgN 4) (sSet 1 (mBin addD (mVar 1) (mBin mulD (mLst (mCons (mVar 4) mNil)) (mCall intD (mCons (mAnd (mCall isiD (mCons (mVar 4) (mCons (mC (.ty "str")) mNil))) (mBin ninTD (mVar 4) (mVar 1))) mNil)))))))
    (sRet (mVar 1))))
def F__law_names (w : World) (fu : Nat) : List D → Store → R D := runT 5 (m__law_names w fu)
def m__law_put (w : World) (fu : Nat) : SM :=
    (sRet (mCall tupD (mCons (mLc (mIter (mVar 0)) [2] (tgN 2) mYes (mIf (mTru (mCall isiD (mCons (mVar 2) (mCons (mC (.ty "str")) mNil)))) (mBin dgetD (mVar 1) (mVar 2)) (mVar 2))) mNil)))
def F__law_put (w : World) (fu : Nat) : List D → Store → R D := runT 3 (m__law_put w fu)
def m__law_checks_hold (w : World) (fu : Nat) : SM :=
    (sSeq (sFor (mIter (mVar 0)) (tgT 3 (tgsCons (tgN 2) (tgsCons (tgN 3) (tgsCons (tgN 4) tgsNil)))) (sSeq (sAsg (mApp 2 (F__law_put w fu) (mCons (mTup (mCons (mVar 3) (mCons (mVar 4) mNil))) (mCons (mVar 1) mNil))) (tgT 2 (tgsCons (tgN 5) (tgsCons (tgN 6) tgsNil))))
    (sIf (mNotT (mIfT (mT (mBin eqD (mVar 2) (mC (.str "less")))) (mT (mBin ltD (mVar 5) (mVar 6))) (mT (mBin neD (mVar 5) (mVar 6))))) (sRet (mC (.bl false))) sNil)))
    (sRet (mC (.bl true))))
def F__law_checks_hold (w : World) (fu : Nat) : List D → Store → R D := runT 7 (m__law_checks_hold w fu)
def m__law_is_answer (w : World) (fu : Nat) : SM :=
    (sSeq (sSet 3 mNewD0)
    (sSeq (sFor (mIter (mVar 0)) (tgT 3 (tgsCons (tgN 4) (tgsCons (tgN 5) (tgsCons (tgN 6) tgsNil)))) (sDPutD (mVar 3) (mVar 4) (mVar 6)))
    (sSeq (sFor (mIter (mBin ixD (mVar 1) (mC (.int 0)))) (tgT 2 (tgsCons (tgN 4) (tgsCons (tgN 7) tgsNil))) (sIf (mT (mBin ninTD (mApp 2 (F__law_put w fu) (mCons (mVar 7) (mCons (mVar 2) mNil))) (mCall lstD (mCons (mBin dgetD (mVar 3) (mVar 4)) mNil)))) (sRet (mC (.bl false))) sNil))
    (sRet (mApp 2 (F__law_checks_hold w fu) (mCons (mBin ixD (mVar 1) (mC (.int 1))) (mCons (mVar 2) mNil)))))))
def F__law_is_answer (w : World) (fu : Nat) : List D → Store → R D := runT 8 (m__law_is_answer w fu)
def m__law_answers (w : World) (fu : Nat) : SM :=
    (sSeq (sAsg (mTup (mCons (mApp 1 (F__law_names w fu) (mCons (mVar 1) mNil)) (mCons (mLst mNil) mNil))) (tgT 2 (tgsCons (tgN 4) (tgsCons (tgN 5) tgsNil))))
    (sSeq (sFor (mIter (mVar 0)) (tgT 3 (tgsCons (tgN 6) (tgsCons (tgN 7) (tgsCons (tgN 8) tgsNil)))) (sFor (mIter (mVar 8)) (tgN 9) (sSet 5 (mCall sortSetD (mCons (mBin addD (mVar 5) (mCall lstD (mCons (mVar 9) mNil))) mNil)))))
    (sSeq (sSet 2 (mLst (mCons (mTup mNil) mNil)))
    (sSeq (sFor (mIter (mVar 4)) (tgN 3) (sSeq (sSet 10 (mLst mNil))
    (sSeq (sFor (mIter (mVar 2)) (tgN 9) (sSet 10 (mBin addD (mVar 10) (mLc (mIter (mVar 5)) [11] (tgN 11) mYes (mBin addD (mVar 9) (mTup (mCons (mVar 11) mNil)))))))
    (sSet 2 (mVar 10)))))
    (sRet (mLc (mIter (mVar 2)) [9] (tgN 9) (mTru (mApp 3 (F__law_is_answer w fu) (mCons (mVar 0) (mCons (mVar 1) (mCons (mCall dictZipD (mCons (mVar 4) (mCons (mVar 9) mNil))) mNil))))) (mVar 9)))))))
def F__law_answers (w : World) (fu : Nat) : List D → Store → R D := runT 12 (m__law_answers w fu)
def m__law_tables (w : World) (fu : Nat) : SM :=
    (sSeq (sAsg (mTup (mCons (mApp 1 (F__law_names w fu) (mCons (mTup (mCons (mBin ixD (mVar 1) (mC (.int 1))) (mCons (mTup mNil) mNil))) mNil)) (mCons mNewDT0 (mCons mNewDT0 mNil)))) (tgT 3 (tgsCons (tgN 5) (tgsCons (tgN 6) (tgsCons (tgN 7) tgsNil)))))
    (sSeq (sFor (mIter (mApp 2 (F__law_answers w fu) (mCons (mVar 0) (mCons (mTup (mCons (mBin ixD (mVar 1) (mC (.int 1))) (mCons (mTup mNil) mNil))) mNil)))) (tgN 3) (sSeq (sPar3 9 10 11 (mCons (mCall dictZipD (mCons (mVar 5) (mCons (mVar 3) mNil))) (mCons (mC (.int 1)) (mCons (mC (.int 0)) mNil))))
    (sSeq (sFor (mIter (mBin ixD (mVar 1) (mC (.int 1)))) (tgT 2 (tgsCons (tgN 12) (tgsCons (tgN 13) tgsNil))) (sSeq (sSet 14 (mGetPr w (mVar 2) (mTup (mCons (mVar 12) (mCons (mApp 2 (F__law_put w fu) (mCons (mVar 13) (mCons (mVar 9) mNil))) mNil))) (mC (.int 1))))
    (sPar 10 11 (mCons (mBin mulD (mVar 10) (mVar 14)) (mCons (mBin addD (mVar 11) (mVar 14)) mNil)))))
    (sSeq (sSet 8 (mApp 2 (F__law_put w fu) (mCons (mBin ixD (mVar 1) (mC (.int 0))) (mCons (mVar 9) mNil))))
    (sSeq (sDPutT (mVar 6) (mVar 8) (mBin addD (mDGet2T (mVar 6) (mVar 8) (mC (.int 0))) (mVar 10)))
    (sDPutT (mVar 7) (mVar 8) (mCall max2D (mCons (mDGet2T (mVar 7) (mVar 8) (mVar 11)) (mCons (mVar 11) mNil)))))))))
    (sSeq (sSet 4 (mCall tupD (mCons (mLc (mIter (mCall sortDtD (mCons (mVar 6) mNil))) [3] (tgN 3) mYes (mTup (mCons (mVar 3) (mCons (mBin dgetTD (mVar 6) (mVar 3)) mNil)))) mNil)))
    (sRet (mTup (mCons (mVar 4) (mCons (mCall tupD (mCons (mLc (mIter (mCall sortDtD (mCons (mVar 7) mNil))) [3] (tgN 3) mYes (mTup (mCons (mVar 3) (mCons (mBin dgetTD (mVar 7) (mVar 3)) mNil)))) mNil)) mNil)))))))
def F__law_tables (w : World) (fu : Nat) : List D → Store → R D := runT 15 (m__law_tables w fu)
def m__law_same (w : World) (fu : Nat) (self : List D → Store → R D) : SM :=
    (sSeq (sIf (mT (mBin isND (mVar 1) (mC .non))) (sRet (mBin isND (mVar 0) (mC .non))) sNil)
    (sSeq (sIf (mTru (mCall isiD (mCons (mVar 1) (mCons (mC (.ty "bool")) mNil)))) (sRet (mAnd (mCall isiD (mCons (mVar 0) (mCons (mC (.ty "bool")) mNil))) (mBin eqD (mVar 0) (mVar 1)))) sNil)
    (sSeq (sIf (mTru (mCall isiD (mCons (mVar 1) (mCons (mC (.ty "tuple")) mNil)))) (sSeq (sIf (mOrT (mNotT (mTru (mCall isiD (mCons (mVar 0) (mCons (mC (.ty "tuple")) mNil))))) (mT (mBin neD (mCall lenD (mCons (mVar 0) mNil)) (mCall lenD (mCons (mVar 1) mNil))))) (sRet (mC (.bl false))) sNil)
    (sRet (mCall allD (mCons (mLc (mZip (mCons (mVar 0) (mCons (mVar 1) mNil))) [2, 3] (tgT 2 (tgsCons (tgN 2) (tgsCons (tgN 3) tgsNil))) mYes (mApp 2 self (mCons (mVar 2) (mCons (mVar 3) mNil)))) mNil)))) sNil)
    (sSeq (sIf (mTru (mCall isiD (mCons (mVar 1) (mCons (mC (.ty "str")) mNil)))) (sRet (mAnd (mCall isiD (mCons (mVar 0) (mCons (mC (.ty "str")) mNil))) (mBin eqD (mVar 0) (mVar 1)))) sNil)
    (sRet (mAnd (mCall isiD (mCons (mVar 0) (mCons (mC (.ty "int")) mNil))) (mAnd (mNot (mCall isiD (mCons (mVar 0) (mCons (mC (.ty "bool")) mNil)))) (mBin eqD (mVar 0) (mVar 1)))))))))
def F__law_same (w : World) (fu : Nat) : Nat → List D → Store → R D
  | 0 => fun _ _ => .bad
  | n + 1 => runT 4 (m__law_same w fu (F__law_same w fu n))
def m_names_in (w : World) (fu : Nat) : SM :=
    (sSeq (sSet 1 (mNewL mNil))
    (sSeq (sFor (mIter (mVar 0)) (tgN 2) (sIf (mAndT (mTru (mCall isiD (mCons (mVar 2) (mCons (mC (.ty "str")) mNil)))) (mT (mBin ninTD (mVar 2) (mVar 1)))) (sDrop (mAppend (mVar 1) (mVar 2))) sNil))
    (sRet (mCall tupD (mCons (mVar 1) mNil)))))
def F_names_in (w : World) (fu : Nat) : List D → Store → R D := runT 3 (m_names_in w fu)
def m_names_of (w : World) (fu : Nat) : SM :=
    (sRet (mApp 1 (F_names_in w fu) (mCons (mLc2 (mIter (mBin ixD (mVar 0) (mC (.int 0)))) [1, 2, 3] (tgT 2 (tgsCons (tgN 1) (tgsCons (tgN 2) tgsNil))) mYes (mIter (mVar 2)) [3] (tgN 3) mYes (mVar 3)) mNil)))
def F_names_of (w : World) (fu : Nat) : List D → Store → R D := runT 4 (m_names_of w fu)
def m_rows_of (w : World) (fu : Nat) : SM :=
    (sRet (mBin ixD (mLc (mIter (mVar 0)) [2, 3, 4] (tgT 3 (tgsCons (tgN 2) (tgsCons (tgN 3) (tgsCons (tgN 4) tgsNil)))) (mT (mBin eqD (mVar 2) (mVar 1))) (mVar 4)) (mC (.int 0))))
def F_rows_of (w : World) (fu : Nat) : List D → Store → R D := runT 5 (m_rows_of w fu)
def m_matched (w : World) (fu : Nat) : SM :=
    (sSeq (sSet 3 (mDc true (mItems 2) [4, 5] (tgT 2 (tgsCons (tgN 4) (tgsCons (tgN 5) tgsNil))) mYes (mVar 4) (mVar 5)))
    (sSeq (sFor (mZip (mCons (mVar 0) (mCons (mVar 1) mNil))) (tgT 2 (tgsCons (tgN 6) (tgsCons (tgN 5) tgsNil))) (sIf (mIfT (mTru (mCall isiD (mCons (mVar 6) (mCons (mC (.ty "str")) mNil)))) (mT (mBin neD (mSetDef (mVar 3) (mVar 6) (mVar 5)) (mVar 5))) (mT (mBin neD (mVar 6) (mVar 5)))) (sRet (mC .non)) sNil))
    (sRet (mVar 3))))
def F_matched (w : World) (fu : Nat) : List D → Store → R D := runT 7 (m_matched w fu)
def m_value_of (w : World) (fu : Nat) : SM :=
    (sRet (mIf (mTru (mCall isiD (mCons (mVar 0) (mCons (mC (.ty "str")) mNil)))) (mBin dgetD (mVar 1) (mVar 0)) (mVar 0)))
def F_value_of (w : World) (fu : Nat) : List D → Store → R D := runT 2 (m_value_of w fu)
def m_check_holds (w : World) (fu : Nat) : SM :=
    (sSeq (sAsg (mVar 0) (tgT 3 (tgsCons (tgN 2) (tgsCons (tgN 3) (tgsCons (tgN 4) tgsNil)))))
    (sSeq (sPar 5 6 (mCons (mApp 2 (F_value_of w fu) (mCons (mVar 3) (mCons (mVar 1) mNil))) (mCons (mApp 2 (F_value_of w fu) (mCons (mVar 4) (mCons (mVar 1) mNil))) mNil)))
    (sRet (mIf (mT (mBin eqD (mVar 2) (mC (.str "less")))) (mBin ltD (mVar 5) (mVar 6)) (mBin neD (mVar 5) (mVar 6))))))
def F_check_holds (w : World) (fu : Nat) : List D → Store → R D := runT 7 (m_check_holds w fu)
def m_answers (w : World) (fu : Nat) : SM :=
    (sSeq (sSet 2 (mLst (mCons mDct0 mNil)))
    (sSeq (sFor (mIter (mBin ixD (mVar 1) (mC (.int 0)))) (tgT 2 (tgsCons (tgN 4) (tgsCons (tgN 5) tgsNil))) (sSeq (sSet 6 (mApp 2 (F_rows_of w fu) (mCons (mVar 0) (mCons (mVar 4) mNil))))
    (sSeq (sSet 2 (mLc2 (mIter (mVar 2)) [7, 8] (tgN 7) mYes (mIter (mVar 6)) [8] (tgN 8) mYes (mApp 3 (F_matched w fu) (mCons (mVar 5) (mCons (mVar 8) (mCons (mVar 7) mNil))))))
    (sSet 2 (mLc (mIter (mVar 2)) [7] (tgN 7) (mT (mBin notND (mVar 7) (mC .non))) (mVar 7))))))
    (sSeq (sSet 3 (mApp 1 (F_names_of w fu) (mCons (mVar 1) mNil)))
    (sSeq (sSet 2 (mLc (mIter (mVar 2)) [7] (tgN 7) (mTru (mCall allD (mCons (mLc (mIter (mBin ixD (mVar 1) (mC (.int 1)))) [9] (tgN 9) mYes (mApp 2 (F_check_holds w fu) (mCons (mVar 9) (mCons (mVar 7) mNil)))) mNil))) (mVar 7)))
    (sRet (mCall tupD (mCons (mSortSc (mIter (mVar 2)) [7] (tgN 7) mYes (mCall tupD (mCons (mLc (mIter (mVar 3)) [10] (tgN 10) mYes (mBin dgetD (mVar 7) (mVar 10))) mNil))) mNil)))))))
def F_answers (w : World) (fu : Nat) : List D → Store → R D := runT 11 (m_answers w fu)
def m_ask_of (w : World) (fu : Nat) : SM :=
    (sRet (mTup (mCons (mBin ixD (mVar 0) (mC (.int 1))) (mCons (mTup mNil) mNil))))
def F_ask_of (w : World) (fu : Nat) : List D → Store → R D := runT 1 (m_ask_of w fu)
def m_put (w : World) (fu : Nat) : SM :=
    (sRet (mCall tupD (mCons (mLc (mIter (mVar 0)) [2] (tgN 2) mYes (mIf (mTru (mCall isiD (mCons (mVar 2) (mCons (mC (.ty "str")) mNil)))) (mBin dgetD (mVar 1) (mVar 2)) (mVar 2))) mNil)))
def F_put (w : World) (fu : Nat) : List D → Store → R D := runT 3 (m_put w fu)
def m_amounts_of (w : World) (fu : Nat) : SM :=
    (sSeq (sSet 3 (mDc false (mZip (mCons (mApp 1 (F_names_of w fu) (mCons (mApp 1 (F_ask_of w fu) (mCons (mVar 0) mNil)) mNil)) (mCons (mVar 1) mNil))) [5, 6] (tgT 2 (tgsCons (tgN 5) (tgsCons (tgN 6) tgsNil))) mYes (mVar 5) (mVar 6)))
    (sSeq (sSet 4 (mLc (mIter (mBin ixD (mVar 0) (mC (.int 1)))) [7, 8] (tgT 2 (tgsCons (tgN 7) (tgsCons (tgN 8) tgsNil))) mYes (mTup (mCons (mVar 7) (mCons (mCall tupD (mCons (mLc (mIter (mVar 8)) [10] (tgN 10) mYes (mApp 2 (F_value_of w fu) (mCons (mVar 10) (mCons (mVar 3) mNil)))) mNil)) mNil)))))
    (sRet (mLc (mIter (mVar 4)) [9] (tgN 9) mYes (mGetPr w (mVar 2) (mVar 9) (mC (.int 1)))))))
def F_amounts_of (w : World) (fu : Nat) : List D → Store → R D := runT 11 (m_amounts_of w fu)
def m_heads_of (w : World) (fu : Nat) : SM :=
    (sSeq (sSet 3 (mDcP w false (mIter (mVar 2)) [5, 6, 7] (tgT 3 (tgsCons (tgN 5) (tgsCons (tgN 6) (tgsCons (tgN 7) tgsNil)))) mYes (mTup (mCons (mVar 5) (mCons (mVar 6) mNil))) (mVar 7)))
    (sSeq (sPar 8 9 (mCons (mApp 1 (F_names_of w fu) (mCons (mApp 1 (F_ask_of w fu) (mCons (mVar 1) mNil)) mNil)) (mCons mNewDT0 mNil)))
    (sSeq (sFor (mIter (mApp 2 (F_answers w fu) (mCons (mVar 0) (mCons (mApp 1 (F_ask_of w fu) (mCons (mVar 1) mNil)) mNil)))) (tgN 4) (sSeq (sSet 10 (mApp 2 (F_put w fu) (mCons (mBin ixD (mVar 1) (mC (.int 0))) (mCons (mDc false (mZip (mCons (mVar 8) (mCons (mVar 4) mNil))) [11, 12] (tgT 2 (tgsCons (tgN 11) (tgsCons (tgN 12) tgsNil))) mYes (mVar 11) (mVar 12)) mNil))))
    (sDrop (mAppend (mSetDefT (mVar 9) (mVar 10) (mNewL mNil)) (mApp 3 (F_amounts_of w fu) (mCons (mVar 1) (mCons (mVar 4) (mCons (mVar 3) mNil))))))))
    (sRet (mVar 9)))))
def F_heads_of (w : World) (fu : Nat) : List D → Store → R D := runT 13 (m_heads_of w fu)
def m_product_of (w : World) (fu : Nat) : SM :=
    (sSeq (sSet 1 (mC (.int 1)))
    (sSeq (sFor (mIter (mVar 0)) (tgN 2) (sSet 1 (mBin mulD (mVar 1) (mVar 2))))
    (sRet (mVar 1))))
def F_product_of (w : World) (fu : Nat) : List D → Store → R D := runT 3 (m_product_of w fu)
def m_summed (w : World) (fu : Nat) : SM :=
    (sSeq (sSet 3 (mApp 3 (F_heads_of w fu) (mCons (mVar 0) (mCons (mVar 1) (mCons (mVar 2) mNil)))))
    (sRet (mCall tupD (mCons (mLc (mIter (mCall sortDtD (mCons (mVar 3) mNil))) [4] (tgN 4) mYes (mTup (mCons (mVar 4) (mCons (mCall sumD (mCons (mLc (mIter (mBin dgetTD (mVar 3) (mVar 4))) [5] (tgN 5) mYes (mApp 1 (F_product_of w fu) (mCons (mVar 5) mNil))) mNil)) mNil)))) mNil))))
def F_summed (w : World) (fu : Nat) : List D → Store → R D := runT 6 (m_summed w fu)
def m_greatest (w : World) (fu : Nat) : SM :=
    (sSeq (sSet 3 (mApp 3 (F_heads_of w fu) (mCons (mVar 0) (mCons (mVar 1) (mCons (mVar 2) mNil)))))
    (sRet (mCall tupD (mCons (mLc (mIter (mCall sortDtD (mCons (mVar 3) mNil))) [4] (tgN 4) mYes (mTup (mCons (mVar 4) (mCons (mCall maxD (mCons (mLc (mIter (mBin dgetTD (mVar 3) (mVar 4))) [5] (tgN 5) mYes (mCall sumD (mCons (mVar 5) mNil))) mNil)) mNil)))) mNil))))
def F_greatest (w : World) (fu : Nat) : List D → Store → R D := runT 6 (m_greatest w fu)
def m_best (w : World) (fu : Nat) : SM :=
    (sSeq (sSet 3 (mApp 3 (F_greatest w fu) (mCons (mVar 0) (mCons (mVar 1) (mCons (mVar 2) mNil)))))
    (sRet (mIf (mTru (mVar 3)) (mMaxLam "best" "best.<locals>.<lambda>" 0 (mCons (mVar 3) mNil)) (mC .non))))
def F_best (w : World) (fu : Nat) : List D → Store → R D := runT 4 (m_best w fu)
def m_law (w : World) (fu : Nat) : SM :=
    (sSeq (sSet 1 (mNewL mNil))
    (sSeq (sFor (mRng1 (mCons (mC (.int 4)) mNil)) (tgN 2) (sSeq (sSet 3 (mApp 4 (F__law_drawn_book w fu) (mCons (mVar 0) (mCons (mVar 1) (mCons (mC (.int 6)) (mCons (mC (.int 3)) mNil))))))
    (sSeq (sSet 4 (mApp 4 (F__law_drawn_view w fu) (mCons (mVar 0) (mCons (mVar 1) (mCons (mC (.int 3)) (mCons (mLc (mIter (mVar 3)) [8, 14, 15] (tgT 3 (tgsCons (tgN 8) (tgsCons (tgN 14) (tgsCons (tgN 15) tgsNil)))) mYes (mTup (mCons (mVar 8) (mCons (mVar 14) mNil)))) mNil))))))
    (sSeq (sSet 5 (mApp 3 (F__law_drawn_amounts w fu) (mCons (mVar 0) (mCons (mVar 1) (mCons (mVar 3) mNil)))))
    (sSeq (sSet 6 (mNewPr0 w))
    (sSeq (sFor (mIter (mVar 5)) (tgT 3 (tgsCons (tgN 8) (tgsCons (tgN 9) (tgsCons (tgN 10) tgsNil)))) (sDPutP w (mVar 6) (mTup (mCons (mVar 8) (mCons (mVar 9) mNil))) (mVar 10)))
    (sSeq (sAsg (mApp 3 (F__law_tables w fu) (mCons (mVar 3) (mCons (mVar 4) (mCons (mVar 6) mNil)))) (tgT 2 (tgsCons (tgN 11) (tgsCons (tgN 12) tgsNil))))
    (sSeq (sIf (mNotT (mTru (mApp 2 (F__law_same w fu 6) (mCons (mApp 3 (F_summed w fu) (mCons (mVar 3) (mCons (mVar 4) (mCons (mVar 5) mNil)))) (mCons (mVar 11) mNil))))) (sRet (mC (.bl false))) sNil)
    (sSeq (sIf (mNotT (mTru (mApp 2 (F__law_same w fu 6) (mCons (mApp 3 (F_greatest w fu) (mCons (mVar 3) (mCons (mVar 4) (mCons (mVar 5) mNil)))) (mCons (mVar 12) mNil))))) (sRet (mC (.bl false))) sNil)
    (sSeq (sSet 7 (mC .non))
    (sSeq (sFor (mIter (mVar 12)) (tgT 2 (tgsCons (tgN 9) (tgsCons (tgN 13) tgsNil))) (sSet 7 (mIf (mOrT (mT (mBin isND (mVar 7) (mC .non))) (mT (mBin gtD (mVar 13) (mBin ixD (mVar 7) (mC (.int 1)))))) (mTup (mCons (mVar 9) (mCons (mVar 13) mNil))) (mVar 7))))
    (sIf (mNotT (mTru (mApp 2 (F__law_same w fu 6) (mCons (mApp 3 (F_best w fu) (mCons (mVar 3) (mCons (mVar 4) (mCons (mVar 5) mNil)))) (mCons (mVar 7) mNil))))) (sRet (mC (.bl false))) sNil))))))))))))
    (sRet (mC (.bl true)))))
def F_law (w : World) (fu : Nat) : List D → Store → R D := runT 16 (m_law w fu)
end Law
namespace Law
open PySem L2 Dv
structure Tx (K : PySem.W.Frag) (mg : Str → Option Value) (base : Heap) (a__law_draw a__law_pick a__law_drawn_rows a__law_drawn_book a__law_drawn_view a__law_drawn_amounts a__law_names a__law_put a__law_checks_hold a__law_is_answer a__law_answers a__law_tables a__law_same a_names_in a_names_of a_rows_of a_matched a_value_of a_check_holds a_answers a_ask_of a_put a_amounts_of a_heads_of a_product_of a_summed a_greatest a_best a_law tC_best tP_best : Addr) (d__law_draw d__law_pick d__law_drawn_rows d__law_drawn_book d__law_drawn_view d__law_drawn_amounts d__law_names d__law_put d__law_checks_hold d__law_is_answer d__law_answers d__law_tables d__law_same d_names_in d_names_of d_rows_of d_matched d_value_of d_check_holds d_answers d_ask_of d_put d_amounts_of d_heads_of d_product_of d_summed d_greatest d_best d_law : FuncData) : Prop where
  t_best : LamX.TabB base mg tC_best tP_best
  u_best : TblAt K mg "best" tP_best
  c_best : d_best.code = .ref tC_best
  z_abs : mg "abs" = none
  z_all : mg "all" = none
  z_bool : mg "bool" = none
  z_dict : mg "dict" = none
  z_int : mg "int" = none
  z_isinstance : mg "isinstance" = none
  z_len : mg "len" = none
  z_list : mg "list" = none
  z_max : mg "max" = none
  z_range : mg "range" = none
  z_set : mg "set" = none
  z_sorted : mg "sorted" = none
  z_str : mg "str" = none
  z_sum : mg "sum" = none
  z_tuple : mg "tuple" = none
  z_zip : mg "zip" = none
  F__law_draw : Fun K "_law_draw" "_law_draw" s__law_draw a__law_draw d__law_draw
  b__law_draw : Binds K d__law_draw P__law_draw []
  g__law_draw : mg "_law_draw" = some (.ref a__law_draw)
  F__law_pick : Fun K "_law_pick" "_law_pick" s__law_pick a__law_pick d__law_pick
  b__law_pick : Binds K d__law_pick P__law_pick []
  g__law_pick : mg "_law_pick" = some (.ref a__law_pick)
  F__law_drawn_rows : Fun K "_law_drawn_rows" "_law_drawn_rows" s__law_drawn_rows a__law_drawn_rows d__law_drawn_rows
  b__law_drawn_rows : Binds K d__law_drawn_rows P__law_drawn_rows []
  g__law_drawn_rows : mg "_law_drawn_rows" = some (.ref a__law_drawn_rows)
  F__law_drawn_book : Fun K "_law_drawn_book" "_law_drawn_book" s__law_drawn_book a__law_drawn_book d__law_drawn_book
  b__law_drawn_book : Binds K d__law_drawn_book P__law_drawn_book []
  g__law_drawn_book : mg "_law_drawn_book" = some (.ref a__law_drawn_book)
  F__law_drawn_view : Fun K "_law_drawn_view" "_law_drawn_view" s__law_drawn_view a__law_drawn_view d__law_drawn_view
  b__law_drawn_view : Binds K d__law_drawn_view P__law_drawn_view []
  g__law_drawn_view : mg "_law_drawn_view" = some (.ref a__law_drawn_view)
  F__law_drawn_amounts : Fun K "_law_drawn_amounts" "_law_drawn_amounts" s__law_drawn_amounts a__law_drawn_amounts d__law_drawn_amounts
  b__law_drawn_amounts : Binds K d__law_drawn_amounts P__law_drawn_amounts []
  g__law_drawn_amounts : mg "_law_drawn_amounts" = some (.ref a__law_drawn_amounts)
  F__law_names : Fun K "_law_names" "_law_names" s__law_names a__law_names d__law_names
  b__law_names : Binds K d__law_names P__law_names []
  g__law_names : mg "_law_names" = some (.ref a__law_names)
  F__law_put : Fun K "_law_put" "_law_put" s__law_put a__law_put d__law_put
  b__law_put : Binds K d__law_put P__law_put []
  g__law_put : mg "_law_put" = some (.ref a__law_put)
  F__law_checks_hold : Fun K "_law_checks_hold" "_law_checks_hold" s__law_checks_hold a__law_checks_hold d__law_checks_hold
  b__law_checks_hold : Binds K d__law_checks_hold P__law_checks_hold []
  g__law_checks_hold : mg "_law_checks_hold" = some (.ref a__law_checks_hold)
  F__law_is_answer : Fun K "_law_is_answer" "_law_is_answer" s__law_is_answer a__law_is_answer d__law_is_answer
  b__law_is_answer : Binds K d__law_is_answer P__law_is_answer []
  g__law_is_answer : mg "_law_is_answer" = some (.ref a__law_is_answer)
  F__law_answers : Fun K "_law_answers" "_law_answers" s__law_answers a__law_answers d__law_answers
  b__law_answers : Binds K d__law_answers P__law_answers []
  g__law_answers : mg "_law_answers" = some (.ref a__law_answers)
  F__law_tables : Fun K "_law_tables" "_law_tables" s__law_tables a__law_tables d__law_tables
  b__law_tables : Binds K d__law_tables P__law_tables []
  g__law_tables : mg "_law_tables" = some (.ref a__law_tables)
  F__law_same : Fun K "_law_same" "_law_same" s__law_same a__law_same d__law_same
  b__law_same : Binds K d__law_same P__law_same []
  g__law_same : mg "_law_same" = some (.ref a__law_same)
  F_names_in : Fun K "names_in" "names_in" s_names_in a_names_in d_names_in
  b_names_in : Binds K d_names_in P_names_in []
  g_names_in : mg "names_in" = some (.ref a_names_in)
  F_names_of : Fun K "names_of" "names_of" s_names_of a_names_of d_names_of
  b_names_of : Binds K d_names_of P_names_of []
  g_names_of : mg "names_of" = some (.ref a_names_of)
  F_rows_of : Fun K "rows_of" "rows_of" s_rows_of a_rows_of d_rows_of
  b_rows_of : Binds K d_rows_of P_rows_of []
  g_rows_of : mg "rows_of" = some (.ref a_rows_of)
  F_matched : Fun K "matched" "matched" s_matched a_matched d_matched
  b_matched : Binds K d_matched P_matched []
  g_matched : mg "matched" = some (.ref a_matched)
  F_value_of : Fun K "value_of" "value_of" s_value_of a_value_of d_value_of
  b_value_of : Binds K d_value_of P_value_of []
  g_value_of : mg "value_of" = some (.ref a_value_of)
  F_check_holds : Fun K "check_holds" "check_holds" s_check_holds a_check_holds d_check_holds
  b_check_holds : Binds K d_check_holds P_check_holds []
  g_check_holds : mg "check_holds" = some (.ref a_check_holds)
  F_answers : Fun K "answers" "answers" s_answers a_answers d_answers
  b_answers : Binds K d_answers P_answers []
  g_answers : mg "answers" = some (.ref a_answers)
  F_ask_of : Fun K "ask_of" "ask_of" s_ask_of a_ask_of d_ask_of
  b_ask_of : Binds K d_ask_of P_ask_of []
  g_ask_of : mg "ask_of" = some (.ref a_ask_of)
  F_put : Fun K "put" "put" s_put a_put d_put
  b_put : Binds K d_put P_put []
  g_put : mg "put" = some (.ref a_put)
  F_amounts_of : Fun K "amounts_of" "amounts_of" s_amounts_of a_amounts_of d_amounts_of
  b_amounts_of : Binds K d_amounts_of P_amounts_of []
  g_amounts_of : mg "amounts_of" = some (.ref a_amounts_of)
  F_heads_of : Fun K "heads_of" "heads_of" s_heads_of a_heads_of d_heads_of
  b_heads_of : Binds K d_heads_of P_heads_of []
  g_heads_of : mg "heads_of" = some (.ref a_heads_of)
  F_product_of : Fun K "product_of" "product_of" s_product_of a_product_of d_product_of
  b_product_of : Binds K d_product_of P_product_of []
  g_product_of : mg "product_of" = some (.ref a_product_of)
  F_summed : Fun K "summed" "summed" s_summed a_summed d_summed
  b_summed : Binds K d_summed P_summed []
  g_summed : mg "summed" = some (.ref a_summed)
  F_greatest : Fun K "greatest" "greatest" s_greatest a_greatest d_greatest
  b_greatest : Binds K d_greatest P_greatest []
  g_greatest : mg "greatest" = some (.ref a_greatest)
  F_best : Fun K "best" "best" s_best a_best d_best
  b_best : Binds K d_best P_best []
  g_best : mg "best" = some (.ref a_best)
  F_law : Fun K "law" "law" s_law a_law d_law
  b_law : Binds K d_law P_law []
  g_law : mg "law" = some (.ref a_law)
section
variable {P : Program} {w : World} {K : PySem.W.Frag} {mg : Str → Option Value} {base : Heap} {a__law_draw a__law_pick a__law_drawn_rows a__law_drawn_book a__law_drawn_view a__law_drawn_amounts a__law_names a__law_put a__law_checks_hold a__law_is_answer a__law_answers a__law_tables a__law_same a_names_in a_names_of a_rows_of a_matched a_value_of a_check_holds a_answers a_ask_of a_put a_amounts_of a_heads_of a_product_of a_summed a_greatest a_best a_law tC_best tP_best : Addr} {d__law_draw d__law_pick d__law_drawn_rows d__law_drawn_book d__law_drawn_view d__law_drawn_amounts d__law_names d__law_put d__law_checks_hold d__law_is_answer d__law_answers d__law_tables d__law_same d_names_in d_names_of d_rows_of d_matched d_value_of d_check_holds d_answers d_ask_of d_put d_amounts_of d_heads_of d_product_of d_summed d_greatest d_best d_law : FuncData}
variable (T : Tx K mg base a__law_draw a__law_pick a__law_drawn_rows a__law_drawn_book a__law_drawn_view a__law_drawn_amounts a__law_names a__law_put a__law_checks_hold a__law_is_answer a__law_answers a__law_tables a__law_same a_names_in a_names_of a_rows_of a_matched a_value_of a_check_holds a_answers a_ask_of a_put a_amounts_of a_heads_of a_product_of a_summed a_greatest a_best a_law tC_best tP_best d__law_draw d__law_pick d__law_drawn_rows d__law_drawn_book d__law_drawn_view d__law_drawn_amounts d__law_names d__law_put d__law_checks_hold d__law_is_answer d__law_answers d__law_tables d__law_same d_names_in d_names_of d_rows_of d_matched d_value_of d_check_holds d_answers d_ask_of d_put d_amounts_of d_heads_of d_product_of d_summed d_greatest d_best d_law)
include T
theorem ok__law_draw (fu : Nat) : FnOk P w K mg base (L2.CX P w) 1 a__law_draw d__law_draw P__law_draw (spD K mg 3 (F__law_draw w fu)) := by
  refine fnT (N := N__law_draw) (b := m__law_draw w fu) T.F__law_draw sc__law_draw fun cdv A outer s H E hr => ?_
  have tk : Takes (cxOf (L2.CX P w) P w K mg base N__law_draw "_law_draw" (defScope s__law_draw) a__law_draw cdv A outer s H E) (fun c d _ H => E c d H) := takes_of rfl rfl rfl rfl
  exact (js_cons (js_if (jt_not (jt_tru (jv 1))) (js_one (js_drop (j_append (jv 1) (j_callB (cr_max rfl) pok_max (by rfl) T.z_max (by decide +kernel) (ja_cons (j_bin op_addA pok_add (j_lc (own := [("cell", 4)]) (sl := [4]) (by decide) rfl sc__law_draw.nd (ji_seq (jv 0)) (blkOk_by (own := [("cell", 4)]) (N := N__law_draw) (sc := defScope s__law_draw) (by decide +kernel)) (fun _ _ _ _ _ => (jgn 4 sc__law_draw.nd)) (fun _ _ _ _ _ => jts_nil) (fun _ _ _ _ _ => (j_callB call_abs pok_abs (by rfl) T.z_abs (by decide +kernel) (ja_cons (jv 4) ja_nil)))) (j_lst (ja_cons j_int ja_nil))) ja_nil))))) js_nil)
    (js_cons (js_drop (j_append (jv 1) j_int))
    (js_cons (js_set (i := 3) sc__law_draw.nd rfl (by first | exact Or.inl rfl | exact Or.inr rfl) (j_callB call_len pok_len (by rfl) T.z_len (by decide +kernel) (ja_cons (jv 1) ja_nil)))
    (js_cons (js_set (i := 4) sc__law_draw.nd rfl (by first | exact Or.inl rfl | exact Or.inr rfl) (j_if (jt_tru (jv 0)) (j_ix ix_seq pok_ix (fun _ _ => rfl) (jv 0) (j_bin op_mod pok_mod (jv 3) (j_callB call_len pok_len (by rfl) T.z_len (by decide +kernel) (ja_cons (jv 0) ja_nil)))) j_int))
    (js_cons (js_set (i := 5) sc__law_draw.nd rfl (by first | exact Or.inl rfl | exact Or.inr rfl) (j_bin op_mod pok_mod (j_ix ix_seq pok_ix (fun _ _ => rfl) (jv 1) j_int) j_int))
    (js_cons (js_setIx (j_bin op_fdiv pok_fdiv (j_ix ix_seq pok_ix (fun _ _ => rfl) (jv 1) j_int) j_int) (jv 1) j_int)
    (js_cons (js_set (i := 6) sc__law_draw.nd rfl (by first | exact Or.inl rfl | exact Or.inr rfl) (j_bin op_mod pok_mod (j_bin op_addA pok_add (j_bin op_addA pok_add (jv 4) (j_bin op_mulA pok_mul j_int (jv 5))) (j_bin op_mulA pok_mul j_int (jv 3))) j_int))
    (js_cons (js_set (i := 6) sc__law_draw.nd rfl (by first | exact Or.inl rfl | exact Or.inr rfl) (j_bin op_mod pok_mod (j_bin op_mulA pok_mul (j_bin op_mod pok_mod (j_bin op_mulA pok_mul (jv 6) (jv 6)) j_int) j_int) j_int))
    (js_cons (js_set (i := 7) sc__law_draw.nd rfl (by first | exact Or.inl rfl | exact Or.inr rfl) (j_bin op_mod pok_mod (j_bin op_mulA pok_mul (j_bin op_mod pok_mod (j_bin op_mulA pok_mul (jv 6) (jv 6)) j_int) j_int) j_int))
    (js_one (js_ret (j_bin op_mod pok_mod (j_bin op_addA pok_add (j_bin op_mulA pok_mul (j_bin op_fdiv pok_fdiv (jv 6) j_int) j_int) (j_bin op_fdiv pok_fdiv (jv 7) j_int)) (jv 2)))))))))))))
theorem ok__law_pick (fu : Nat) : FnOk P w K mg base (L2.CX P w) 2 a__law_pick d__law_pick P__law_pick (spD K mg 3 (F__law_pick w fu)) := by
  refine fnT (N := N__law_pick) (b := m__law_pick w fu) T.F__law_pick sc__law_pick fun cdv A outer s H E hr => ?_
  have tk : Takes (cxOf (L2.CX P w) P w K mg base N__law_pick "_law_pick" (defScope s__law_pick) a__law_pick cdv A outer s H E) (fun c d _ H => E c d H) := takes_of rfl rfl rfl rfl
  exact (js_one (js_ret (j_ix ix_seq pok_ix (fun _ _ => rfl) (jv 2) (j_call (ok__law_draw T fu) (hr.mono (by decide)) (by rfl) T.g__law_draw T.F__law_draw.kp T.b__law_draw tk (ja_cons (jv 0) (ja_cons (jv 1) (ja_cons (j_callB call_len pok_len (by rfl) T.z_len (by decide +kernel) (ja_cons (jv 2) ja_nil)) ja_nil)))))))
theorem ok__law_drawn_rows (fu : Nat) : FnOk P w K mg base (L2.CX P w) 2 a__law_drawn_rows d__law_drawn_rows P__law_drawn_rows (spD K mg 5 (F__law_drawn_rows w fu)) := by
  refine fnT (N := N__law_drawn_rows) (b := m__law_drawn_rows w fu) T.F__law_drawn_rows sc__law_drawn_rows fun cdv A outer s H E hr => ?_
  have tk : Takes (cxOf (L2.CX P w) P w K mg base N__law_drawn_rows "_law_drawn_rows" (defScope s__law_drawn_rows) a__law_drawn_rows cdv A outer s H E) (fun c d _ H => E c d H) := takes_of rfl rfl rfl rfl
  exact (js_cons (js_set (i := 5) sc__law_drawn_rows.nd rfl (by first | exact Or.inl rfl | exact Or.inr rfl) (j_lst ja_nil))
    (js_cons (js_for (passes_of rfl) rfl (ji_rng1 (by rfl) T.z_range (ja_cons (j_call (ok__law_draw T fu) (hr.mono (by decide)) (by rfl) T.g__law_draw T.F__law_draw.kp T.b__law_draw tk (ja_cons (jv 0) (ja_cons (jv 1) (ja_cons (j_bin op_addA pok_add (jv 3) j_int) ja_nil)))) ja_nil)) (jgn 6 sc__law_drawn_rows.nd) (js_cons (js_set (i := 7) sc__law_drawn_rows.nd rfl (by first | exact Or.inl rfl | exact Or.inr rfl) (j_callT call_tuple_of pok_tup (by rfl) T.z_tuple (by decide +kernel) (ja_cons (j_lc (own := [("j", 8)]) (sl := [8]) (by decide) rfl sc__law_drawn_rows.nd (ji_rng1 (by rfl) T.z_range (ja_cons (jv 2) ja_nil)) (blkOk_by (own := [("j", 8)]) (N := N__law_drawn_rows) (sc := defScope s__law_drawn_rows) (by decide +kernel)) (fun _ _ _ _ _ => (jgn 8 sc__law_drawn_rows.nd)) (fun _ _ _ _ _ => jts_nil) (fun _ _ _ _ _ => (j_call (ok__law_draw T fu) (hr.mono (by decide)) (by rfl) T.g__law_draw T.F__law_draw.kp T.b__law_draw takes0 (ja_cons (jv 0) (ja_cons (jv 1) (ja_cons (jv 4) ja_nil)))))) ja_nil)))
    (js_one (js_set (i := 5) sc__law_drawn_rows.nd rfl (by first | exact Or.inl rfl | exact Or.inr rfl) (j_bin op_addA pok_add (jv 5) (j_bin op_mulA pok_mul (j_lst (ja_cons (jv 7) ja_nil)) (j_callT call_int1 pok_int (by rfl) T.z_int (by decide +kernel) (ja_cons (j_cmp (op_notInD (room65 hr)) pok_nin (by rfl) (jv 7) (jv 5)) ja_nil))))))))
    (js_one (js_ret (j_callT call_tuple_of pok_tup (by rfl) T.z_tuple (by decide +kernel) (ja_cons (j_callB cr_sortA pok_sort (by rfl) T.z_sorted (by decide +kernel) (ja_cons (jv 5) ja_nil)) ja_nil))))))
theorem ok__law_drawn_book (fu : Nat) : FnOk P w K mg base (L2.CX P w) 3 a__law_drawn_book d__law_drawn_book P__law_drawn_book (spD K mg 4 (F__law_drawn_book w fu)) := by
  refine fnT (N := N__law_drawn_book) (b := m__law_drawn_book w fu) T.F__law_drawn_book sc__law_drawn_book fun cdv A outer s H E hr => ?_
  have tk : Takes (cxOf (L2.CX P w) P w K mg base N__law_drawn_book "_law_drawn_book" (defScope s__law_drawn_book) a__law_drawn_book cdv A outer s H E) (fun c d _ H => E c d H) := takes_of rfl rfl rfl rfl
  exact (js_cons (js_set (i := 4) sc__law_drawn_book.nd rfl (by first | exact Or.inl rfl | exact Or.inr rfl) (j_newL ja_nil))
    (js_cons (js_for (passes_of rfl) rfl (ji_seq (j_tup (ja_cons j_str (ja_cons j_str (ja_cons j_str (ja_cons j_str ja_nil)))))) (jgn 5 sc__law_drawn_book.nd) (js_cons (js_set (i := 6) sc__law_drawn_book.nd rfl (by first | exact Or.inl rfl | exact Or.inr rfl) (j_call (ok__law_pick T fu) (hr.mono (by decide)) (by rfl) T.g__law_pick T.F__law_pick.kp T.b__law_pick tk (ja_cons (jv 0) (ja_cons (jv 1) (ja_cons (j_lst (ja_cons j_int (ja_cons j_int (ja_cons j_int (ja_cons j_int (ja_cons j_int ja_nil)))))) ja_nil)))))
    (js_one (js_drop (j_append (jv 4) (j_tup (ja_cons (jv 5) (ja_cons (jv 6) (ja_cons (j_call (ok__law_drawn_rows T fu) (hr.mono (by decide)) (by rfl) T.g__law_drawn_rows T.F__law_drawn_rows.kp T.b__law_drawn_rows tk (ja_cons (jv 0) (ja_cons (jv 1) (ja_cons (jv 6) (ja_cons (jv 2) (ja_cons (jv 3) ja_nil)))))) ja_nil)))))))))
    (js_one (js_ret (j_callT call_tuple_of pok_tup (by rfl) T.z_tuple (by decide +kernel) (ja_cons (j_slice (jv 4) (jo_some (j_call (ok__law_draw T fu) (hr.mono (by decide)) (by rfl) T.g__law_draw T.F__law_draw.kp T.b__law_draw tk (ja_cons (jv 0) (ja_cons (jv 1) (ja_cons j_int ja_nil))))) jo_none) ja_nil))))))
theorem ok__law_drawn_view (fu : Nat) : FnOk P w K mg base (L2.CX P w) 3 a__law_drawn_view d__law_drawn_view P__law_drawn_view (spD K mg 4 (F__law_drawn_view w fu)) := by
  refine fnT (N := N__law_drawn_view) (b := m__law_drawn_view w fu) T.F__law_drawn_view sc__law_drawn_view fun cdv A outer s H E hr => ?_
  have tk : Takes (cxOf (L2.CX P w) P w K mg base N__law_drawn_view "_law_drawn_view" (defScope s__law_drawn_view) a__law_drawn_view cdv A outer s H E) (fun c d _ H => E c d H) := takes_of rfl rfl rfl rfl
  exact (js_cons (js_asg (j_tup (ja_cons (j_slice (j_lst (ja_cons j_str (ja_cons j_str (ja_cons j_str (ja_cons j_str ja_nil))))) jo_none (jo_some (j_bin op_addA pok_add j_int (j_call (ok__law_draw T fu) (hr.mono (by decide)) (by rfl) T.g__law_draw T.F__law_draw.kp T.b__law_draw tk (ja_cons (jv 0) (ja_cons (jv 1) (ja_cons j_int ja_nil))))))) (ja_cons (j_newL ja_nil) ja_nil))) (jg_tup rfl (jgs_cons (jgn 7 sc__law_drawn_view.nd) (jgs_cons (jgn 8 sc__law_drawn_view.nd) jgs_nil))))
    (js_cons (js_for (passes_of rfl) rfl (ji_rng1 (by rfl) T.z_range (ja_cons (j_bin op_addA pok_add j_int (j_call (ok__law_draw T fu) (hr.mono (by decide)) (by rfl) T.g__law_draw T.F__law_draw.kp T.b__law_draw tk (ja_cons (jv 0) (ja_cons (jv 1) (ja_cons (jv 2) ja_nil))))) ja_nil)) (jgn 4 sc__law_drawn_view.nd) (js_cons (js_asg (j_call (ok__law_pick T fu) (hr.mono (by decide)) (by rfl) T.g__law_pick T.F__law_pick.kp T.b__law_pick tk (ja_cons (jv 0) (ja_cons (jv 1) (ja_cons (jv 3) ja_nil)))) (jg_tup rfl (jgs_cons (jgn 10 sc__law_drawn_view.nd) (jgs_cons (jgn 11 sc__law_drawn_view.nd) jgs_nil))))
    (js_cons (js_setLc (i := 9) (own := [("j", 12)]) (sl := [12]) (by decide) rfl sc__law_drawn_view.nd rfl rfl (sw_true rfl rfl rfl (by decide +kernel)) (ji_rng1 (by rfl) T.z_range (ja_cons (jv 11) ja_nil)) (blkOk_by (own := [("j", 12)]) (N := N__law_drawn_view) (sc := defScope s__law_drawn_view) (by decide +kernel)) (fun _ _ _ _ _ => (jgn 12 sc__law_drawn_view.nd)) (fun _ _ _ _ _ => jts_nil) (fun _ _ _ _ _ => (j_call (ok__law_pick T fu) (hr.mono (by decide)) (by rfl) T.g__law_pick T.F__law_pick.kp T.b__law_pick takes0 (ja_cons (jv 0) (ja_cons (jv 1) (ja_cons (j_bin op_addA pok_add (j_bin op_mulA pok_mul (jv 7) j_int) (j_lst (ja_cons (j_call (ok__law_draw T fu) (hr.mono (by decide)) (by rfl) T.g__law_draw T.F__law_draw.kp T.b__law_draw takes0 (ja_cons (jv 0) (ja_cons (jv 1) (ja_cons j_int ja_nil)))) ja_nil))) ja_nil))))))
    (js_one (js_drop (j_append (jv 8) (j_tup (ja_cons (jv 10) (ja_cons (j_callT call_tuple_of pok_tup (by rfl) T.z_tuple (by decide +kernel) (ja_cons (jv 9) ja_nil)) ja_nil)))))))))
    (js_cons (js_set (i := 5) sc__law_drawn_view.nd rfl (by first | exact Or.inl rfl | exact Or.inr rfl) (j_lst ja_nil))
    (js_cons (js_forG (passes_of rfl) rfl (ji_seqG (jv 8)) (jg_tup rfl (jgs_cons (jgn 10 sc__law_drawn_view.nd) (jgs_cons (jgn 9 sc__law_drawn_view.nd) jgs_nil))) (js_one (js_set (i := 5) sc__law_drawn_view.nd rfl (by first | exact Or.inl rfl | exact Or.inr rfl) (j_bin op_addA pok_add (jv 5) (j_lc (own := [("one", 13)]) (sl := [13]) (by decide) rfl sc__law_drawn_view.nd (ji_seq (jv 9)) (blkOk_by (own := [("one", 13)]) (N := N__law_drawn_view) (sc := defScope s__law_drawn_view) (by decide +kernel)) (fun _ _ _ _ _ => (jgn 13 sc__law_drawn_view.nd)) (fun _ _ _ _ _ => (jts_one (jw_pt (jw_and (jt_tru (j_callB call_isi pok_isi (by rfl) T.z_isinstance (by decide +kernel) (ja_cons (jv 13) (ja_cons (j_ty (by rfl) T.z_str (by decide +kernel)) ja_nil)))) (jw_and1 (jt_cmp (op_ninT (room65 hr)) pok_ninT (by rfl) (jv 13) (jv 5))))))) (fun _ _ _ _ _ => (jv 13)))))))
    (js_cons (js_set (i := 6) sc__law_drawn_view.nd rfl (by first | exact Or.inl rfl | exact Or.inr rfl) (j_callT call_tuple_of pok_tup (by rfl) T.z_tuple (by decide +kernel) (ja_cons (j_lc (own := [("k", 4)]) (sl := [4]) (by decide) rfl sc__law_drawn_view.nd (ji_rng1 (by rfl) T.z_range (ja_cons (j_call (ok__law_pick T fu) (hr.mono (by decide)) (by rfl) T.g__law_pick T.F__law_pick.kp T.b__law_pick tk (ja_cons (jv 0) (ja_cons (jv 1) (ja_cons (j_lst (ja_cons j_int (ja_cons j_int (ja_cons j_int (ja_cons j_int ja_nil))))) ja_nil)))) ja_nil)) (blkOk_by (own := [("k", 4)]) (N := N__law_drawn_view) (sc := defScope s__law_drawn_view) (by decide +kernel)) (fun _ _ _ _ _ => (jgn 4 sc__law_drawn_view.nd)) (fun _ _ _ _ _ => jts_nil) (fun _ _ _ _ _ => (j_call (ok__law_pick T fu) (hr.mono (by decide)) (by rfl) T.g__law_pick T.F__law_pick.kp T.b__law_pick takes0 (ja_cons (jv 0) (ja_cons (jv 1) (ja_cons (j_bin op_addA pok_add (j_bin op_mulA pok_mul (jv 5) j_int) (j_lst (ja_cons j_int ja_nil))) ja_nil)))))) ja_nil)))
    (js_one (js_ret (j_tup (ja_cons (jv 6) (ja_cons (j_callT call_tuple_of pok_tup (by rfl) T.z_tuple (by decide +kernel) (ja_cons (jv 8) ja_nil)) ja_nil))))))))))
theorem ok__law_drawn_amounts (fu : Nat) : FnOk P w K mg base (L2.CX P w) 2 a__law_drawn_amounts d__law_drawn_amounts P__law_drawn_amounts (spD K mg 3 (F__law_drawn_amounts w fu)) := by
  refine fnT (N := N__law_drawn_amounts) (b := m__law_drawn_amounts w fu) T.F__law_drawn_amounts sc__law_drawn_amounts fun cdv A outer s H E hr => ?_
  have tk : Takes (cxOf (L2.CX P w) P w K mg base N__law_drawn_amounts "_law_drawn_amounts" (defScope s__law_drawn_amounts) a__law_drawn_amounts cdv A outer s H E) (fun c d _ H => E c d H) := takes_of rfl rfl rfl rfl
  exact (js_cons (js_set (i := 3) sc__law_drawn_amounts.nd rfl (by first | exact Or.inl rfl | exact Or.inr rfl) (j_newL ja_nil))
    (js_cons (js_for (passes_of rfl) rfl (ji_seq (jv 2)) (jg_tup rfl (jgs_cons (jgn 4 sc__law_drawn_amounts.nd) (jgs_cons (jgn 5 sc__law_drawn_amounts.nd) (jgs_cons (jgn 6 sc__law_drawn_amounts.nd) jgs_nil)))) (js_one (js_for (passes_of rfl) rfl (ji_seq (jv 6)) (jgn 7 sc__law_drawn_amounts.nd) (js_one (js_if (jt_cmp op_gt pok_gt (nomark _) (j_call (ok__law_draw T fu) (hr.mono (by decide)) (by rfl) T.g__law_draw T.F__law_draw.kp T.b__law_draw tk (ja_cons (jv 0) (ja_cons (jv 1) (ja_cons j_int ja_nil)))) j_int) (js_one (js_drop (j_append (jv 3) (j_tup (ja_cons (jv 4) (ja_cons (jv 7) (ja_cons (j_bin op_sub pok_sub (j_call (ok__law_draw T fu) (hr.mono (by decide)) (by rfl) T.g__law_draw T.F__law_draw.kp T.b__law_draw tk (ja_cons (jv 0) (ja_cons (jv 1) (ja_cons j_int ja_nil)))) j_int) ja_nil))))))) js_nil)))))
    (js_one (js_ret (j_callT call_tuple_of pok_tup (by rfl) T.z_tuple (by decide +kernel) (ja_cons (jv 3) ja_nil))))))
theorem ok__law_names (fu : Nat) : FnOk P w K mg base (L2.CX P w) 1 a__law_names d__law_names P__law_names (spD K mg 1 (F__law_names w fu)) := by
  refine fnT (N := N__law_names) (b := m__law_names w fu) T.F__law_names sc__law_names fun cdv A outer s H E hr => ?_
  have tk : Takes (cxOf (L2.CX P w) P w K mg base N__law_names "_law_names" (defScope s__law_names) a__law_names cdv A outer s H E) (fun c d _ H => E c d H) := takes_of rfl rfl rfl rfl
  exact (js_cons (js_set (i := 1) sc__law_names.nd rfl (by first | exact Or.inl rfl | exact Or.inr rfl) (j_lst ja_nil))
    (js_cons (js_for (passes_of rfl) rfl (ji_seq (j_ix ix_seq pok_ix (fun _ _ => rfl) (jv 0) j_int)) (jg_tup rfl (jgs_cons (jgn 2 sc__law_names.nd) (jgs_cons (jgn 3 sc__law_names.nd) jgs_nil))) (js_one (js_for (passes_of rfl) rfl (ji_seq (jv 3)) (jgn 4 sc__law_names.nd) (js_one (js_set (i := 1) sc__law_names.nd rfl (by first | exact Or.inl rfl | exact Or.inr rfl) (j_bin op_addA pok_add (jv 1) (j_bin op_mulA pok_mul (j_lst (ja_cons (jv 4) ja_nil)) (j_callT call_int1 pok_int (by rfl) T.z_int (by decide +kernel) (ja_cons (j_and (j_callB call_isi pok_isi (by rfl) T.z_isinstance (by decide +kernel) (ja_cons (jv 4) (ja_cons (j_ty (by rfl) T.z_str (by decide +kernel)) ja_nil))) (j_one (j_cmp (op_ninT (room65 hr)) pok_ninT (by rfl) (jv 4) (jv 1)))) ja_nil)))))))))
    (js_one (js_ret (jv 1)))))
theorem ok__law_put (fu : Nat) : FnOk P w K mg base (L2.CX P w) 1 a__law_put d__law_put P__law_put (spD K mg 2 (F__law_put w fu)) := by
  refine fnT (N := N__law_put) (b := m__law_put w fu) T.F__law_put sc__law_put fun cdv A outer s H E hr => ?_
  have tk : Takes (cxOf (L2.CX P w) P w K mg base N__law_put "_law_put" (defScope s__law_put) a__law_put cdv A outer s H E) (fun c d _ H => E c d H) := takes_of rfl rfl rfl rfl
  exact (js_one (js_ret (j_callT call_tuple_of pok_tup (by rfl) T.z_tuple (by decide +kernel) (ja_cons (j_lc (own := [("one", 2)]) (sl := [2]) (by decide) rfl sc__law_put.nd (ji_seq (jv 0)) (blkOk_by (own := [("one", 2)]) (N := N__law_put) (sc := defScope s__law_put) (by decide +kernel)) (fun _ _ _ _ _ => (jgn 2 sc__law_put.nd)) (fun _ _ _ _ _ => jts_nil) (fun _ _ _ _ _ => (j_if (jt_tru (j_callB call_isi pok_isi (by rfl) T.z_isinstance (by decide +kernel) (ja_cons (jv 2) (ja_cons (j_ty (by rfl) T.z_str (by decide +kernel)) ja_nil)))) (j_dget (Nat.lt_of_succ_lt (room65 hr)) (fun _ _ => rfl) (jv 1) (jv 2)) (jv 2)))) ja_nil))))
theorem ok__law_checks_hold (fu : Nat) : FnOk P w K mg base (L2.CX P w) 2 a__law_checks_hold d__law_checks_hold P__law_checks_hold (spD K mg 2 (F__law_checks_hold w fu)) := by
  refine fnT (N := N__law_checks_hold) (b := m__law_checks_hold w fu) T.F__law_checks_hold sc__law_checks_hold fun cdv A outer s H E hr => ?_
  have tk : Takes (cxOf (L2.CX P w) P w K mg base N__law_checks_hold "_law_checks_hold" (defScope s__law_checks_hold) a__law_checks_hold cdv A outer s H E) (fun c d _ H => E c d H) := takes_of rfl rfl rfl rfl
  exact (js_cons (js_for (passes_of rfl) rfl (ji_seq (jv 0)) (jg_tup rfl (jgs_cons (jgn 2 sc__law_checks_hold.nd) (jgs_cons (jgn 3 sc__law_checks_hold.nd) (jgs_cons (jgn 4 sc__law_checks_hold.nd) jgs_nil)))) (js_cons (js_asg (j_call (ok__law_put T fu) (hr.mono (by decide)) (by rfl) T.g__law_put T.F__law_put.kp T.b__law_put tk (ja_cons (j_tup (ja_cons (jv 3) (ja_cons (jv 4) ja_nil))) (ja_cons (jv 1) ja_nil))) (jg_tup rfl (jgs_cons (jgn 5 sc__law_checks_hold.nd) (jgs_cons (jgn 6 sc__law_checks_hold.nd) jgs_nil))))
    (js_one (js_if (jt_not (jt_if (jt_cmp (op_eqA hr.units) pok_eq (nomark _) (jv 2) j_str) (jt_cmp op_ltA pok_lt (nomark _) (jv 5) (jv 6)) (jt_cmp (op_neA hr.units) pok_ne (nomark _) (jv 5) (jv 6)))) (js_one (js_ret j_bl)) js_nil))))
    (js_one (js_ret j_bl)))
theorem ok__law_is_answer (fu : Nat) : FnOk P w K mg base (L2.CX P w) 3 a__law_is_answer d__law_is_answer P__law_is_answer (spD K mg 3 (F__law_is_answer w fu)) := by
  refine fnT (N := N__law_is_answer) (b := m__law_is_answer w fu) T.F__law_is_answer sc__law_is_answer fun cdv A outer s H E hr => ?_
  have tk : Takes (cxOf (L2.CX P w) P w K mg base N__law_is_answer "_law_is_answer" (defScope s__law_is_answer) a__law_is_answer cdv A outer s H E) (fun c d _ H => E c d H) := takes_of rfl rfl rfl rfl
  exact (js_cons (js_set (i := 3) sc__law_is_answer.nd rfl (by first | exact Or.inl rfl | exact Or.inr rfl) j_newD0)
    (js_cons (js_for (passes_of rfl) rfl (ji_seq (jv 0)) (jg_tup rfl (jgs_cons (jgn 4 sc__law_is_answer.nd) (jgs_cons (jgn 5 sc__law_is_answer.nd) (jgs_cons (jgn 6 sc__law_is_answer.nd) jgs_nil)))) (js_one (js_dput (Nat.lt_of_succ_lt (room65 hr)) (jv 6) (jv 3) (jv 4))))
    (js_cons (js_for (passes_of rfl) rfl (ji_seq (j_ix ix_seq pok_ix (fun _ _ => rfl) (jv 1) j_int)) (jg_tup rfl (jgs_cons (jgn 4 sc__law_is_answer.nd) (jgs_cons (jgn 7 sc__law_is_answer.nd) jgs_nil))) (js_one (js_if (jt_cmp (op_ninT (room65 hr)) pok_ninT (by rfl) (j_call (ok__law_put T fu) (hr.mono (by decide)) (by rfl) T.g__law_put T.F__law_put.kp T.b__law_put tk (ja_cons (jv 7) (ja_cons (jv 2) ja_nil))) (j_callT call_list_of pok_lst (by rfl) T.z_list (by decide +kernel) (ja_cons (j_dget (Nat.lt_of_succ_lt (room65 hr)) (fun _ _ => rfl) (jv 3) (jv 4)) ja_nil))) (js_one (js_ret j_bl)) js_nil)))
    (js_one (js_ret (j_call (ok__law_checks_hold T fu) (hr.mono (by decide)) (by rfl) T.g__law_checks_hold T.F__law_checks_hold.kp T.b__law_checks_hold tk (ja_cons (j_ix ix_seq pok_ix (fun _ _ => rfl) (jv 1) j_int) (ja_cons (jv 2) ja_nil))))))))
theorem ok__law_answers (fu : Nat) : FnOk P w K mg base (L2.CX P w) 4 a__law_answers d__law_answers P__law_answers (spD K mg 2 (F__law_answers w fu)) := by
  refine fnT (N := N__law_answers) (b := m__law_answers w fu) T.F__law_answers sc__law_answers fun cdv A outer s H E hr => ?_
  have tk : Takes (cxOf (L2.CX P w) P w K mg base N__law_answers "_law_answers" (defScope s__law_answers) a__law_answers cdv A outer s H E) (fun c d _ H => E c d H) := takes_of rfl rfl rfl rfl
  exact (js_cons (js_asg (j_tup (ja_cons (j_call (ok__law_names T fu) (hr.mono (by decide)) (by rfl) T.g__law_names T.F__law_names.kp T.b__law_names tk (ja_cons (jv 1) ja_nil)) (ja_cons (j_lst ja_nil) ja_nil))) (jg_tup rfl (jgs_cons (jgn 4 sc__law_answers.nd) (jgs_cons (jgn 5 sc__law_answers.nd) jgs_nil))))
    (js_cons (js_for (passes_of rfl) rfl (ji_seq (jv 0)) (jg_tup rfl (jgs_cons (jgn 6 sc__law_answers.nd) (jgs_cons (jgn 7 sc__law_answers.nd) (jgs_cons (jgn 8 sc__law_answers.nd) jgs_nil)))) (js_one (js_for (passes_of rfl) rfl (ji_seq (jv 8)) (jgn 9 sc__law_answers.nd) (js_one (js_set (i := 5) sc__law_answers.nd rfl (by first | exact Or.inl rfl | exact Or.inr rfl) (j_callBT (cr_sortedSet rfl) (cr_setI rfl) pok_sortSet (by rfl) T.z_sorted (by decide +kernel) (by rfl) T.z_set (by decide +kernel) (ja_cons (j_bin op_addA pok_add (jv 5) (j_callT call_list_of pok_lst (by rfl) T.z_list (by decide +kernel) (ja_cons (jv 9) ja_nil))) ja_nil)))))))
    (js_cons (js_set (i := 2) sc__law_answers.nd rfl (by first | exact Or.inl rfl | exact Or.inr rfl) (j_lst (ja_cons (j_tup ja_nil) ja_nil)))
    (js_cons (js_for (passes_of rfl) rfl (ji_seq (jv 4)) (jgn 3 sc__law_answers.nd) (js_cons (js_set (i := 10) sc__law_answers.nd rfl (by first | exact Or.inl rfl | exact Or.inr rfl) (j_lst ja_nil))
    (js_cons (js_for (passes_of rfl) rfl (ji_seq (jv 2)) (jgn 9 sc__law_answers.nd) (js_one (js_set (i := 10) sc__law_answers.nd rfl (by first | exact Or.inl rfl | exact Or.inr rfl) (j_bin op_addA pok_add (jv 10) (j_lc (own := [("value", 11)]) (sl := [11]) (by decide) rfl sc__law_answers.nd (ji_seq (jv 5)) (blkOk_by (own := [("value", 11)]) (N := N__law_answers) (sc := defScope s__law_answers) (by decide +kernel)) (fun _ _ _ _ _ => (jgn 11 sc__law_answers.nd)) (fun _ _ _ _ _ => jts_nil) (fun _ _ _ _ _ => (j_bin op_addA pok_add (jv 9) (j_tup (ja_cons (jv 11) ja_nil)))))))))
    (js_one (js_set (i := 2) sc__law_answers.nd rfl (by first | exact Or.inl rfl | exact Or.inr rfl) (jv 10))))))
    (js_one (js_ret (j_lc (own := [("row", 9)]) (sl := [9]) (by decide) rfl sc__law_answers.nd (ji_seq (jv 2)) (blkOk_by (own := [("row", 9)]) (N := N__law_answers) (sc := defScope s__law_answers) (by decide +kernel)) (fun _ _ _ _ _ => (jgn 9 sc__law_answers.nd)) (fun _ _ _ _ _ => (jts_one (jt_tru (j_call (ok__law_is_answer T fu) (hr.mono (by decide)) (by rfl) T.g__law_is_answer T.F__law_is_answer.kp T.b__law_is_answer takes0 (ja_cons (jv 0) (ja_cons (jv 1) (ja_cons (j_dictZip rfl (by rfl) T.z_dict (by rfl) T.z_zip (ja_cons (jv 4) (ja_cons (jv 9) ja_nil))) ja_nil))))))) (fun _ _ _ _ _ => (jv 9)))))))))
theorem ok__law_tables (fu : Nat) : FnOk P w K mg base (L2.CX P w) 5 a__law_tables d__law_tables P__law_tables (spD K mg 3 (F__law_tables w fu)) := by
  refine fnT (N := N__law_tables) (b := m__law_tables w fu) T.F__law_tables sc__law_tables fun cdv A outer s H E hr => ?_
  have tk : Takes (cxOf (L2.CX P w) P w K mg base N__law_tables "_law_tables" (defScope s__law_tables) a__law_tables cdv A outer s H E) (fun c d _ H => E c d H) := takes_of rfl rfl rfl rfl
  exact (js_cons (js_asg (j_tup (ja_cons (j_call (ok__law_names T fu) (hr.mono (by decide)) (by rfl) T.g__law_names T.F__law_names.kp T.b__law_names tk (ja_cons (j_tup (ja_cons (j_ix ix_seq pok_ix (fun _ _ => rfl) (jv 1) j_int) (ja_cons (j_tup ja_nil) ja_nil))) ja_nil)) (ja_cons j_newDT0 (ja_cons j_newDT0 ja_nil)))) (jg_tup rfl (jgs_cons (jgn 5 sc__law_tables.nd) (jgs_cons (jgn 6 sc__law_tables.nd) (jgs_cons (jgn 7 sc__law_tables.nd) jgs_nil)))))
    (js_cons (js_for (passes_of rfl) rfl (ji_seq (j_call (ok__law_answers T fu) (hr.mono (by decide)) (by rfl) T.g__law_answers T.F__law_answers.kp T.b__law_answers tk (ja_cons (jv 0) (ja_cons (j_tup (ja_cons (j_ix ix_seq pok_ix (fun _ _ => rfl) (jv 1) j_int) (ja_cons (j_tup ja_nil) ja_nil))) ja_nil)))) (jgn 3 sc__law_tables.nd) (js_cons (js_par3 (i := 9) (j := 10) (l := 11) rfl sc__law_tables.nd rfl rfl rfl (by decide) (by decide) (by decide) rfl rfl rfl (ja_cons (j_dictZip rfl (by rfl) T.z_dict (by rfl) T.z_zip (ja_cons (jv 5) (ja_cons (jv 3) ja_nil))) (ja_cons j_int (ja_cons j_int ja_nil))) (by rfl))
    (js_cons (js_for (passes_of rfl) rfl (ji_seq (j_ix ix_seq pok_ix (fun _ _ => rfl) (jv 1) j_int)) (jg_tup rfl (jgs_cons (jgn 12 sc__law_tables.nd) (jgs_cons (jgn 13 sc__law_tables.nd) jgs_nil))) (js_cons (js_set (i := 14) sc__law_tables.nd rfl (by first | exact Or.inl rfl | exact Or.inr rfl) (j_getPr (Nat.lt_of_succ_lt (room65 hr)) (jv 2) (j_tup (ja_cons (jv 12) (ja_cons (j_call (ok__law_put T fu) (hr.mono (by decide)) (by rfl) T.g__law_put T.F__law_put.kp T.b__law_put tk (ja_cons (jv 13) (ja_cons (jv 9) ja_nil))) ja_nil))) j_int ⟨rfl, rfl, rfl, rfl⟩))
    (js_one (js_par (i := 10) (j := 11) rfl sc__law_tables.nd rfl rfl (by decide) rfl rfl (ja_cons (j_bin op_mulA pok_mul (jv 10) (jv 14)) (ja_cons (j_bin op_addA pok_add (jv 11) (jv 14)) ja_nil)) (by rfl)))))
    (js_cons (js_set (i := 8) sc__law_tables.nd rfl (by first | exact Or.inl rfl | exact Or.inr rfl) (j_call (ok__law_put T fu) (hr.mono (by decide)) (by rfl) T.g__law_put T.F__law_put.kp T.b__law_put tk (ja_cons (j_ix ix_seq pok_ix (fun _ _ => rfl) (jv 1) j_int) (ja_cons (jv 9) ja_nil))))
    (js_cons (js_dputT (Nat.lt_of_succ_lt (room65 hr)) (j_bin op_addA pok_add (j_dget2T (Nat.lt_of_succ_lt (room65 hr)) (jv 6) (jv 8) j_int ⟨rfl, rfl, rfl, rfl⟩) (jv 10)) (jv 6) (jv 8))
    (js_one (js_dputT (Nat.lt_of_succ_lt (room65 hr)) (j_callB (call_max2 rfl) pok_max2 (by rfl) T.z_max (by decide +kernel) (ja_cons (j_dget2T (Nat.lt_of_succ_lt (room65 hr)) (jv 7) (jv 8) (jv 11) ⟨rfl, rfl, rfl, rfl⟩) (ja_cons (jv 11) ja_nil))) (jv 7) (jv 8))))))))
    (js_cons (js_set (i := 4) sc__law_tables.nd rfl (by first | exact Or.inl rfl | exact Or.inr rfl) (j_callT call_tuple_of pok_tup (by rfl) T.z_tuple (by decide +kernel) (ja_cons (j_lc (own := [("row", 3)]) (sl := [3]) (by decide) rfl sc__law_tables.nd (ji_seq (j_callB (cr_sortDT rfl) pok_sortDT (by rfl) T.z_sorted (by decide +kernel) (ja_cons (jv 6) ja_nil))) (blkOk_by (own := [("row", 3)]) (N := N__law_tables) (sc := defScope s__law_tables) (by decide +kernel)) (fun _ _ _ _ _ => (jgn 3 sc__law_tables.nd)) (fun _ _ _ _ _ => jts_nil) (fun _ _ _ _ _ => (j_tup (ja_cons (jv 3) (ja_cons (j_dgetT (Nat.lt_of_succ_lt (room65 hr)) (fun _ _ => rfl) (jv 6) (jv 3)) ja_nil))))) ja_nil)))
    (js_one (js_ret (j_tup (ja_cons (jv 4) (ja_cons (j_callT call_tuple_of pok_tup (by rfl) T.z_tuple (by decide +kernel) (ja_cons (j_lc (own := [("row", 3)]) (sl := [3]) (by decide) rfl sc__law_tables.nd (ji_seq (j_callB (cr_sortDT rfl) pok_sortDT (by rfl) T.z_sorted (by decide +kernel) (ja_cons (jv 7) ja_nil))) (blkOk_by (own := [("row", 3)]) (N := N__law_tables) (sc := defScope s__law_tables) (by decide +kernel)) (fun _ _ _ _ _ => (jgn 3 sc__law_tables.nd)) (fun _ _ _ _ _ => jts_nil) (fun _ _ _ _ _ => (j_tup (ja_cons (jv 3) (ja_cons (j_dgetT (Nat.lt_of_succ_lt (room65 hr)) (fun _ _ => rfl) (jv 7) (jv 3)) ja_nil))))) ja_nil)) ja_nil))))))))
theorem ok__law_same (fu : Nat) : ∀ n : Nat, FnOk P w K mg base (L2.CX P w) (1 + n) a__law_same d__law_same P__law_same (spD K mg 2 (F__law_same w fu n))
  | 0 => fn_bad
  | n + 1 => by
    have ih := ok__law_same fu n
    refine fnT (k := 1 + n) (N := N__law_same) (b := m__law_same w fu (F__law_same w fu n)) T.F__law_same sc__law_same fun cdv A outer s H E hr => ?_
    have tk : Takes (cxOf (L2.CX P w) P w K mg base N__law_same "_law_same" (defScope s__law_same) a__law_same cdv A outer s H E) (fun c d _ H => E c d H) := takes_of rfl rfl rfl rfl
    exact (js_cons (js_if (jt_cmp op_isN pok_isN (nomark _) (jv 1) j_non) (js_one (js_ret (j_cmp op_isN pok_isN (nomark _) (jv 0) j_non))) js_nil)
    (js_cons (js_if (jt_tru (j_callB call_isi pok_isi (by rfl) T.z_isinstance (by decide +kernel) (ja_cons (jv 1) (ja_cons (j_ty (by rfl) T.z_bool (by decide +kernel)) ja_nil)))) (js_one (js_ret (j_and (j_callB call_isi pok_isi (by rfl) T.z_isinstance (by decide +kernel) (ja_cons (jv 0) (ja_cons (j_ty (by rfl) T.z_bool (by decide +kernel)) ja_nil))) (j_one (j_cmp (op_eqA hr.units) pok_eq (nomark _) (jv 0) (jv 1)))))) js_nil)
    (js_cons (js_if (jt_tru (j_callB call_isi pok_isi (by rfl) T.z_isinstance (by decide +kernel) (ja_cons (jv 1) (ja_cons (j_ty (by rfl) T.z_tuple (by decide +kernel)) ja_nil)))) (js_cons (js_if (jw_pt (jw_or (jt_not (jt_tru (j_callB call_isi pok_isi (by rfl) T.z_isinstance (by decide +kernel) (ja_cons (jv 0) (ja_cons (j_ty (by rfl) T.z_tuple (by decide +kernel)) ja_nil))))) (jw_or1 (jt_cmp (op_neA hr.units) pok_ne (nomark _) (j_callB call_len pok_len (by rfl) T.z_len (by decide +kernel) (ja_cons (jv 0) ja_nil)) (j_callB call_len pok_len (by rfl) T.z_len (by decide +kernel) (ja_cons (jv 1) ja_nil)))))) (js_one (js_ret j_bl)) js_nil)
    (js_one (js_ret (j_callB (cr_all rfl) pok_all (by rfl) T.z_all (by decide +kernel) (ja_cons (j_lc (own := [("one", 2), ("other", 3)]) (sl := [2, 3]) (by decide) rfl sc__law_same.nd (ji_zip (by rfl) T.z_zip (ja_cons (jv 0) (ja_cons (jv 1) ja_nil))) (blkOk_by (own := [("one", 2), ("other", 3)]) (N := N__law_same) (sc := defScope s__law_same) (by decide +kernel)) (fun _ _ _ _ _ => (jg_tup rfl (jgs_cons (jgn 2 sc__law_same.nd) (jgs_cons (jgn 3 sc__law_same.nd) jgs_nil)))) (fun _ _ _ _ _ => jts_nil) (fun _ _ _ _ _ => (j_call ih (hr.mono (by omega)) (by rfl) T.g__law_same T.F__law_same.kp T.b__law_same takes0 (ja_cons (jv 2) (ja_cons (jv 3) ja_nil))))) ja_nil))))) js_nil)
    (js_cons (js_if (jt_tru (j_callB call_isi pok_isi (by rfl) T.z_isinstance (by decide +kernel) (ja_cons (jv 1) (ja_cons (j_ty (by rfl) T.z_str (by decide +kernel)) ja_nil)))) (js_one (js_ret (j_and (j_callB call_isi pok_isi (by rfl) T.z_isinstance (by decide +kernel) (ja_cons (jv 0) (ja_cons (j_ty (by rfl) T.z_str (by decide +kernel)) ja_nil))) (j_one (j_cmp (op_eqA hr.units) pok_eq (nomark _) (jv 0) (jv 1)))))) js_nil)
    (js_one (js_ret (j_and (j_callB call_isi pok_isi (by rfl) T.z_isinstance (by decide +kernel) (ja_cons (jv 0) (ja_cons (j_ty (by rfl) T.z_int (by decide +kernel)) ja_nil))) (j_and (j_not (j_callB call_isi pok_isi (by rfl) T.z_isinstance (by decide +kernel) (ja_cons (jv 0) (ja_cons (j_ty (by rfl) T.z_bool (by decide +kernel)) ja_nil)))) (j_one (j_cmp (op_eqA hr.units) pok_eq (nomark _) (jv 0) (jv 1)))))))))))
theorem ok_names_in (fu : Nat) : FnOk P w K mg base (L2.CX P w) 1 a_names_in d_names_in P_names_in (spD K mg 1 (F_names_in w fu)) := by
  refine fnT (N := N_names_in) (b := m_names_in w fu) T.F_names_in sc_names_in fun cdv A outer s H E hr => ?_
  have tk : Takes (cxOf (L2.CX P w) P w K mg base N_names_in "names_in" (defScope s_names_in) a_names_in cdv A outer s H E) (fun c d _ H => E c d H) := takes_of rfl rfl rfl rfl
  exact (js_cons (js_set (i := 1) sc_names_in.nd rfl (by first | exact Or.inl rfl | exact Or.inr rfl) (j_newL ja_nil))
    (js_cons (js_for (passes_of rfl) rfl (ji_seq (jv 0)) (jgn 2 sc_names_in.nd) (js_one (js_if (jw_pt (jw_and (jt_tru (j_callB call_isi pok_isi (by rfl) T.z_isinstance (by decide +kernel) (ja_cons (jv 2) (ja_cons (j_ty (by rfl) T.z_str (by decide +kernel)) ja_nil)))) (jw_and1 (jt_cmp (op_ninT (room65 hr)) pok_ninT (by rfl) (jv 2) (jv 1))))) (js_one (js_drop (j_append (jv 1) (jv 2)))) js_nil)))
    (js_one (js_ret (j_callT call_tuple_of pok_tup (by rfl) T.z_tuple (by decide +kernel) (ja_cons (jv 1) ja_nil))))))
theorem ok_names_of (fu : Nat) : FnOk P w K mg base (L2.CX P w) 2 a_names_of d_names_of P_names_of (spD K mg 1 (F_names_of w fu)) := by
  refine fnT (N := N_names_of) (b := m_names_of w fu) T.F_names_of sc_names_of fun cdv A outer s H E hr => ?_
  have tk : Takes (cxOf (L2.CX P w) P w K mg base N_names_of "names_of" (defScope s_names_of) a_names_of cdv A outer s H E) (fun c d _ H => E c d H) := takes_of rfl rfl rfl rfl
  exact (js_one (js_ret (j_call (ok_names_in T fu) (hr.mono (by decide)) (by rfl) T.g_names_in T.F_names_in.kp T.b_names_in tk (ja_cons (j_lc2 (own := [("word", 1), ("terms", 2), ("term", 3)]) (sl := [1, 2]) (sl1 := [3]) (vs1 := [3]) (by decide) (by decide) (by decide) rfl sc_names_of.nd (ji_seq (j_ix ix_seq pok_ix (fun _ _ => rfl) (jv 0) j_int)) (blkOk_by (own := [("word", 1), ("terms", 2), ("term", 3)]) (N := N_names_of) (sc := defScope s_names_of) (by decide +kernel)) (fun _ _ _ _ _ => (jg_tup rfl (jgs_cons (jgn 1 sc_names_of.nd) (jgs_cons (jgn 2 sc_names_of.nd) jgs_nil)))) (fun _ _ _ _ _ => jts_nil) (fun _ _ _ _ _ => (ji_seq (jv 2))) (fun _ _ _ _ _ => (jgn 3 sc_names_of.nd)) (fun _ _ _ _ _ => jts_nil) (fun _ _ _ _ _ => (jv 3))) ja_nil))))
theorem ok_rows_of (fu : Nat) : FnOk P w K mg base (L2.CX P w) 1 a_rows_of d_rows_of P_rows_of (spD K mg 2 (F_rows_of w fu)) := by
  refine fnT (N := N_rows_of) (b := m_rows_of w fu) T.F_rows_of sc_rows_of fun cdv A outer s H E hr => ?_
  have tk : Takes (cxOf (L2.CX P w) P w K mg base N_rows_of "rows_of" (defScope s_rows_of) a_rows_of cdv A outer s H E) (fun c d _ H => E c d H) := takes_of rfl rfl rfl rfl
  exact (js_one (js_ret (j_ix ix_seq pok_ix (fun _ _ => rfl) (j_lc (own := [("name", 2), ("width", 3), ("rows", 4)]) (sl := [2, 3, 4]) (by decide) rfl sc_rows_of.nd (ji_seq (jv 0)) (blkOk_by (own := [("name", 2), ("width", 3), ("rows", 4)]) (N := N_rows_of) (sc := defScope s_rows_of) (by decide +kernel)) (fun _ _ _ _ _ => (jg_tup rfl (jgs_cons (jgn 2 sc_rows_of.nd) (jgs_cons (jgn 3 sc_rows_of.nd) (jgs_cons (jgn 4 sc_rows_of.nd) jgs_nil))))) (fun _ _ _ _ _ => (jts_one (jt_cmp (op_eqA hr.units) pok_eq (nomark _) (jv 2) (jv 1)))) (fun _ _ _ _ _ => (jv 4))) j_int)))
theorem ok_matched (fu : Nat) : FnOk P w K mg base (L2.CX P w) 1 a_matched d_matched P_matched (spD K mg 3 (F_matched w fu)) := by
  refine fnT (N := N_matched) (b := m_matched w fu) T.F_matched sc_matched fun cdv A outer s H E hr => ?_
  have tk : Takes (cxOf (L2.CX P w) P w K mg base N_matched "matched" (defScope s_matched) a_matched cdv A outer s H E) (fun c d _ H => E c d H) := takes_of rfl rfl rfl rfl
  exact (js_cons (js_setDcItems (i := 2) (j := 3) (nw := true) (own := [("name", 4), ("value", 5)]) (sl := [4, 5]) (by decide) rfl sc_matched.nd rfl rfl (swd_true rfl rfl rfl (by decide +kernel)) rfl (by first | exact Or.inl rfl | exact Or.inr (Or.inl rfl) | exact Or.inr (Or.inr rfl)) (blkOk_by (own := [("name", 4), ("value", 5)]) (N := N_matched) (sc := defScope s_matched) (by decide +kernel)) (fun _ _ _ _ _ => (jg_tup rfl (jgs_cons (jgn 4 sc_matched.nd) (jgs_cons (jgn 5 sc_matched.nd) jgs_nil)))) (fun _ _ _ _ _ => jts_nil) (fun _ _ _ _ _ => (jv 4)) (fun _ _ _ _ _ => (jv 5)))
    (js_cons (js_for (passes_of rfl) rfl (ji_zip (by rfl) T.z_zip (ja_cons (jv 0) (ja_cons (jv 1) ja_nil))) (jg_tup rfl (jgs_cons (jgn 6 sc_matched.nd) (jgs_cons (jgn 5 sc_matched.nd) jgs_nil))) (js_one (js_if (jt_if (jt_tru (j_callB call_isi pok_isi (by rfl) T.z_isinstance (by decide +kernel) (ja_cons (jv 6) (ja_cons (j_ty (by rfl) T.z_str (by decide +kernel)) ja_nil)))) (jt_cmp (op_neA hr.units) pok_ne (nomark _) (j_setdef (jv 3) (jv 6) (jv 5) ⟨rfl, rfl, rfl, rfl⟩) (jv 5)) (jt_cmp (op_neA hr.units) pok_ne (nomark _) (jv 6) (jv 5))) (js_one (js_ret j_non)) js_nil)))
    (js_one (js_ret (jv 3)))))
theorem ok_value_of (fu : Nat) : FnOk P w K mg base (L2.CX P w) 1 a_value_of d_value_of P_value_of (spD K mg 2 (F_value_of w fu)) := by
  refine fnT (N := N_value_of) (b := m_value_of w fu) T.F_value_of sc_value_of fun cdv A outer s H E hr => ?_
  have tk : Takes (cxOf (L2.CX P w) P w K mg base N_value_of "value_of" (defScope s_value_of) a_value_of cdv A outer s H E) (fun c d _ H => E c d H) := takes_of rfl rfl rfl rfl
  exact (js_one (js_ret (j_if (jt_tru (j_callB call_isi pok_isi (by rfl) T.z_isinstance (by decide +kernel) (ja_cons (jv 0) (ja_cons (j_ty (by rfl) T.z_str (by decide +kernel)) ja_nil)))) (j_dget (Nat.lt_of_succ_lt (room65 hr)) (fun _ _ => rfl) (jv 1) (jv 0)) (jv 0))))
theorem ok_check_holds (fu : Nat) : FnOk P w K mg base (L2.CX P w) 2 a_check_holds d_check_holds P_check_holds (spD K mg 2 (F_check_holds w fu)) := by
  refine fnT (N := N_check_holds) (b := m_check_holds w fu) T.F_check_holds sc_check_holds fun cdv A outer s H E hr => ?_
  have tk : Takes (cxOf (L2.CX P w) P w K mg base N_check_holds "check_holds" (defScope s_check_holds) a_check_holds cdv A outer s H E) (fun c d _ H => E c d H) := takes_of rfl rfl rfl rfl
  exact (js_cons (js_asg (jv 0) (jg_tup rfl (jgs_cons (jgn 2 sc_check_holds.nd) (jgs_cons (jgn 3 sc_check_holds.nd) (jgs_cons (jgn 4 sc_check_holds.nd) jgs_nil)))))
    (js_cons (js_par (i := 5) (j := 6) rfl sc_check_holds.nd rfl rfl (by decide) rfl rfl (ja_cons (j_call (ok_value_of T fu) (hr.mono (by decide)) (by rfl) T.g_value_of T.F_value_of.kp T.b_value_of tk (ja_cons (jv 3) (ja_cons (jv 1) ja_nil))) (ja_cons (j_call (ok_value_of T fu) (hr.mono (by decide)) (by rfl) T.g_value_of T.F_value_of.kp T.b_value_of tk (ja_cons (jv 4) (ja_cons (jv 1) ja_nil))) ja_nil)) (by rfl))
    (js_one (js_ret (j_if (jt_cmp (op_eqA hr.units) pok_eq (nomark _) (jv 2) j_str) (j_cmp op_ltA pok_lt (nomark _) (jv 5) (jv 6)) (j_cmp (op_neA hr.units) pok_ne (nomark _) (jv 5) (jv 6)))))))
theorem ok_answers (fu : Nat) : FnOk P w K mg base (L2.CX P w) 3 a_answers d_answers P_answers (spD K mg 2 (F_answers w fu)) := by
  refine fnT (N := N_answers) (b := m_answers w fu) T.F_answers sc_answers fun cdv A outer s H E hr => ?_
  have tk : Takes (cxOf (L2.CX P w) P w K mg base N_answers "answers" (defScope s_answers) a_answers cdv A outer s H E) (fun c d _ H => E c d H) := takes_of rfl rfl rfl rfl
  exact (js_cons (js_set (i := 2) sc_answers.nd rfl (by first | exact Or.inl rfl | exact Or.inr rfl) (j_lst (ja_cons j_dct0 ja_nil)))
    (js_cons (js_for (passes_of rfl) rfl (ji_seq (j_ix ix_seq pok_ix (fun _ _ => rfl) (jv 1) j_int)) (jg_tup rfl (jgs_cons (jgn 4 sc_answers.nd) (jgs_cons (jgn 5 sc_answers.nd) jgs_nil))) (js_cons (js_set (i := 6) sc_answers.nd rfl (by first | exact Or.inl rfl | exact Or.inr rfl) (j_call (ok_rows_of T fu) (hr.mono (by decide)) (by rfl) T.g_rows_of T.F_rows_of.kp T.b_rows_of tk (ja_cons (jv 0) (ja_cons (jv 4) ja_nil))))
    (js_cons (js_setLc2 (i := 2) (own := [("given", 7), ("row", 8)]) (sl := [7]) (sl1 := [8]) (vs1 := [8]) (by decide) (by decide) (by decide) rfl sc_answers.nd rfl rfl (sw_true rfl rfl rfl (by decide +kernel)) (ji_seq (jv 2)) (blkOk_by (own := [("given", 7), ("row", 8)]) (N := N_answers) (sc := defScope s_answers) (by decide +kernel)) (fun _ _ _ _ _ => (jgn 7 sc_answers.nd)) (fun _ _ _ _ _ => jts_nil) (fun _ _ _ _ _ => (ji_seq (jv 6))) (fun _ _ _ _ _ => (jgn 8 sc_answers.nd)) (fun _ _ _ _ _ => jts_nil) (fun _ _ _ _ _ => (j_call (ok_matched T fu) (hr.mono (by decide)) (by rfl) T.g_matched T.F_matched.kp T.b_matched takes0 (ja_cons (jv 5) (ja_cons (jv 8) (ja_cons (jv 7) ja_nil))))))
    (js_one (js_setLc (i := 2) (own := [("given", 7)]) (sl := [7]) (by decide) rfl sc_answers.nd rfl rfl (sw_true rfl rfl rfl (by decide +kernel)) (ji_seq (jv 2)) (blkOk_by (own := [("given", 7)]) (N := N_answers) (sc := defScope s_answers) (by decide +kernel)) (fun _ _ _ _ _ => (jgn 7 sc_answers.nd)) (fun _ _ _ _ _ => (jts_one (jt_cmp op_notN pok_notN (nomark _) (jv 7) j_non))) (fun _ _ _ _ _ => (jv 7)))))))
    (js_cons (js_set (i := 3) sc_answers.nd rfl (by first | exact Or.inl rfl | exact Or.inr rfl) (j_call (ok_names_of T fu) (hr.mono (by decide)) (by rfl) T.g_names_of T.F_names_of.kp T.b_names_of tk (ja_cons (jv 1) ja_nil)))
    (js_cons (js_setLc (i := 2) (own := [("given", 7)]) (sl := [7]) (by decide) rfl sc_answers.nd rfl rfl (sw_true rfl rfl rfl (by decide +kernel)) (ji_seq (jv 2)) (blkOk_by (own := [("given", 7)]) (N := N_answers) (sc := defScope s_answers) (by decide +kernel)) (fun _ _ _ _ _ => (jgn 7 sc_answers.nd)) (fun _ _ _ _ _ => (jts_one (jt_tru (j_callB (cr_all rfl) pok_all (by rfl) T.z_all (by decide +kernel) (ja_cons (j_lc (own := [("check", 9)]) (sl := [9]) (by decide) rfl sc_answers.nd (ji_seq (j_ix ix_seq pok_ix (fun _ _ => rfl) (jv 1) j_int)) (blkOk_by (own := [("check", 9)]) (by kernel_rfl)) (fun _ _ _ _ _ => (jgn 9 sc_answers.nd)) (fun _ _ _ _ _ => jts_nil) (fun _ _ _ _ _ => (j_call (ok_check_holds T fu) (hr.mono (by decide)) (by rfl) T.g_check_holds T.F_check_holds.kp T.b_check_holds takes0 (ja_cons (jv 9) (ja_cons (jv 7) ja_nil))))) ja_nil))))) (fun _ _ _ _ _ => (jv 7)))
    (js_one (js_ret (j_callT call_tuple_of pok_tup (by rfl) T.z_tuple (by decide +kernel) (ja_cons (j_sortSc (own := [("given", 7)]) (sl := [7]) (by decide) rfl (room65 hr) sc_answers.nd (by rfl) T.z_sorted (ji_seq (jv 2)) (blkOk_by (own := [("given", 7)]) (N := N_answers) (sc := defScope s_answers) (by decide +kernel)) (fun _ _ _ _ _ => (jgn 7 sc_answers.nd)) (fun _ _ _ _ _ => jts_nil) (fun _ _ _ _ _ => (j_callT call_tuple_of pok_tup (by rfl) T.z_tuple (by decide +kernel) (ja_cons (j_lc (own := [("name", 10)]) (sl := [10]) (by decide) rfl sc_answers.nd (ji_seq (jv 3)) (blkOk_by (own := [("name", 10)]) (by kernel_rfl)) (fun _ _ _ _ _ => (jgn 10 sc_answers.nd)) (fun _ _ _ _ _ => jts_nil) (fun _ _ _ _ _ => (j_dget (Nat.lt_of_succ_lt (room65 hr)) (fun _ _ => rfl) (jv 7) (jv 10)))) ja_nil)))) ja_nil))))))))
theorem ok_ask_of (fu : Nat) : FnOk P w K mg base (L2.CX P w) 1 a_ask_of d_ask_of P_ask_of (spD K mg 1 (F_ask_of w fu)) := by
  refine fnT (N := N_ask_of) (b := m_ask_of w fu) T.F_ask_of sc_ask_of fun cdv A outer s H E hr => ?_
  have tk : Takes (cxOf (L2.CX P w) P w K mg base N_ask_of "ask_of" (defScope s_ask_of) a_ask_of cdv A outer s H E) (fun c d _ H => E c d H) := takes_of rfl rfl rfl rfl
  exact (js_one (js_ret (j_tup (ja_cons (j_ix ix_seq pok_ix (fun _ _ => rfl) (jv 0) j_int) (ja_cons (j_tup ja_nil) ja_nil)))))
theorem ok_put (fu : Nat) : FnOk P w K mg base (L2.CX P w) 1 a_put d_put P_put (spD K mg 2 (F_put w fu)) := by
  refine fnT (N := N_put) (b := m_put w fu) T.F_put sc_put fun cdv A outer s H E hr => ?_
  have tk : Takes (cxOf (L2.CX P w) P w K mg base N_put "put" (defScope s_put) a_put cdv A outer s H E) (fun c d _ H => E c d H) := takes_of rfl rfl rfl rfl
  exact (js_one (js_ret (j_callT call_tuple_of pok_tup (by rfl) T.z_tuple (by decide +kernel) (ja_cons (j_lc (own := [("term", 2)]) (sl := [2]) (by decide) rfl sc_put.nd (ji_seq (jv 0)) (blkOk_by (own := [("term", 2)]) (N := N_put) (sc := defScope s_put) (by decide +kernel)) (fun _ _ _ _ _ => (jgn 2 sc_put.nd)) (fun _ _ _ _ _ => jts_nil) (fun _ _ _ _ _ => (j_if (jt_tru (j_callB call_isi pok_isi (by rfl) T.z_isinstance (by decide +kernel) (ja_cons (jv 2) (ja_cons (j_ty (by rfl) T.z_str (by decide +kernel)) ja_nil)))) (j_dget (Nat.lt_of_succ_lt (room65 hr)) (fun _ _ => rfl) (jv 1) (jv 2)) (jv 2)))) ja_nil))))
theorem ok_amounts_of (fu : Nat) : FnOk P w K mg base (L2.CX P w) 3 a_amounts_of d_amounts_of P_amounts_of (spD K mg 3 (F_amounts_of w fu)) := by
  refine fnT (N := N_amounts_of) (b := m_amounts_of w fu) T.F_amounts_of sc_amounts_of fun cdv A outer s H E hr => ?_
  have tk : Takes (cxOf (L2.CX P w) P w K mg base N_amounts_of "amounts_of" (defScope s_amounts_of) a_amounts_of cdv A outer s H E) (fun c d _ H => E c d H) := takes_of rfl rfl rfl rfl
  exact (js_cons (js_set (i := 3) sc_amounts_of.nd rfl (by first | exact Or.inl rfl | exact Or.inr rfl) (j_dc (nw := false) (own := [("name", 5), ("value", 6)]) (sl := [5, 6]) (by decide) rfl sc_amounts_of.nd (ji_zip (by rfl) T.z_zip (ja_cons (j_call (ok_names_of T fu) (hr.mono (by decide)) (by rfl) T.g_names_of T.F_names_of.kp T.b_names_of tk (ja_cons (j_call (ok_ask_of T fu) (hr.mono (by decide)) (by rfl) T.g_ask_of T.F_ask_of.kp T.b_ask_of tk (ja_cons (jv 0) ja_nil)) ja_nil)) (ja_cons (jv 1) ja_nil))) (blkOk_by (own := [("name", 5), ("value", 6)]) (N := N_amounts_of) (sc := defScope s_amounts_of) (by decide +kernel)) (fun _ _ _ _ _ => (jg_tup rfl (jgs_cons (jgn 5 sc_amounts_of.nd) (jgs_cons (jgn 6 sc_amounts_of.nd) jgs_nil)))) (fun _ _ _ _ _ => jts_nil) (fun _ _ _ _ _ => (jv 5)) (fun _ _ _ _ _ => (jv 6))))
    (js_cons (js_setLc (i := 4) (own := [("word", 7), ("terms", 8)]) (sl := [7, 8]) (by decide) rfl sc_amounts_of.nd rfl rfl (sw_true rfl rfl rfl (by decide +kernel)) (ji_seq (j_ix ix_seq pok_ix (fun _ _ => rfl) (jv 0) j_int)) (blkOk_by (own := [("word", 7), ("terms", 8)]) (N := N_amounts_of) (sc := defScope s_amounts_of) (by decide +kernel)) (fun _ _ _ _ _ => (jg_tup rfl (jgs_cons (jgn 7 sc_amounts_of.nd) (jgs_cons (jgn 8 sc_amounts_of.nd) jgs_nil)))) (fun _ _ _ _ _ => jts_nil) (fun _ _ _ _ _ => (j_tup (ja_cons (jv 7) (ja_cons (j_callT call_tuple_of pok_tup (by rfl) T.z_tuple (by decide +kernel) (ja_cons (j_lc (own := [("term", 10)]) (sl := [10]) (by decide) rfl sc_amounts_of.nd (ji_seq (jv 8)) (blkOk_by (own := [("term", 10)]) (by kernel_rfl)) (fun _ _ _ _ _ => (jgn 10 sc_amounts_of.nd)) (fun _ _ _ _ _ => jts_nil) (fun _ _ _ _ _ => (j_call (ok_value_of T fu) (hr.mono (by decide)) (by rfl) T.g_value_of T.F_value_of.kp T.b_value_of takes0 (ja_cons (jv 10) (ja_cons (jv 3) ja_nil))))) ja_nil)) ja_nil)))))
    (js_one (js_ret (j_lc (own := [("row", 9)]) (sl := [9]) (by decide) rfl sc_amounts_of.nd (ji_seq (jv 4)) (blkOk_by (own := [("row", 9)]) (N := N_amounts_of) (sc := defScope s_amounts_of) (by decide +kernel)) (fun _ _ _ _ _ => (jgn 9 sc_amounts_of.nd)) (fun _ _ _ _ _ => jts_nil) (fun _ _ _ _ _ => (j_getPr (Nat.lt_of_succ_lt (room65 hr)) (jv 2) (jv 9) j_int ⟨rfl, rfl, rfl, rfl⟩)))))))
theorem ok_heads_of (fu : Nat) : FnOk P w K mg base (L2.CX P w) 4 a_heads_of d_heads_of P_heads_of (spD K mg 3 (F_heads_of w fu)) := by
  refine fnT (N := N_heads_of) (b := m_heads_of w fu) T.F_heads_of sc_heads_of fun cdv A outer s H E hr => ?_
  have tk : Takes (cxOf (L2.CX P w) P w K mg base N_heads_of "heads_of" (defScope s_heads_of) a_heads_of cdv A outer s H E) (fun c d _ H => E c d H) := takes_of rfl rfl rfl rfl
  exact (js_cons (js_setDcP (j := 3) (nw := false) (own := [("word", 5), ("row", 6), ("number", 7)]) (sl := [5, 6, 7]) (by decide) rfl (room65 hr) sc_heads_of.nd rfl rfl (swd_true rfl rfl rfl (by decide +kernel)) (ji_seq (jv 2)) (blkOk_by (own := [("word", 5), ("row", 6), ("number", 7)]) (N := N_heads_of) (sc := defScope s_heads_of) (by decide +kernel)) (fun _ _ _ _ _ => (jg_tup rfl (jgs_cons (jgn 5 sc_heads_of.nd) (jgs_cons (jgn 6 sc_heads_of.nd) (jgs_cons (jgn 7 sc_heads_of.nd) jgs_nil))))) (fun _ _ _ _ _ => jts_nil) (fun _ _ _ _ _ => (j_tup (ja_cons (jv 5) (ja_cons (jv 6) ja_nil)))) (fun _ _ _ _ _ => (jv 7)))
    (js_cons (js_par (i := 8) (j := 9) rfl sc_heads_of.nd rfl rfl (by decide) rfl rfl (ja_cons (j_call (ok_names_of T fu) (hr.mono (by decide)) (by rfl) T.g_names_of T.F_names_of.kp T.b_names_of tk (ja_cons (j_call (ok_ask_of T fu) (hr.mono (by decide)) (by rfl) T.g_ask_of T.F_ask_of.kp T.b_ask_of tk (ja_cons (jv 1) ja_nil)) ja_nil)) (ja_cons j_newDT0 ja_nil)) (by rfl))
    (js_cons (js_for (passes_of rfl) rfl (ji_seq (j_call (ok_answers T fu) (hr.mono (by decide)) (by rfl) T.g_answers T.F_answers.kp T.b_answers tk (ja_cons (jv 0) (ja_cons (j_call (ok_ask_of T fu) (hr.mono (by decide)) (by rfl) T.g_ask_of T.F_ask_of.kp T.b_ask_of tk (ja_cons (jv 1) ja_nil)) ja_nil)))) (jgn 4 sc_heads_of.nd) (js_cons (js_set (i := 10) sc_heads_of.nd rfl (by first | exact Or.inl rfl | exact Or.inr rfl) (j_call (ok_put T fu) (hr.mono (by decide)) (by rfl) T.g_put T.F_put.kp T.b_put tk (ja_cons (j_ix ix_seq pok_ix (fun _ _ => rfl) (jv 1) j_int) (ja_cons (j_dc (nw := false) (own := [("name", 11), ("value", 12)]) (sl := [11, 12]) (by decide) rfl sc_heads_of.nd (ji_zip (by rfl) T.z_zip (ja_cons (jv 8) (ja_cons (jv 4) ja_nil))) (blkOk_by (own := [("name", 11), ("value", 12)]) (N := N_heads_of) (sc := defScope s_heads_of) (by decide +kernel)) (fun _ _ _ _ _ => (jg_tup rfl (jgs_cons (jgn 11 sc_heads_of.nd) (jgs_cons (jgn 12 sc_heads_of.nd) jgs_nil)))) (fun _ _ _ _ _ => jts_nil) (fun _ _ _ _ _ => (jv 11)) (fun _ _ _ _ _ => (jv 12))) ja_nil))))
    (js_one (js_drop (j_append (j_setdefT (Nat.lt_of_succ_lt (room65 hr)) (jv 9) (jv 10) (j_newL ja_nil) ⟨rfl, rfl, rfl, rfl⟩) (j_call (ok_amounts_of T fu) (hr.mono (by decide)) (by rfl) T.g_amounts_of T.F_amounts_of.kp T.b_amounts_of tk (ja_cons (jv 1) (ja_cons (jv 4) (ja_cons (jv 3) ja_nil)))))))))
    (js_one (js_ret (jv 9))))))
theorem ok_product_of (fu : Nat) : FnOk P w K mg base (L2.CX P w) 1 a_product_of d_product_of P_product_of (spD K mg 1 (F_product_of w fu)) := by
  refine fnT (N := N_product_of) (b := m_product_of w fu) T.F_product_of sc_product_of fun cdv A outer s H E hr => ?_
  have tk : Takes (cxOf (L2.CX P w) P w K mg base N_product_of "product_of" (defScope s_product_of) a_product_of cdv A outer s H E) (fun c d _ H => E c d H) := takes_of rfl rfl rfl rfl
  exact (js_cons (js_set (i := 1) sc_product_of.nd rfl (by first | exact Or.inl rfl | exact Or.inr rfl) j_int)
    (js_cons (js_for (passes_of rfl) rfl (ji_seq (jv 0)) (jgn 2 sc_product_of.nd) (js_one (js_set (i := 1) sc_product_of.nd rfl (by first | exact Or.inl rfl | exact Or.inr rfl) (j_bin op_mulA pok_mul (jv 1) (jv 2)))))
    (js_one (js_ret (jv 1)))))
theorem ok_summed (fu : Nat) : FnOk P w K mg base (L2.CX P w) 5 a_summed d_summed P_summed (spD K mg 3 (F_summed w fu)) := by
  refine fnT (N := N_summed) (b := m_summed w fu) T.F_summed sc_summed fun cdv A outer s H E hr => ?_
  have tk : Takes (cxOf (L2.CX P w) P w K mg base N_summed "summed" (defScope s_summed) a_summed cdv A outer s H E) (fun c d _ H => E c d H) := takes_of rfl rfl rfl rfl
  exact (js_cons (js_set (i := 3) sc_summed.nd rfl (by first | exact Or.inl rfl | exact Or.inr rfl) (j_call (ok_heads_of T fu) (hr.mono (by decide)) (by rfl) T.g_heads_of T.F_heads_of.kp T.b_heads_of tk (ja_cons (jv 0) (ja_cons (jv 1) (ja_cons (jv 2) ja_nil)))))
    (js_one (js_ret (j_callT call_tuple_of pok_tup (by rfl) T.z_tuple (by decide +kernel) (ja_cons (j_lc (own := [("row", 4)]) (sl := [4]) (by decide) rfl sc_summed.nd (ji_seq (j_callB (cr_sortDT rfl) pok_sortDT (by rfl) T.z_sorted (by decide +kernel) (ja_cons (jv 3) ja_nil))) (blkOk_by (own := [("row", 4)]) (N := N_summed) (sc := defScope s_summed) (by decide +kernel)) (fun _ _ _ _ _ => (jgn 4 sc_summed.nd)) (fun _ _ _ _ _ => jts_nil) (fun _ _ _ _ _ => (j_tup (ja_cons (jv 4) (ja_cons (j_callB (cr_sum rfl) pok_sum (by rfl) T.z_sum (by decide +kernel) (ja_cons (j_lc (own := [("numbers", 5)]) (sl := [5]) (by decide) rfl sc_summed.nd (ji_seq (j_dgetT (Nat.lt_of_succ_lt (room65 hr)) (fun _ _ => rfl) (jv 3) (jv 4))) (blkOk_by (own := [("numbers", 5)]) (by kernel_rfl)) (fun _ _ _ _ _ => (jgn 5 sc_summed.nd)) (fun _ _ _ _ _ => jts_nil) (fun _ _ _ _ _ => (j_call (ok_product_of T fu) (hr.mono (by decide)) (by rfl) T.g_product_of T.F_product_of.kp T.b_product_of takes0 (ja_cons (jv 5) ja_nil)))) ja_nil)) ja_nil))))) ja_nil)))))
theorem ok_greatest (fu : Nat) : FnOk P w K mg base (L2.CX P w) 5 a_greatest d_greatest P_greatest (spD K mg 3 (F_greatest w fu)) := by
  refine fnT (N := N_greatest) (b := m_greatest w fu) T.F_greatest sc_greatest fun cdv A outer s H E hr => ?_
  have tk : Takes (cxOf (L2.CX P w) P w K mg base N_greatest "greatest" (defScope s_greatest) a_greatest cdv A outer s H E) (fun c d _ H => E c d H) := takes_of rfl rfl rfl rfl
  exact (js_cons (js_set (i := 3) sc_greatest.nd rfl (by first | exact Or.inl rfl | exact Or.inr rfl) (j_call (ok_heads_of T fu) (hr.mono (by decide)) (by rfl) T.g_heads_of T.F_heads_of.kp T.b_heads_of tk (ja_cons (jv 0) (ja_cons (jv 1) (ja_cons (jv 2) ja_nil)))))
    (js_one (js_ret (j_callT call_tuple_of pok_tup (by rfl) T.z_tuple (by decide +kernel) (ja_cons (j_lc (own := [("row", 4)]) (sl := [4]) (by decide) rfl sc_greatest.nd (ji_seq (j_callB (cr_sortDT rfl) pok_sortDT (by rfl) T.z_sorted (by decide +kernel) (ja_cons (jv 3) ja_nil))) (blkOk_by (own := [("row", 4)]) (N := N_greatest) (sc := defScope s_greatest) (by decide +kernel)) (fun _ _ _ _ _ => (jgn 4 sc_greatest.nd)) (fun _ _ _ _ _ => jts_nil) (fun _ _ _ _ _ => (j_tup (ja_cons (jv 4) (ja_cons (j_callB (cr_max rfl) pok_max (by rfl) T.z_max (by decide +kernel) (ja_cons (j_lc (own := [("numbers", 5)]) (sl := [5]) (by decide) rfl sc_greatest.nd (ji_seq (j_dgetT (Nat.lt_of_succ_lt (room65 hr)) (fun _ _ => rfl) (jv 3) (jv 4))) (blkOk_by (own := [("numbers", 5)]) (by kernel_rfl)) (fun _ _ _ _ _ => (jgn 5 sc_greatest.nd)) (fun _ _ _ _ _ => jts_nil) (fun _ _ _ _ _ => (j_callB (cr_sum rfl) pok_sum (by rfl) T.z_sum (by decide +kernel) (ja_cons (jv 5) ja_nil)))) ja_nil)) ja_nil))))) ja_nil)))))
theorem ok_best (fu : Nat) : FnOk P w K mg base (L2.CX P w) 6 a_best d_best P_best (spD K mg 3 (F_best w fu)) := by
  refine fnTC (N := N_best) (b := m_best w fu) T.F_best sc_best fun A outer s H E hr => ?_
  have tk : Takes (cxOf (L2.CX P w) P w K mg base N_best "best" (defScope s_best) a_best d_best.code A outer s H E) (fun c d _ H => E c d H) := takes_of rfl rfl rfl rfl
  exact (js_cons (js_set (i := 3) sc_best.nd rfl (by first | exact Or.inl rfl | exact Or.inr rfl) (j_call (ok_greatest T fu) (hr.mono (by decide)) (by rfl) T.g_greatest T.F_greatest.kp T.b_greatest tk (ja_cons (jv 0) (ja_cons (jv 1) (ja_cons (jv 2) ja_nil)))))
    (js_one (js_ret (j_if (jt_tru (jv 3)) (j_maxLam T.t_best T.u_best T.c_best rfl hr (by rfl) T.z_max (by decide +kernel) (ja_cons (jv 3) ja_nil) rfl rfl rfl rfl (by decide +kernel) rfl (by decide +kernel) (fun _ _ _ _ _ => rfl)) j_non))))
theorem ok_law (fu : Nat) : FnOk P w K mg base (L2.CX P w) 8 a_law d_law P_law (spD K mg 1 (F_law w fu)) := by
  refine fnT (N := N_law) (b := m_law w fu) T.F_law sc_law fun cdv A outer s H E hr => ?_
  have tk : Takes (cxOf (L2.CX P w) P w K mg base N_law "law" (defScope s_law) a_law cdv A outer s H E) (fun c d _ H => E c d H) := takes_of rfl rfl rfl rfl
  exact (js_cons (js_set (i := 1) sc_law.nd rfl (by first | exact Or.inl rfl | exact Or.inr rfl) (j_newL ja_nil))
    (js_cons (js_for (passes_of rfl) rfl (ji_rng1 (by rfl) T.z_range (ja_cons j_int ja_nil)) (jgn 2 sc_law.nd) (js_cons (js_set (i := 3) sc_law.nd rfl (by first | exact Or.inl rfl | exact Or.inr rfl) (j_call (ok__law_drawn_book T fu) (hr.mono (by decide)) (by rfl) T.g__law_drawn_book T.F__law_drawn_book.kp T.b__law_drawn_book tk (ja_cons (jv 0) (ja_cons (jv 1) (ja_cons j_int (ja_cons j_int ja_nil))))))
    (js_cons (js_set (i := 4) sc_law.nd rfl (by first | exact Or.inl rfl | exact Or.inr rfl) (j_call (ok__law_drawn_view T fu) (hr.mono (by decide)) (by rfl) T.g__law_drawn_view T.F__law_drawn_view.kp T.b__law_drawn_view tk (ja_cons (jv 0) (ja_cons (jv 1) (ja_cons j_int (ja_cons (j_lc (own := [("word", 8), ("width", 14), ("rows", 15)]) (sl := [8, 14, 15]) (by decide) rfl sc_law.nd (ji_seq (jv 3)) (blkOk_by (own := [("word", 8), ("width", 14), ("rows", 15)]) (N := N_law) (sc := defScope s_law) (by decide +kernel)) (fun _ _ _ _ _ => (jg_tup rfl (jgs_cons (jgn 8 sc_law.nd) (jgs_cons (jgn 14 sc_law.nd) (jgs_cons (jgn 15 sc_law.nd) jgs_nil))))) (fun _ _ _ _ _ => jts_nil) (fun _ _ _ _ _ => (j_tup (ja_cons (jv 8) (ja_cons (jv 14) ja_nil))))) ja_nil))))))
    (js_cons (js_set (i := 5) sc_law.nd rfl (by first | exact Or.inl rfl | exact Or.inr rfl) (j_call (ok__law_drawn_amounts T fu) (hr.mono (by decide)) (by rfl) T.g__law_drawn_amounts T.F__law_drawn_amounts.kp T.b__law_drawn_amounts tk (ja_cons (jv 0) (ja_cons (jv 1) (ja_cons (jv 3) ja_nil)))))
    (js_cons (js_set (i := 6) sc_law.nd rfl (by first | exact Or.inl rfl | exact Or.inr rfl) j_newPr0)
    (js_cons (js_for (passes_of rfl) rfl (ji_seq (jv 5)) (jg_tup rfl (jgs_cons (jgn 8 sc_law.nd) (jgs_cons (jgn 9 sc_law.nd) (jgs_cons (jgn 10 sc_law.nd) jgs_nil)))) (js_one (js_dputP (Nat.lt_of_succ_lt (room65 hr)) (jv 10) (jv 6) (j_tup (ja_cons (jv 8) (ja_cons (jv 9) ja_nil))))))
    (js_cons (js_asg (j_call (ok__law_tables T fu) (hr.mono (by decide)) (by rfl) T.g__law_tables T.F__law_tables.kp T.b__law_tables tk (ja_cons (jv 3) (ja_cons (jv 4) (ja_cons (jv 6) ja_nil)))) (jg_tup rfl (jgs_cons (jgn 11 sc_law.nd) (jgs_cons (jgn 12 sc_law.nd) jgs_nil))))
    (js_cons (js_if (jt_not (jt_tru (j_call (ok__law_same T fu 6) (hr.mono (by decide)) (by rfl) T.g__law_same T.F__law_same.kp T.b__law_same tk (ja_cons (j_call (ok_summed T fu) (hr.mono (by decide)) (by rfl) T.g_summed T.F_summed.kp T.b_summed tk (ja_cons (jv 3) (ja_cons (jv 4) (ja_cons (jv 5) ja_nil)))) (ja_cons (jv 11) ja_nil))))) (js_one (js_ret j_bl)) js_nil)
    (js_cons (js_if (jt_not (jt_tru (j_call (ok__law_same T fu 6) (hr.mono (by decide)) (by rfl) T.g__law_same T.F__law_same.kp T.b__law_same tk (ja_cons (j_call (ok_greatest T fu) (hr.mono (by decide)) (by rfl) T.g_greatest T.F_greatest.kp T.b_greatest tk (ja_cons (jv 3) (ja_cons (jv 4) (ja_cons (jv 5) ja_nil)))) (ja_cons (jv 12) ja_nil))))) (js_one (js_ret j_bl)) js_nil)
    (js_cons (js_set (i := 7) sc_law.nd rfl (by first | exact Or.inl rfl | exact Or.inr rfl) j_non)
    (js_cons (js_for (passes_of rfl) rfl (ji_seq (jv 12)) (jg_tup rfl (jgs_cons (jgn 9 sc_law.nd) (jgs_cons (jgn 13 sc_law.nd) jgs_nil))) (js_one (js_set (i := 7) sc_law.nd rfl (by first | exact Or.inl rfl | exact Or.inr rfl) (j_if (jw_pt (jw_or (jt_cmp op_isN pok_isN (nomark _) (jv 7) j_non) (jw_or1 (jt_cmp op_gt pok_gt (nomark _) (jv 13) (j_ix ix_seq pok_ix (fun _ _ => rfl) (jv 7) j_int))))) (j_tup (ja_cons (jv 9) (ja_cons (jv 13) ja_nil))) (jv 7)))))
    (js_one (js_if (jt_not (jt_tru (j_call (ok__law_same T fu 6) (hr.mono (by decide)) (by rfl) T.g__law_same T.F__law_same.kp T.b__law_same tk (ja_cons (j_call (ok_best T fu) (hr.mono (by decide)) (by rfl) T.g_best T.F_best.kp T.b_best tk (ja_cons (jv 3) (ja_cons (jv 4) (ja_cons (jv 5) ja_nil)))) (ja_cons (jv 7) ja_nil))))) (js_one (js_ret j_bl)) js_nil)))))))))))))
    (js_one (js_ret j_bl))))
end
end Law
namespace Dv
open PySem L2
theorem loop_step {gm : D → Env → Option Env} {b : SM} {t : D} {ts : List D} {r r1 r2 : Env} {S S2 : Store} (e1 : gm t r = some r1) (e2 : b r1 S = .ok .next r2 S2) : sLoop gm b (t :: ts) r S = sLoop gm b ts r2 S2 := by
  rw [sLoop_cons, e1]
  simp only [e2]
theorem loop_out {gm : D → Env → Option Env} {b : SM} {t x : D} {ts : List D} {r r1 r2 : Env} {S S2 : Store} (e1 : gm t r = some r1) (e2 : b r1 S = .ok (.ret x) r2 S2) : sLoop gm b (t :: ts) r S = .ok (.ret x) r2 S2 := by
  rw [sLoop_cons, e1]
  simp only [e2]
theorem last_at {S : Store} (o : O) : (S ++ [o])[S.length]? = some o := by simp
theorem last_set {S : Store} (o o' : O) : (S ++ [o]).set S.length o' = S ++ [o'] := by simp
theorem seq_ok {S S1 : Store} {a b : SM} {r r1 : Env} (h : a r S = .ok .next r1 S1) : sSeq a b r S = b r1 S1 := by
  rw [sSeq_ap, h]
theorem fn_ret {S : Store} {sz : Nat} {m : SM} {ds : List D} {b : D} (hb : clo S.length b = true) (h : ∃ rho, m (frame sz ds) S = .ok (.ret b) rho S) : runT sz m ds S = .ok b S := by
  obtain ⟨rho, h⟩ := h
  show finT S (m (frame sz ds) S) = _
  rw [h]
  exact fin_ret0 hb
theorem cut_drop {α : Type} (xs : List α) (j : Nat) (h : j ≤ xs.length) : cutL xs (some (j : Int)) none = xs.drop j := by
  unfold cutL
  rw [HT.sIx_none, HT.sIx_nat, Nat.min_eq_left h]
  exact List.take_of_length_le (by simp)
theorem cut_take {α : Type} (xs : List α) (j : Nat) : cutL xs none (some (j : Int)) = xs.take j := by
  unfold cutL
  rw [HT.sIx_none, HT.sIx_nat, List.drop_zero, Nat.sub_zero]
  by_cases h : j ≤ xs.length
  · rw [Nat.min_eq_left h]
  · rw [Nat.min_eq_right (by omega), List.take_of_length_le (Nat.le_refl _), List.take_of_length_le (by omega)]
theorem fin_dif {S S1 : Store} {t n : Nat} {rho : Env} {d : D} (ht : t < S.length) (hl : S.length ≤ S1.length) (tw : Twn t n S1) (keep : ∀ i, i < S.length → i ≠ t → S1[i]? = S[i]?) (hd : clo S.length d = true) : ∃ S', finT S (.ok (.ret d) rho S1) = .ok d S' ∧ Twn t n S' ∧ Dif t S S' := by
  obtain ⟨ts, t1, t2⟩ := tw
  have tk : S1.take S.length = List.set S t (.lst (ts.map D.int)) := by
    refine List.ext_getElem? fun i => ?_
    rw [List.getElem?_take]
    by_cases hi : i < S.length
    · rw [if_pos hi]
      by_cases q : i = t
      · subst q
        rw [t2, List.getElem?_set_self hi]
      · rw [keep i hi q, List.getElem?_set_ne (fun z => q z.symm)]
    · rw [if_neg hi, List.getElem?_eq_none (by rw [List.length_set]; omega)]
  refine ⟨List.set S t (.lst (ts.map D.int)), ?_, ⟨ts, t1, List.getElem?_set_self ht⟩, ⟨ts, rfl⟩⟩
  rw [← tk]
  refine finT_ret ⟨hl, fun i o hi ho => ?_⟩ (fz_clo hd)
  by_cases q : i = t
  · subst q
    rw [t2] at ho
    cases ho
    exact .inr (cloL_ints _ _)
  · rw [keep i hi q] at ho
    exact .inl ho
theorem twn_lt {S : Store} {t n : Nat} (tw : Twn t n S) : t < S.length := by
  obtain ⟨ts, a, b⟩ := tw
  exact (List.getElem?_eq_some_iff.mp b).1
theorem twn_app {S E : Store} {t n : Nat} (tw : Twn t n S) : Twn t n (S ++ E) := by
  obtain ⟨ts, a, b⟩ := tw
  exact ⟨ts, a, by rw [List.getElem?_append_left (List.getElem?_eq_some_iff.mp b).1]; exact b⟩
theorem twn_set {S : Store} {t n L : Nat} {o : O} (h : L ≠ t) (tw : Twn t n S) : Twn t n (List.set S L o) := by
  obtain ⟨ts, a, b⟩ := tw
  exact ⟨ts, a, by rw [List.getElem?_set_ne h]; exact b⟩
structure Bt where
  w : Str
  n : Nat
  rows : List (List Int)
def tabD (x : Bt) : D := .tup [.str x.w, .int x.n, .tup (x.rows.map rowD)]
abbrev pqrs : List Str := ["p", "q", "r", "s"]
structure Bt.Ok (most : Nat) (far : Int) (x : Bt) : Prop where
  w : x.w ∈ pqrs
  lo : 1 ≤ x.n
  hi : x.n ≤ 3
  len : x.rows.length ≤ most
  row : ∀ r ∈ x.rows, Row x.n far r
  up : x.rows.Pairwise fun a b => ltR a b = true
theorem clo_tab (m : Nat) (x : Bt) : clo m (tabD x) = true := by
  show cloL m [.str x.w, .int x.n, .tup (x.rows.map rowD)] = true
  refine (cloL_iff m _).mpr fun d hd => ?_
  simp at hd
  rcases hd with rfl | rfl | rfl
  · rfl
  · rfl
  · exact cloL_rows _ _
theorem cloL_tabs (m : Nat) (tb : List Bt) : cloL m (tb.map tabD) = true := (cloL_iff m _).mpr fun d hd => by
  obtain ⟨x, _, rfl⟩ := List.mem_map.mp hd
  exact clo_tab m x
def mBookB : SM := (sSeq (sSet 6 (mApp 3 FPick (mCons (mVar 0) (mCons (mVar 1) (mCons (mLst (mCons (mC (.int 1)) (mCons (mC (.int 2)) (mCons (mC (.int 2)) (mCons (mC (.int 2)) (mCons (mC (.int 3)) mNil)))))) mNil)))))
    (sDrop (mAppend (mVar 4) (mTup (mCons (mVar 5) (mCons (mVar 6) (mCons (mApp 5 FRows (mCons (mVar 0) (mCons (mVar 1) (mCons (mVar 6) (mCons (mVar 2) (mCons (mVar 3) mNil)))))) mNil)))))))
def mBook : SM := (sSeq (sSet 4 (mNewL mNil)) (sSeq (sFor (mIter (mTup (mCons (mC (.str "p")) (mCons (mC (.str "q")) (mCons (mC (.str "r")) (mCons (mC (.str "s")) mNil)))))) (tgN 5) mBookB)
    (sRet (mCall tupD (mCons (mSl (mVar 4) (mP (mApp 3 FDraw (mCons (mVar 0) (mCons (mVar 1) (mCons (mC (.int 2)) mNil))))) mNoP) mNil)))))
def FBook : List D → Store → R D := runT 7 mBook
section
variable {S : Store} {ns : List Int} {n t most far : Nat}
theorem bookB_ok (h63 : ns.length ≤ 63) (hf : 0 < far) (hm : most ≤ 20) {w : Str} {L : Nat} {tb : List Bt} {y6 : Option D} (hw : w ∈ pqrs) (hL : L ≠ t) (tw : Twn t n S) (hn : n ≤ 20000) (hS : S[L]? = some (.lst (tb.map tabD))) (htl : tb.length ≤ 10) :
    ∃ S' y6' x, mBookB [some (.scr ns), some (.loc t), some (.int most), some (.int far), some (.loc L), some (.str w), y6] S = .ok .next [some (.scr ns), some (.loc t), some (.int most), some (.int far), some (.loc L), some (.str w), y6'] S' ∧ Bt.Ok most far x ∧ x.w = w ∧ Twn t (n + 124) S' ∧ S'[L]? = some (.lst ((tb ++ [x]).map tabD)) ∧ S'.length = S.length ∧ ∀ i, i ≠ t → i ≠ L → S'[i]? = S[i]? := by
  obtain ⟨i, d, S1, hd, tw1, d1, e1⟩ := pick_tw (seq := .lst [.int 1, .int 2, .int 2, .int 2, .int 3]) h63 tw (by omega) (.inl rfl) (by simp) (fun m => rfl)
  obtain ⟨wd, hk0, hk, rfl⟩ : ∃ k : Nat, 1 ≤ k ∧ k ≤ 3 ∧ d = .int k := by
    match i, hd with
    | 0, hd => cases hd; exact ⟨1, by omega, by omega, rfl⟩
    | 1, hd => cases hd; exact ⟨2, by omega, by omega, rfl⟩
    | 2, hd => cases hd; exact ⟨2, by omega, by omega, rfl⟩
    | 3, hd => cases hd; exact ⟨2, by omega, by omega, rfl⟩
    | 4, hd => cases hd; exact ⟨3, by omega, by omega, rfl⟩
    | i + 5, hd => cases hd
  have hle : 2 * wd * most ≤ 120 := by
    have : 2 * wd * most ≤ 6 * 20 := Nat.mul_le_mul (by omega) hm
    omega
  obtain ⟨rows, S2, hl, hr, hup, tw2, d2, e2⟩ := rows_ok (width := wd) (most := most) (far := far) h63 (by omega) (by omega) (by omega) tw1 (by omega) (by omega)
  have d12 := d1.trans d2
  have hS1 : S1[L]? = some (.lst (tb.map tabD)) := by rw [d1.other hL]; exact hS
  have hS2 : S2[L]? = some (.lst (tb.map tabD)) := by rw [d12.other hL]; exact hS
  have htl2 : tb.length < 100000 := by omega
  refine ⟨List.set S2 L (.lst ((tb ++ [(⟨w, wd, rows⟩ : Bt)]).map tabD)), some (.int wd), (⟨w, wd, rows⟩ : Bt), ?_, ⟨hw, hk0, hk, hl, hr, hup⟩, rfl, twn_set hL (tw2.mono (by omega)), gs hS2 _, by rw [List.length_set, d12.len], fun i h1 h2 => ?_⟩
  · unfold mBookB
    simp [e1, e2, hS1, hS2, htl2, tabD]
  · rw [List.getElem?_set_ne (fun q => h2 q.symm), d12.other h1]
theorem book_loop (h63 : ns.length ≤ 63) (hf : 0 < far) (hm : most ≤ 20) {L : Nat} (hL : L ≠ t) : ∀ (ws : List Str) {n : Nat} {S : Store} (tb : List Bt) (y5 y6 : Option D), (∀ w ∈ ws, w ∈ pqrs) → Twn t n S → n + 124 * ws.length ≤ 20000 → S[L]? = some (.lst (tb.map tabD)) → (∀ x ∈ tb, Bt.Ok most far x) → tb.length + ws.length ≤ 10 →
    ∃ (S' : Store) (y5' y6' : Option D) (tb' : List Bt), sLoop (tgN 5) mBookB (ws.map D.str) [some (.scr ns), some (.loc t), some (.int most), some (.int far), some (.loc L), y5, y6] S = .ok .next [some (.scr ns), some (.loc t), some (.int most), some (.int far), some (.loc L), y5', y6'] S' ∧ (∀ x ∈ tb', Bt.Ok most far x) ∧ tb'.map (·.w) = tb.map (·.w) ++ ws ∧ Twn t (n + 124 * ws.length) S' ∧ S'[L]? = some (.lst (tb'.map tabD)) ∧ S'.length = S.length ∧ ∀ i, i ≠ t → i ≠ L → S'[i]? = S[i]?
  | [], n, S, tb, y5, y6, _, tw, _, hS, ht, _ => ⟨S, y5, y6, tb, rfl, ht, by simp, tw.mono (by omega), hS, rfl, fun _ _ _ => rfl⟩
  | w :: ws, n, S, tb, y5, y6, hw, tw, hn, hS, ht, hl => by
    rw [List.length_cons] at hn hl
    obtain ⟨S1, y6', x, e1, hx, hxw, tw1, hS1, sl, ot⟩ := bookB_ok h63 hf hm (y6 := y6) (hw w List.mem_cons_self) hL tw (by omega) hS (by omega)
    obtain ⟨S2, y5'', y6'', tb', e2, ht', hl', tw2, hS2, sl2, ot2⟩ := book_loop h63 hf hm hL ws (tb ++ [x]) (some (.str w)) y6' (fun v hv => hw v (List.mem_cons_of_mem _ hv)) tw1 (by omega) hS1 (fun z hz => by
      rcases List.mem_append.mp hz with q | q
      · exact ht z q
      · rw [List.mem_singleton.mp q]; exact hx) (by simp; omega)
    refine ⟨S2, y5'', y6'', tb', ?_, ht', by rw [hl', List.map_append, List.append_assoc, List.map_cons, hxw]; rfl, tw2.mono (by rw [List.length_cons]; omega), hS2, by rw [sl2, sl], fun i h1 h2 => by rw [ot2 i h1 h2, ot i h1 h2]⟩
    rw [List.map_cons, loop_step (r := [some (.scr ns), some (.loc t), some (.int most), some (.int far), some (.loc L), y5, y6]) rfl e1]
    exact e2
structure BookOk (most : Nat) (far : Int) (tb : List Bt) : Prop where
  tab : ∀ x ∈ tb, Bt.Ok most far x
  ne : tb ≠ []
  len : tb.length ≤ 4
  nd : (tb.map (·.w)).Nodup
theorem book_ok (h63 : ns.length ≤ 63) (hf : 0 < far) (hm : most ≤ 20) (tw : Twn t n S) (hn : n ≤ 10000) : ∃ (tb : List Bt) (S' : Store), FBook [.scr ns, .loc t, .int most, .int far] S = .ok (.tup (tb.map tabD)) S' ∧ BookOk most far tb ∧ Twn t (n + 500) S' ∧ Dif t S S' := by
  have ht := twn_lt tw
  obtain ⟨S1, y5, y6, tb, e1, htb, hl, tw1, hS1, sl, ot⟩ := book_loop h63 hf hm (L := S.length) (by omega) pqrs [] none none (fun w h => h) (twn_app (E := [.lst []]) tw) (by simp; omega) (by simp) (by simp) (by simp)
  have hl : tb.map (·.w) = pqrs := by simpa using hl
  have hl4 : tb.length = 4 := by
    have := congrArg List.length hl
    simpa using this
  obtain ⟨j, S2, hj, tw2, d2, e2⟩ := draw_tw (many := 2) h63 tw1 (by simp; omega) (by decide)
  have hS2 : S2[S.length]? = some (.lst (tb.map tabD)) := by rw [d2.other (by omega)]; exact hS1
  have sl2 : slD (.loc S.length) (some (j : Int)) none S2 = some (.lst ((tb.drop j).map tabD)) := by
    unfold slD
    simp only [hS2]
    rw [cut_drop _ _ (by rw [List.length_map]; omega), List.map_drop]
  have eb : mBook [some (.scr ns), some (.loc t), some (.int most), some (.int far), none, none, none] S = .ok (.ret (.tup ((tb.drop j).map tabD))) [some (.scr ns), some (.loc t), some (.int most), some (.int far), some (.loc S.length), y5, y6] S2 := by
    unfold mBook
    have e1' : sLoop (tgN 5) mBookB [.str "p", .str "q", .str "r", .str "s"] [some (.scr ns), some (.loc t), some (.int most), some (.int far), some (.loc S.length), none, none] (S ++ [.lst []]) = _ := e1
    simp [e1', e2, sl2]
  obtain ⟨S', ef, tw', d'⟩ := fin_dif (S := S) (S1 := S2) (n := n + 500) (rho := [some (.scr ns), some (.loc t), some (.int most), some (.int far), some (.loc S.length), y5, y6]) (d := .tup ((tb.drop j).map tabD)) ht (by rw [d2.len, sl]; simp) (tw2.mono (by simp)) (fun i hi hne => by
    rw [d2.other hne, ot i hne (by omega), List.getElem?_append_left hi]) (cloL_tabs _ _)
  refine ⟨tb.drop j, S', ?_, ⟨fun x hx => htb x (List.mem_of_mem_drop hx), ?_, by rw [List.length_drop]; omega, ?_⟩, tw', d'⟩
  · show finT S (mBook (frame 7 _) S) = _
    have efr : frame 7 [.scr ns, .loc t, .int most, .int far] = [some (.scr ns), some (.loc t), some (.int most), some (.int far), none, none, none] := rfl
    rw [efr, eb]
    exact ef
  · intro q
    have := congrArg List.length q
    rw [List.length_drop, List.length_nil] at this
    omega
  · rw [List.map_drop, hl]
    exact List.Nodup.sublist (List.drop_sublist _ _) (by decide)
end
end Dv
namespace Dv
open PySem L2
inductive Tm where
  | nm (x : Str)
  | vl (i : Int)
def trD : Tm → D
  | .nm x => .str x
  | .vl i => .int i
def trN : Tm → Option Str
  | .nm x => some x
  | .vl _ => none
abbrev abcd : List Str := ["a", "b", "c", "d"]
def Tm.Ok : Tm → Prop
  | .nm x => x ∈ abcd
  | .vl i => 0 ≤ i ∧ i < 3
structure At where
  w : Str
  ts : List Tm
def atD (a : At) : D := .tup [.str a.w, .tup (a.ts.map trD)]
structure Ck where
  s : Str
  x : Str
  z : Tm
def ckD (c : Ck) : D := .tup [.str c.s, .str c.x, trD c.z]
def usd (as : List At) : List Str := as.flatMap fun a => a.ts.filterMap trN
def askD (as : List At) (cs : List Ck) : D := .tup [.tup (as.map atD), .tup (cs.map ckD)]
theorem clo_tr (m : Nat) (t : Tm) : clo m (trD t) = true := by cases t <;> rfl
theorem cloL_trs (m : Nat) (ts : List Tm) : cloL m (ts.map trD) = true := (cloL_iff m _).mpr fun d hd => by
  obtain ⟨x, _, rfl⟩ := List.mem_map.mp hd
  exact clo_tr m x
theorem clo_at (m : Nat) (a : At) : clo m (atD a) = true := by
  show (true && (cloL m (a.ts.map trD) && true)) = true
  rw [cloL_trs]
  rfl
theorem clo_ck (m : Nat) (c : Ck) : clo m (ckD c) = true := by
  show (true && (true && (clo m (trD c.z) && true))) = true
  rw [clo_tr]
  rfl
theorem clo_ask (m : Nat) (as : List At) (cs : List Ck) : clo m (askD as cs) = true := by
  have h1 : cloL m (as.map atD) = true := (cloL_iff m _).mpr fun d hd => by
    obtain ⟨x, _, rfl⟩ := List.mem_map.mp hd
    exact clo_at m x
  have h2 : cloL m (cs.map ckD) = true := (cloL_iff m _).mpr fun d hd => by
    obtain ⟨x, _, rfl⟩ := List.mem_map.mp hd
    exact clo_ck m x
  show (cloL m (as.map atD) && (cloL m (cs.map ckD) && true)) = true
  rw [h1, h2]
  rfl
theorem cloL_strs (m : Nat) (xs : List Str) : cloL m (xs.map D.str) = true := (cloL_iff m _).mpr fun d hd => by
  obtain ⟨x, _, rfl⟩ := List.mem_map.mp hd
  rfl
theorem isi_tr (t : Tm) (S : Store) : isiD [trD t, .ty "str"] S = some (.bl (trN t).isSome) := by cases t <;> rfl
section
variable {S : Store} {ns : List Int} {n t : Nat}
theorem pick_tr (h63 : ns.length ≤ 63) (tw : Twn t n S) (hn : n < 99990) {l : List Tm} (hl : l ≠ []) : ∃ z S', z ∈ l ∧ Twn t (n + 2) S' ∧ Dif t S S' ∧ FPick [.scr ns, .loc t, .lst (l.map trD)] S = .ok (trD z) S' := by
  obtain ⟨j, d, S', hj, tw', df, e⟩ := pick_tw (seq := .lst (l.map trD)) h63 tw hn (.inl rfl) (by simpa using hl) (fun m => cloL_trs m l)
  obtain ⟨z, hz, rfl⟩ := List.mem_map.mp (List.mem_of_getElem? hj)
  exact ⟨z, S', hz, tw', df, e⟩
theorem nms_tr (xs : List Str) : xs.map D.str = (xs.map Tm.nm).map trD := by
  rw [List.map_map]
  rfl
end
end Dv
namespace Dv
open PySem L2
abbrev Gv := List (Str × Int)
def gLk : Gv → Str → Option Int
  | [], _ => none
  | p :: g, x => if p.1 = x then some p.2 else gLk g x
def gPut (g : Gv) (x : Str) (v : Int) : Gv := if (gLk g x).isSome = true then g.map (fun p => if p.1 = x then (p.1, v) else p) else g ++ [(x, v)]
theorem lk_app (x : Str) (v : Int) (y : Str) : ∀ g : Gv, gLk g x = none → gLk (g ++ [(x, v)]) y = if x = y then some v else gLk g y
  | [], _ => rfl
  | p :: g, h => by
    unfold gLk at h
    split at h
    · cases h
    · rename_i c
      show (if p.1 = y then some p.2 else gLk (g ++ [(x, v)]) y) = _
      rw [lk_app x v y g h]
      show _ = if x = y then some v else if p.1 = y then some p.2 else gLk g y
      by_cases c2 : p.1 = y
      · rw [if_pos c2, if_pos c2]
        by_cases c3 : x = y
        · exact absurd (c2.trans c3.symm) c
        · rw [if_neg c3]
      · rw [if_neg c2, if_neg c2]
theorem lk_map (x : Str) (v : Int) (y : Str) : ∀ g : Gv, gLk (g.map fun p => if p.1 = x then (p.1, v) else p) y = if x = y then (if (gLk g x).isSome = true then some v else none) else gLk g y
  | [] => by simp [gLk]
  | p :: g => by
    rw [List.map_cons]
    unfold gLk
    rw [lk_map x v y g]
    by_cases c : p.1 = x
    · subst c
      by_cases c2 : p.1 = y
      · subst c2; simp
      · simp [c2]
    · by_cases c2 : x = y
      · subst c2; simp [c]
      · simp [c, c2]
theorem lk_put (g : Gv) (x : Str) (v : Int) (y : Str) : gLk (gPut g x v) y = if x = y then some v else gLk g y := by
  unfold gPut
  split
  · rename_i h
    rw [lk_map, if_pos h]
  · rename_i h
    exact lk_app x v y g (by cases q : gLk g x with | none => rfl | some z => rw [q] at h; exact absurd rfl h)
theorem put_len (g : Gv) (x : Str) (v : Int) : (gPut g x v).length ≤ g.length + 1 := by
  unfold gPut
  split <;> simp
def gK (g : Gv) : List (Key × D) := g.map fun p => (.inr p.1, .int p.2)
theorem gK_len (g : Gv) : (gK g).length = g.length := List.length_map _
theorem val_gK (x : Str) : ∀ g : Gv, valKD (gK g) (.inr x) = (gLk g x).map D.int
  | [] => rfl
  | p :: g => by
    unfold gLk
    have ih := val_gK x g
    unfold valKD at ih ⊢
    show Option.map _ (List.find? _ ((Sum.inr p.1, D.int p.2) :: gK g)) = _
    rw [List.find?_cons]
    by_cases c : p.1 = x
    · simp [c]
    · have : (Sum.inr p.1 : Key) ≠ Sum.inr x := fun e => c (Sum.inr.inj e)
      simp only [this, decide_false, c, if_false]
      exact ih
theorem any_gK (x : Str) : ∀ g : Gv, ((gK g).any fun kv => decide (kv.1 = .inr x)) = (gLk g x).isSome
  | [] => rfl
  | p :: g => by
    show (decide ((Sum.inr p.1 : Key) = Sum.inr x) || (gK g).any fun kv => decide (kv.1 = .inr x)) = _
    rw [any_gK x g]
    show _ = (if p.1 = x then some p.2 else gLk g x).isSome
    by_cases c : p.1 = x
    · simp [c]
    · have : (Sum.inr p.1 : Key) ≠ Sum.inr x := fun e => c (Sum.inr.inj e)
      simp [this, c]
theorem put_gK (g : Gv) (x : Str) (v : Int) : putKD (gK g) (.inr x) (.int v) = gK (gPut g x v) := by
  unfold putKD gPut
  rw [any_gK]
  split
  · unfold gK
    rw [List.map_map, List.map_map]
    refine List.map_congr_left fun p _ => ?_
    show (if (Sum.inr p.1 : Key) = Sum.inr x then _ else _) = _
    by_cases c : p.1 = x
    · simp [c]
    · have : (Sum.inr p.1 : Key) ≠ Sum.inr x := fun e => c (Sum.inr.inj e)
      simp [this, c]
  · unfold gK
    rw [List.map_append]
    rfl
def evo (g : Gv) : Tm → Option Int
  | .nm x => gLk g x
  | .vl i => some i
def ev (f : Str → Int) : Tm → Int
  | .nm x => f x
  | .vl i => i
def fng (g : Gv) (x : Str) : Int := (gLk g x).getD 0
def Le (g g' : Gv) : Prop := ∀ x v, gLk g x = some v → gLk g' x = some v
def Agr (g : Gv) (f : Str → Int) : Prop := ∀ x v, gLk g x = some v → f x = v
theorem Le.refl (g : Gv) : Le g g := fun _ _ h => h
theorem Le.trans {a b c : Gv} (h : Le a b) (h' : Le b c) : Le a c := fun x v q => h' x v (h x v q)
theorem evo_le {g g' : Gv} (h : Le g g') {t : Tm} {v : Int} (e : evo g t = some v) : evo g' t = some v := by
  cases t with
  | nm x => exact h x v e
  | vl i => exact e
theorem evo_fng {g : Gv} {t : Tm} {v : Int} (e : evo g t = some v) : ev (fng g) t = v := by
  cases t with
  | nm x =>
    have e : gLk g x = some v := e
    show (gLk g x).getD 0 = v
    rw [e]; rfl
  | vl i => exact Option.some.inj e
def mtc : List Tm → List Int → Gv → Option Gv
  | .nm x :: ts, v :: r, g => match gLk g x with
    | some u => if u = v then mtc ts r g else none
    | none => mtc ts r (gPut g x v)
  | .vl i :: ts, v :: r, g => if i = v then mtc ts r g else none
  | [], _, g => some g
  | _ :: _, [], g => some g
theorem le_put {g : Gv} {x : Str} {v : Int} (h : gLk g x = none) : Le g (gPut g x v) := fun y u q => by
  rw [lk_put]
  by_cases c : x = y
  · subst c; rw [h] at q; cases q
  · rw [if_neg c]; exact q
theorem mtc_some : ∀ (ts : List Tm) (r : List Int) (g g' : Gv), ts.length = r.length → mtc ts r g = some g' → Le g g' ∧ ts.map (evo g') = r.map some
  | [], [], g, g', _, h => by
    cases h
    exact ⟨Le.refl _, rfl⟩
  | [], _ :: _, _, _, h, _ => by cases h
  | _ :: _, [], _, _, h, _ => by cases h
  | .nm x :: ts, v :: r, g, g', hl0, h => by
    have hl : ts.length = r.length := by simpa using hl0
    unfold mtc at h
    split at h
    · rename_i u e
      split at h
      · rename_i c
        subst c
        obtain ⟨h1, h2⟩ := mtc_some ts r g g' hl h
        exact ⟨h1, by rw [List.map_cons, List.map_cons, h2]; exact congrArg (· :: _) (h1 x u e)⟩
      · cases h
    · rename_i e
      obtain ⟨h1, h2⟩ := mtc_some ts r _ g' hl h
      exact ⟨(le_put e).trans h1, by rw [List.map_cons, List.map_cons, h2]; exact congrArg (· :: _) (h1 x v (by rw [lk_put, if_pos rfl]))⟩
  | .vl i :: ts, v :: r, g, g', hl0, h => by
    have hl : ts.length = r.length := by simpa using hl0
    unfold mtc at h
    split at h
    · rename_i c
      subst c
      obtain ⟨h1, h2⟩ := mtc_some ts r g g' hl h
      exact ⟨h1, by rw [List.map_cons, List.map_cons, h2]; rfl⟩
    · cases h
theorem mtc_ev (f : Str → Int) : ∀ (ts : List Tm) (g : Gv), Agr g f → ∃ g', mtc ts (ts.map (ev f)) g = some g' ∧ Agr g' f
  | [], g, h => ⟨g, rfl, h⟩
  | .nm x :: ts, g, h => by
    rw [List.map_cons]
    unfold mtc
    split
    · rename_i u e
      rw [if_pos (show u = ev f (.nm x) from (h x u e).symm)]
      exact mtc_ev f ts g h
    · rename_i e
      refine mtc_ev f ts _ fun y v q => ?_
      rw [lk_put] at q
      split at q
      · rename_i c; cases q; rw [← c]; rfl
      · exact h y v q
  | .vl i :: ts, g, h => by
    rw [List.map_cons]
    unfold mtc
    rw [if_pos (show i = ev f (.vl i) from rfl)]
    exact mtc_ev f ts g h
theorem mtc_len : ∀ (ts : List Tm) (r : List Int) (g g' : Gv), mtc ts r g = some g' → g'.length ≤ g.length + ts.length
  | [], _, g, g', h => by cases h; exact Nat.le_refl _
  | _ :: _, [], g, g', h => by
    unfold mtc at h
    split at h <;> simp_all
  | .nm x :: ts, v :: r, g, g', h => by
    unfold mtc at h
    split at h
    · split at h
      · have := mtc_len ts r g g' h; simp; omega
      · cases h
    · have := mtc_len ts r _ g' h
      have := put_len g x v
      simp; omega
  | .vl i :: ts, v :: r, g, g', h => by
    unfold mtc at h
    split at h
    · have := mtc_len ts r g g' h; simp; omega
    · cases h
def rowsW (tb : List Bt) (w : Str) : List (List Int) := match tb.find? fun x => decide (x.w = w) with
  | some x => x.rows
  | none => []
def stp (rs : List (List Int)) (ts : List Tm) (fd : List Gv) : List Gv := fd.flatMap fun g => rs.filterMap fun r => mtc ts r g
def fnd (tb : List Bt) (as : List At) (fd : List Gv) : List Gv := as.foldl (fun fd a => stp (rowsW tb a.w) a.ts fd) fd
def SatA (tb : List Bt) (as : List At) (f : Str → Int) : Prop := ∀ a ∈ as, a.ts.map (ev f) ∈ rowsW tb a.w
def ckB (f : Str → Int) (c : Ck) : Bool := if c.s = "less" then decide (f c.x < ev f c.z) else decide (f c.x ≠ ev f c.z)
def Fit (tb : List Bt) (as : List At) : Prop := ∀ a ∈ as, ∀ r ∈ rowsW tb a.w, r.length = a.ts.length
theorem mem_stp {rs : List (List Int)} {ts : List Tm} {fd : List Gv} {g' : Gv} : g' ∈ stp rs ts fd ↔ ∃ g ∈ fd, ∃ r ∈ rs, mtc ts r g = some g' := by
  unfold stp
  simp only [List.mem_flatMap, List.mem_filterMap]
theorem fnd_mem (tb : List Bt) : ∀ (as : List At) (fd : List Gv) (g' : Gv), Fit tb as → g' ∈ fnd tb as fd → ∃ g ∈ fd, Le g g' ∧ ∀ a ∈ as, ∃ r ∈ rowsW tb a.w, a.ts.map (evo g') = r.map some
  | [], fd, g', _, h => ⟨g', h, Le.refl _, fun a ha => by cases ha⟩
  | a :: as, fd, g', hf, h => by
    obtain ⟨g1, h1, l1, k1⟩ := fnd_mem tb as _ g' (fun b hb => hf b (List.mem_cons_of_mem _ hb)) (show g' ∈ fnd tb as (stp (rowsW tb a.w) a.ts fd) from h)
    obtain ⟨g, hg, r, hr, e⟩ := mem_stp.mp h1
    obtain ⟨q1, q2⟩ := mtc_some a.ts r g g1 (hf a List.mem_cons_self r hr).symm e
    refine ⟨g, hg, q1.trans l1, fun b hb => ?_⟩
    rcases List.mem_cons.mp hb with rfl | hb
    · refine ⟨r, hr, ?_⟩
      rw [← q2]
      refine List.map_congr_left fun t ht => ?_
      have : evo g1 t ∈ r.map some := by rw [← q2]; exact List.mem_map_of_mem ht
      obtain ⟨v, _, hv⟩ := List.mem_map.mp this
      rw [← hv, evo_le l1 hv.symm]
    · exact k1 b hb
theorem fnd_has (tb : List Bt) (f : Str → Int) : ∀ (as : List At) (fd : List Gv), SatA tb as f → (∃ g ∈ fd, Agr g f) → ∃ g ∈ fnd tb as fd, Agr g f
  | [], fd, _, h => h
  | a :: as, fd, hs, ⟨g, hg, ha⟩ => by
    obtain ⟨g', e, q⟩ := mtc_ev f a.ts g ha
    exact fnd_has tb f as (stp (rowsW tb a.w) a.ts fd) (fun b hb => hs b (List.mem_cons_of_mem _ hb)) ⟨g', mem_stp.mpr ⟨g, hg, _, hs a List.mem_cons_self, e⟩, q⟩
theorem mem_usd {x : Str} {as : List At} : x ∈ usd as ↔ ∃ a ∈ as, Tm.nm x ∈ a.ts := by
  unfold usd
  rw [List.mem_flatMap]
  refine exists_congr fun a => and_congr_right fun _ => ?_
  rw [List.mem_filterMap]
  constructor
  · rintro ⟨t, ht, e⟩
    cases t with
    | nm y => cases e; exact ht
    | vl i => cases e
  · exact fun h => ⟨_, h, rfl⟩
structure Cov (tb : List Bt) (as : List At) (g : Gv) : Prop where
  sat : SatA tb as (fng g)
  has : ∀ x ∈ usd as, (gLk g x).isSome = true
theorem fnd_cov {tb : List Bt} {as : List At} {g : Gv} (hf : Fit tb as) (h : g ∈ fnd tb as [[]]) : Cov tb as g := by
  obtain ⟨g0, _, _, k⟩ := fnd_mem tb as _ g hf h
  refine ⟨fun a ha => ?_, fun x hx => ?_⟩
  · obtain ⟨r, hr, e⟩ := k a ha
    have : a.ts.map (ev (fng g)) = r := by
      have h2 : (a.ts.map (ev (fng g))).map some = r.map some := by
        rw [← e, List.map_map]
        refine List.map_congr_left fun t ht => ?_
        have : evo g t ∈ r.map some := by rw [← e]; exact List.mem_map_of_mem ht
        obtain ⟨v, _, hv⟩ := List.mem_map.mp this
        show some (ev (fng g) t) = _
        rw [evo_fng hv.symm, hv]
      exact (List.map_inj_right fun _ _ h => Option.some.inj h).mp h2
    rw [this]; exact hr
  · obtain ⟨a, ha, ht⟩ := mem_usd.mp hx
    obtain ⟨r, hr, e⟩ := k a ha
    have : evo g (.nm x) ∈ r.map some := by rw [← e]; exact List.mem_map_of_mem ht
    obtain ⟨v, _, hv⟩ := List.mem_map.mp this
    show (evo g (.nm x)).isSome = true
    rw [← hv]; rfl
theorem ev_congr {f f' : Str → Int} {t : Tm} (h : ∀ x, t = .nm x → f x = f' x) : ev f t = ev f' t := by
  cases t with
  | nm x => exact h x rfl
  | vl i => rfl
theorem satA_congr {tb : List Bt} {as : List At} {f f' : Str → Int} (h : ∀ x ∈ usd as, f x = f' x) (s : SatA tb as f) : SatA tb as f' := fun a ha => by
  have : a.ts.map (ev f') = a.ts.map (ev f) := List.map_congr_left fun t ht => ev_congr fun x e => (h x (mem_usd.mpr ⟨a, ha, by rw [← e]; exact ht⟩)).symm
  rw [this]; exact s a ha
def CkIn (as : List At) (c : Ck) : Prop := c.x ∈ usd as ∧ ∀ y, c.z = .nm y → y ∈ usd as
theorem ckB_congr {as : List At} {c : Ck} {f f' : Str → Int} (hc : CkIn as c) (h : ∀ x ∈ usd as, f x = f' x) : ckB f c = ckB f' c := by
  unfold ckB
  rw [h c.x hc.1, ev_congr fun y e => h y (hc.2 y e)]
def Ans (tb : List Bt) (as : List At) (cs : List Ck) (ns : List Str) (r : List Int) : Prop := ∃ f, SatA tb as f ∧ (∀ c ∈ cs, ckB f c = true) ∧ r = ns.map f
def ans (tb : List Bt) (as : List At) (cs : List Ck) (ns : List Str) : List (List Int) := ((fnd tb as [[]]).filter fun g => cs.all (ckB (fng g))).map fun g => ns.map (fng g)
theorem mem_ans {tb : List Bt} {as : List At} {cs : List Ck} {ns : List Str} {r : List Int} (hf : Fit tb as) (hc : ∀ c ∈ cs, CkIn as c) (hn : ∀ x ∈ ns, x ∈ usd as) : r ∈ ans tb as cs ns ↔ Ans tb as cs ns r := by
  unfold ans Ans
  rw [List.mem_map]
  constructor
  · rintro ⟨g, hg, rfl⟩
    obtain ⟨h1, h2⟩ := List.mem_filter.mp hg
    exact ⟨fng g, (fnd_cov hf h1).sat, fun c hc => List.all_eq_true.mp h2 c hc, rfl⟩
  · rintro ⟨f, h1, h2, rfl⟩
    obtain ⟨g, hg, ha⟩ := fnd_has tb f as [[]] h1 ⟨[], List.mem_singleton.mpr rfl, fun x v q => by cases q⟩
    have cv := fnd_cov hf hg
    have eq : ∀ x ∈ usd as, f x = fng g x := fun x hx => by
      obtain ⟨v, hv⟩ := Option.isSome_iff_exists.mp (cv.has x hx)
      show f x = (gLk g x).getD 0
      rw [ha x v hv, hv]; rfl
    refine ⟨g, List.mem_filter.mpr ⟨hg, List.all_eq_true.mpr fun c hcc => ?_⟩, List.map_congr_left fun x hx => (eq x (hn x hx)).symm⟩
    rw [← ckB_congr (hc c hcc) eq]
    exact h2 c hcc
theorem stp_len {rs : List (List Int)} {ts : List Tm} {fd : List Gv} {m : Nat} (h : rs.length ≤ m) : (stp rs ts fd).length ≤ fd.length * m := by
  unfold stp
  induction fd with
  | nil => simp
  | cons g fd ih =>
    rw [List.flatMap_cons, List.length_append, List.length_cons, Nat.succ_mul]
    have := List.length_filterMap_le (fun r => mtc ts r g) rs
    omega
end Dv
namespace Dv
open PySem L2
def nmT (acc : List Str) : Tm → List Str
  | .nm x => if x ∈ acc then acc else acc ++ [x]
  | .vl _ => acc
theorem nmT_nm (acc : List Str) (x : Str) : nmT acc (.nm x) = if x ∈ acc then acc else acc ++ [x] := rfl
def nmsT (ts : List Tm) (acc : List Str) : List Str := ts.foldl nmT acc
theorem nmsT_app (a b : List Tm) (acc : List Str) : nmsT (a ++ b) acc = nmsT b (nmsT a acc) := List.foldl_append
theorem mem_nmsT {x : Str} : ∀ (ts : List Tm) (acc : List Str), x ∈ nmsT ts acc ↔ x ∈ acc ∨ Tm.nm x ∈ ts
  | [], acc => by simp [nmsT]
  | .nm y :: ts, acc => by
    show x ∈ nmsT ts (nmT acc (.nm y)) ↔ _
    rw [mem_nmsT ts, nmT_nm]
    by_cases c : y ∈ acc
    · rw [if_pos c]
      constructor
      · rintro (h | h)
        · exact .inl h
        · exact .inr (List.mem_cons_of_mem _ h)
      · rintro (h | h)
        · exact .inl h
        · rcases List.mem_cons.mp h with e | h
          · cases e; exact .inl c
          · exact .inr h
    · rw [if_neg c, List.mem_append, List.mem_singleton]
      constructor
      · rintro ((h | h) | h)
        · exact .inl h
        · subst h; exact .inr List.mem_cons_self
        · exact .inr (List.mem_cons_of_mem _ h)
      · rintro (h | h)
        · exact .inl (.inl h)
        · rcases List.mem_cons.mp h with e | h
          · cases e; exact .inl (.inr rfl)
          · exact .inr h
  | .vl i :: ts, acc => by
    show x ∈ nmsT ts acc ↔ _
    rw [mem_nmsT ts]
    refine or_congr_right ⟨fun h => List.mem_cons_of_mem _ h, fun h => ?_⟩
    rcases List.mem_cons.mp h with e | h
    · cases e
    · exact h
theorem nodup_nmsT : ∀ (ts : List Tm) (acc : List Str), acc.Nodup → (nmsT ts acc).Nodup
  | [], acc, h => h
  | .nm y :: ts, acc, h => by
    refine nodup_nmsT ts (nmT acc (.nm y)) ?_
    rw [nmT_nm]
    by_cases c : y ∈ acc
    · rw [if_pos c]; exact h
    · rw [if_neg c]
      exact List.nodup_append.mpr ⟨h, by simp, fun a ha b hb e => by rw [List.mem_singleton.mp hb] at e; exact c (e ▸ ha)⟩
  | .vl i :: ts, acc, h => nodup_nmsT ts acc h
def tmsA (as : List At) : List Tm := as.flatMap (·.ts)
def nms (as : List At) : List Str := nmsT (tmsA as) []
theorem mem_nms {x : Str} {as : List At} : x ∈ nms as ↔ x ∈ usd as := by
  unfold nms
  rw [mem_nmsT, mem_usd]
  unfold tmsA
  rw [List.mem_flatMap]
  simp
theorem nodup_nms (as : List At) : (nms as).Nodup := nodup_nmsT _ _ List.nodup_nil
theorem nms_abcd {as : List At} (h : ∀ a ∈ as, ∀ t ∈ a.ts, t.Ok) : ∀ x ∈ nms as, x ∈ abcd := fun x hx => by
  obtain ⟨a, ha, ht⟩ := mem_usd.mp (mem_nms.mp hx)
  exact h a ha _ ht
theorem nms_len {as : List At} (h : ∀ a ∈ as, ∀ t ∈ a.ts, t.Ok) : (nms as).length ≤ 4 := nodup_sub (nodup_nms as) (nms_abcd h)
def vexS (vals : List Int) (rs : List (List Int)) : List (List Int) := rs.flatMap fun r => vals.map fun v => r ++ [v]
def vex (vals : List Int) : Nat → List (List Int)
  | 0 => [[]]
  | n + 1 => vexS vals (vex vals n)
theorem mem_vex {vals : List Int} : ∀ {n : Nat} {r : List Int}, r ∈ vex vals n ↔ r.length = n ∧ ∀ v ∈ r, v ∈ vals
  | 0, r => by
    show r ∈ [[]] ↔ _
    rw [List.mem_singleton]
    constructor
    · rintro rfl; exact ⟨rfl, fun v h => by cases h⟩
    · rintro ⟨h, _⟩; exact List.length_eq_zero_iff.mp h
  | n + 1, r => by
    show r ∈ vexS vals (vex vals n) ↔ _
    unfold vexS
    rw [List.mem_flatMap]
    constructor
    · rintro ⟨a, ha, h⟩
      obtain ⟨v, hv, rfl⟩ := List.mem_map.mp h
      obtain ⟨h1, h2⟩ := mem_vex.mp ha
      refine ⟨by simp [h1], fun w hw => ?_⟩
      rcases List.mem_append.mp hw with q | q
      · exact h2 w q
      · rw [List.mem_singleton.mp q]; exact hv
    · rintro ⟨h1, h2⟩
      have hne : r ≠ [] := fun e => by rw [e] at h1; simp at h1
      refine ⟨r.dropLast, mem_vex.mpr ⟨by rw [List.length_dropLast, h1]; rfl, fun v hv => h2 v ((List.dropLast_sublist r).mem hv)⟩, List.mem_map.mpr ⟨r.getLast hne, h2 _ (List.getLast_mem hne), List.dropLast_concat_getLast hne⟩⟩
theorem ltR_pre : ∀ (a : List Int) (v w : Int), v < w → ltR (a ++ [v]) (a ++ [w]) = true
  | [], v, w, h => by
    show (if v = w then _ else decide (v < w)) = true
    rw [if_neg (by omega), decide_eq_true h]
  | x :: a, v, w, h => by
    show (if x = x then ltR (a ++ [v]) (a ++ [w]) else _) = true
    rw [if_pos rfl]
    exact ltR_pre a v w h
theorem ltR_ext : ∀ (a b : List Int) (x y : List Int), a.length = b.length → ltR a b = true → ltR (a ++ x) (b ++ y) = true
  | [], [], _, _, _, h => by cases h
  | [], _ :: _, _, _, h, _ => by cases h
  | _ :: _, [], _, _, h, _ => by cases h
  | p :: a, q :: b, x, y, hl, h => by
    have h : (if p = q then ltR a b else decide (p < q)) = true := h
    show (if p = q then ltR (a ++ x) (b ++ y) else decide (p < q)) = true
    by_cases c : p = q
    · rw [if_pos c] at h ⊢
      exact ltR_ext a b x y (by simpa using hl) h
    · rw [if_neg c] at h ⊢
      exact h
theorem vexS_up {vals : List Int} (hv : vals.Pairwise (· < ·)) {n : Nat} : ∀ {rs : List (List Int)}, (∀ r ∈ rs, r.length = n) → (rs.Pairwise fun a b => ltR a b = true) → (vexS vals rs).Pairwise fun a b => ltR a b = true
  | [], _, _ => .nil
  | r :: rs, hl, h => by
    obtain ⟨h1, h2⟩ := List.pairwise_cons.mp h
    show (vals.map (fun v => r ++ [v]) ++ vexS vals rs).Pairwise _
    refine List.pairwise_append.mpr ⟨List.pairwise_map.mpr (hv.imp fun {v w} q => ltR_pre r v w q), vexS_up hv (fun s hs => hl s (List.mem_cons_of_mem _ hs)) h2, fun a ha b hb => ?_⟩
    obtain ⟨v, _, rfl⟩ := List.mem_map.mp ha
    obtain ⟨s, hs, hb⟩ := List.mem_flatMap.mp hb
    obtain ⟨w, _, rfl⟩ := List.mem_map.mp hb
    exact ltR_ext r s _ _ ((hl r List.mem_cons_self).trans (hl s (List.mem_cons_of_mem _ hs)).symm) (h1 s hs)
theorem vex_up {vals : List Int} (hv : vals.Pairwise (· < ·)) : ∀ n, (vex vals n).Pairwise fun a b => ltR a b = true
  | 0 => List.pairwise_singleton _ _
  | n + 1 => vexS_up hv (fun r hr => (mem_vex.mp hr).1) (vex_up hv n)
theorem vexS_len (vals : List Int) : ∀ rs : List (List Int), (vexS vals rs).length = rs.length * vals.length
  | [] => by simp [vexS]
  | r :: rs => by
    show (vals.map (fun v => r ++ [v]) ++ vexS vals rs).length = _
    rw [List.length_append, List.length_map, vexS_len vals rs, List.length_cons, Nat.succ_mul, Nat.add_comm]
theorem vex_len {vals : List Int} (h : vals.length ≤ 3) : ∀ n, (vex vals n).length ≤ 3 ^ n
  | 0 => Nat.le_refl _
  | n + 1 => by
    show (vexS vals (vex vals n)).length ≤ _
    rw [vexS_len, Nat.pow_succ]
    exact Nat.mul_le_mul (vex_len h n) h
def gZipA : List Str → List Int → Gv → Gv
  | x :: xs, v :: vs, g => gZipA xs vs (gPut g x v)
  | _, _, g => g
theorem zip_lk (f : Str → Int) (x : Str) : ∀ (xs : List Str) (g : Gv), gLk (gZipA xs (xs.map f) g) x = if x ∈ xs then some (f x) else gLk g x
  | [], g => by simp [gZipA]
  | y :: xs, g => by
    show gLk (gZipA xs (xs.map f) (gPut g y (f y))) x = _
    rw [zip_lk f x xs, lk_put]
    by_cases c : x ∈ xs
    · rw [if_pos c, if_pos (List.mem_cons_of_mem _ c)]
    · rw [if_neg c]
      by_cases c2 : y = x
      · subst c2; rw [if_pos rfl, if_pos List.mem_cons_self]
      · rw [if_neg c2, if_neg (fun q => (List.mem_cons.mp q).elim (fun e => c2 e.symm) c)]
theorem zip_merge : ∀ (xs : List Str) (vs : List Int) (g : Gv), mergeKD (gK g) ((xs.map Sum.inr).zip (vs.map D.int)) = gK (gZipA xs vs g)
  | [], _, g => rfl
  | _ :: _, [], g => rfl
  | x :: xs, v :: vs, g => by
    show mergeKD (putKD (gK g) (.inr x) (.int v)) ((xs.map Sum.inr).zip (vs.map D.int)) = _
    rw [put_gK, zip_merge xs vs]
    rfl
theorem ex_fn : ∀ {xs : List Str} {r : List Int}, xs.Nodup → r.length = xs.length → ∃ f : Str → Int, r = xs.map f
  | [], [], _, _ => ⟨fun _ => 0, rfl⟩
  | [], _ :: _, _, h => by cases h
  | _ :: _, [], _, h => by cases h
  | x :: xs, v :: r, hn, hl => by
    obtain ⟨h1, h2⟩ := List.nodup_cons.mp hn
    obtain ⟨f, rfl⟩ := ex_fn (r := r) h2 (by simpa using hl)
    refine ⟨fun y => if y = x then v else f y, ?_⟩
    rw [List.map_cons, if_pos rfl]
    refine congrArg (v :: ·) (List.map_congr_left fun y hy => ?_)
    rw [if_neg fun e => h1 (by rw [← e]; exact hy)]
def satB (tb : List Bt) (as : List At) (cs : List Ck) (f : Str → Int) : Bool := (as.all fun a => decide (a.ts.map (ev f) ∈ rowsW tb a.w)) && cs.all (ckB f)
theorem satB_iff {tb : List Bt} {as : List At} {cs : List Ck} {f : Str → Int} : satB tb as cs f = true ↔ SatA tb as f ∧ ∀ c ∈ cs, ckB f c = true := by
  unfold satB SatA
  rw [Bool.and_eq_true, List.all_eq_true, List.all_eq_true]
  simp only [decide_eq_true_eq]
theorem satB_congr {tb : List Bt} {as : List At} {cs : List Ck} {f f' : Str → Int} (hc : ∀ c ∈ cs, CkIn as c) (h : ∀ x ∈ usd as, f x = f' x) : satB tb as cs f = satB tb as cs f' := by
  rw [Bool.eq_iff_iff, satB_iff, satB_iff]
  refine and_congr ⟨satA_congr h, satA_congr fun x hx => (h x hx).symm⟩ ⟨fun q c hcc => ?_, fun q c hcc => ?_⟩
  · rw [← ckB_congr (hc c hcc) h]; exact q c hcc
  · rw [ckB_congr (hc c hcc) h]; exact q c hcc
def zf (xs : List Str) (r : List Int) : Str → Int := fng (gZipA xs r [])
theorem zf_map {xs : List Str} {f : Str → Int} {x : Str} (h : x ∈ xs) : zf xs (xs.map f) x = f x := by
  show (gLk (gZipA xs (xs.map f) []) x).getD 0 = _
  rw [zip_lk, if_pos h]
  rfl
theorem sat_ans {tb : List Bt} {as : List At} {cs : List Ck} {r : List Int} (hc : ∀ c ∈ cs, CkIn as c) (hl : r.length = (nms as).length) : satB tb as cs (zf (nms as) r) = true ↔ Ans tb as cs (nms as) r := by
  obtain ⟨f, rfl⟩ := ex_fn (nodup_nms as) hl
  have e : satB tb as cs (zf (nms as) ((nms as).map f)) = satB tb as cs f := satB_congr hc fun x hx => zf_map (mem_nms.mpr hx)
  rw [e, satB_iff]
  constructor
  · rintro ⟨h1, h2⟩; exact ⟨f, h1, h2, rfl⟩
  · rintro ⟨f', h1, h2, e'⟩
    have q : ∀ x ∈ usd as, f' x = f x := fun x hx => (List.map_inj_left.mp e' x (mem_nms.mpr hx)).symm
    refine ⟨satA_congr q h1, fun c hcc => ?_⟩
    rw [← ckB_congr (hc c hcc) q]; exact h2 c hcc
def vof (tb : List Bt) : List Int := tb.flatMap fun x => x.rows.flatten
theorem rowsW_mem {tb : List Bt} {w : Str} {r : List Int} (h : r ∈ rowsW tb w) : ∃ x ∈ tb, x.w = w ∧ r ∈ x.rows := by
  unfold rowsW at h
  split at h
  · rename_i x e
    exact ⟨x, List.mem_of_find?_eq_some e, by simpa using List.find?_some e, h⟩
  · cases h
def due (tb : List Bt) (as : List At) (cs : List Ck) (vals : List Int) : List (List Int) := (vex vals (nms as).length).filter fun r => satB tb as cs (zf (nms as) r)
theorem mem_due {tb : List Bt} {as : List At} {cs : List Ck} {vals : List Int} {r : List Int} (hc : ∀ c ∈ cs, CkIn as c) (hm : ∀ v, v ∈ vals ↔ v ∈ vof tb) : r ∈ due tb as cs vals ↔ Ans tb as cs (nms as) r := by
  unfold due
  rw [List.mem_filter, mem_vex]
  constructor
  · rintro ⟨⟨h1, _⟩, h2⟩
    exact (sat_ans hc h1).mp h2
  · intro h
    have hl : r.length = (nms as).length := by
      obtain ⟨f, _, _, rfl⟩ := h
      exact List.length_map _
    refine ⟨⟨hl, fun v hv => ?_⟩, (sat_ans hc hl).mpr h⟩
    obtain ⟨f, h1, _, rfl⟩ := h
    obtain ⟨x, hx, rfl⟩ := List.mem_map.mp hv
    obtain ⟨a, ha, ht⟩ := mem_usd.mp (mem_nms.mp hx)
    obtain ⟨y, hy, _, hr⟩ := rowsW_mem (h1 a ha)
    refine (hm _).mpr (List.mem_flatMap.mpr ⟨y, hy, List.mem_flatten.mpr ⟨_, hr, List.mem_map.mpr ⟨_, ht, rfl⟩⟩⟩)
theorem due_up {tb : List Bt} {as : List At} {cs : List Ck} {vals : List Int} (hv : vals.Pairwise (· < ·)) : (due tb as cs vals).Pairwise fun a b => ltR a b = true := (vex_up hv _).filter _
theorem due_eq {tb : List Bt} {as : List At} {cs : List Ck} {vals : List Int} (hf : Fit tb as) (hc : ∀ c ∈ cs, CkIn as c) (hv : vals.Pairwise (· < ·)) (hm : ∀ v, v ∈ vals ↔ v ∈ vof tb) : due tb as cs vals = srtR (ans tb as cs (nms as)) := by
  refine strict_ext ltR_swo (due_up hv) (sortL_strict ltR_swo ltR_tri (nodup_dedL _)) fun r => ?_
  unfold srtR
  rw [mem_due hc hm, (sortL_perm _).mem_iff, mem_dedL, mem_ans hf hc fun x hx => mem_nms.mp hx]
theorem due_len {tb : List Bt} {as : List At} {cs : List Ck} {vals : List Int} (h3 : vals.length ≤ 3) (h4 : (nms as).length ≤ 4) : (due tb as cs vals).length ≤ 81 := by
  unfold due
  refine Nat.le_trans (List.length_filter_le _ _) (Nat.le_trans (vex_len h3 _) ?_)
  exact Nat.pow_le_pow_right (by omega) h4
end Dv
namespace Dv
open PySem L2
theorem abcd_pl {x : Str} (h : x ∈ abcd) : pl 0 (.str x) = true := by
  simp at h
  show PyData.strOk x = true
  rcases h with rfl | rfl | rfl | rfl <;> decide +kernel
theorem inL_abcd {x : Str} {ns : List Str} (hx : x ∈ abcd) (hn : ∀ y ∈ ns, y ∈ abcd) : inTO (.str x) (.lst (ns.map D.str)) = some (decide (x ∈ ns)) := by
  show inO (.str x) (.lst (ns.map D.str)) = _
  rw [inO_pl (k := 0) (abcd_pl hx) (List.all_eq_true.mpr fun d hd => by
    obtain ⟨y, hy, rfl⟩ := List.mem_map.mp hd
    exact abcd_pl (hn y hy)) (by decide)]
  congr 1
  refine decide_eq_decide.mpr ?_
  simp
section
variable {S : Store}
theorem nmT_ok {acc : List Str} {t : Tm} (ht : t.Ok) (ha : ∀ y ∈ acc, y ∈ abcd) : ∀ y ∈ nmT acc t, y ∈ abcd := by
  cases t with
  | vl i => exact ha
  | nm x =>
    rw [nmT_nm]
    by_cases c : x ∈ acc
    · rw [if_pos c]; exact ha
    · rw [if_neg c]
      intro y hy
      rcases List.mem_append.mp hy with q | q
      · exact ha y q
      · rw [List.mem_singleton.mp q]; exact ht
theorem nmT_len (acc : List Str) (t : Tm) : (nmT acc t).length ≤ acc.length + 1 := by
  cases t with
  | vl i => exact Nat.le_succ _
  | nm x =>
    rw [nmT_nm]
    split <;> simp
theorem nmsT_ok : ∀ {ts : List Tm} {acc : List Str}, (∀ t ∈ ts, t.Ok) → (∀ y ∈ acc, y ∈ abcd) → ∀ y ∈ nmsT ts acc, y ∈ abcd
  | [], _, _, ha => ha
  | t :: ts, _, ht, ha => nmsT_ok (ts := ts) (fun u hu => ht u (List.mem_cons_of_mem _ hu)) (nmT_ok (ht t List.mem_cons_self) ha)
theorem nmsT_len : ∀ (ts : List Tm) (acc : List Str), (nmsT ts acc).length ≤ acc.length + ts.length
  | [], _ => Nat.le_refl _
  | t :: ts, acc => by
    have h1 := nmsT_len ts (nmT acc t)
    have h2 := nmT_len acc t
    show (nmsT ts (nmT acc t)).length ≤ _
    rw [List.length_cons]
    omega
def mNamB : SM := (sIf (mAndT (mTru (mCall isiD (mCons (mVar 2) (mCons (mC (.ty "str")) mNil)))) (mT (mBin ninTD (mVar 2) (mVar 1)))) (sDrop (mAppend (mVar 1) (mVar 2))) sNil)
def mNamesIn : SM := (sSeq (sSet 1 (mNewL mNil))
    (sSeq (sFor (mIter (mVar 0)) (tgN 2) mNamB)
    (sRet (mCall tupD (mCons (mVar 1) mNil)))))
def FNamesIn : List D → Store → R D := runT 3 mNamesIn
theorem namB_loop {d0 : D} : ∀ (ts : List Tm) (acc : List Str) (y2 : Option D), (∀ t ∈ ts, t.Ok) → (∀ y ∈ acc, y ∈ abcd) → acc.length + ts.length ≤ 90000 →
    ∃ y2', sLoop (tgN 2) mNamB (ts.map trD) [some d0, some (.loc S.length), y2] (S ++ [.lst (acc.map D.str)]) = .ok .next [some d0, some (.loc S.length), y2'] (S ++ [.lst ((nmsT ts acc).map D.str)])
  | [], acc, y2, _, _, _ => ⟨y2, rfl⟩
  | t :: ts, acc, y2, ht, ha, hl => by
    have hte := ht t List.mem_cons_self
    have step : mNamB [some d0, some (.loc S.length), some (trD t)] (S ++ [.lst (acc.map D.str)]) = .ok .next [some d0, some (.loc S.length), some (trD t)] (S ++ [.lst ((nmT acc t).map D.str)]) := by
      have e1 := isi_tr t (S ++ [.lst (acc.map D.str)])
      unfold mNamB
      cases t with
      | nm x =>
        have e1 : isiD [.str x, .ty "str"] (S ++ [.lst (acc.map D.str)]) = some (.bl true) := e1
        have e2 : ninTD (.str x) (.loc S.length) (S ++ [.lst (acc.map D.str)]) = some (.bl (!decide (x ∈ acc))) := by
          have en : now (.loc S.length) (S ++ [.lst (acc.map D.str)]) = .lst (acc.map D.str) := by
            unfold now
            simp only [last_at]
          show (inTO (.str x) (now (.loc S.length) (S ++ [.lst (acc.map D.str)]))).map (fun k => D.bl (!k)) = _
          rw [en, inL_abcd hte ha]
          rfl
        have hal : acc.length < 100000 := by simp at hl; omega
        rw [nmT_nm, show trD (.nm x) = .str x from rfl]
        by_cases c : x ∈ acc
        · simp [e1, e2, c]
        · simp [e1, e2, c, last_at, last_set, hal]
      | vl i =>
        have e1 : isiD [.int i, .ty "str"] (S ++ [.lst (acc.map D.str)]) = some (.bl false) := e1
        rw [show trD (.vl i) = .int i from rfl, show nmT acc (.vl i) = acc from rfl]
        simp [e1]
    rw [List.map_cons, loop_step (r := [some d0, some (.loc S.length), y2]) rfl step]
    exact namB_loop ts (nmT acc t) (some (trD t)) (fun u hu => ht u (List.mem_cons_of_mem _ hu)) (nmT_ok hte ha) (by
      have := nmT_len acc t
      simp at hl
      omega)
theorem namesIn_ok {d0 : D} {ts : List Tm} (hd : seqD d0 = some (ts.map trD)) (ht : ∀ t ∈ ts, t.Ok) (hl : ts.length ≤ 90000) : FNamesIn [d0] S = .ok (.tup ((nmsT ts []).map D.str)) S := by
  obtain ⟨y2, e⟩ := namB_loop (S := S) (d0 := d0) ts [] none ht (by simp) (by simpa using hl)
  show finT S (mNamesIn (frame 3 _) S) = _
  have ef : frame 3 [d0] = [some d0, none, none] := rfl
  have eb : mNamesIn [some d0, none, none] S = .ok (.ret (.tup ((nmsT ts []).map D.str))) [some d0, some (.loc S.length), y2] (S ++ [.lst ((nmsT ts []).map D.str)]) := by
    unfold mNamesIn
    have e' : sLoop (tgN 2) mNamB (ts.map trD) [some d0, some (.loc S.length), none] (S ++ [.lst []]) = _ := e
    simp [hd, e', last_at]
  rw [ef, eb]
  exact fin_ret_app _ (fz_clo (show clo _ (.tup _) = true from cloL_strs _ _))
def mNamesOf : SM := (sRet (mApp 1 FNamesIn (mCons (mLc2 (mIter (mBin ixD (mVar 0) (mC (.int 0)))) [1, 2, 3] (tgT 2 (tgsCons (tgN 1) (tgsCons (tgN 2) tgsNil))) mYes (mIter (mVar 2)) [3] (tgN 3) mYes (mVar 3)) mNil)))
def FNamesOf : List D → Store → R D := runT 4 mNamesOf
theorem lc2_terms {y0 y1 y2 y3 : Option D} : ∀ as : List At, lcL2 (tgT 2 (tgsCons (tgN 1) (tgsCons (tgN 2) tgsNil))) mYes (mIter (mVar 2)) [3] (tgN 3) mYes (mVar 3) [y0, y1, y2, y3] (as.map atD) S = .ok ((tmsA as).map trD) S
  | [] => rfl
  | a :: as => by
    have ih := lc2_terms (y0 := y0) (y1 := y1) (y2 := y2) (y3 := y3) as
    have inner : lcL (tgN 3) mYes (mVar 3) [y0, some (.str a.w), some (.tup (a.ts.map trD)), none] (a.ts.map trD) S = .ok (a.ts.map trD) S := by
      have := lc_map (gm := tgN 3) (te := mVar 3) (r0 := [y0, some (.str a.w), some (.tup (a.ts.map trD)), none]) (S := S) id (a.ts.map trD) fun d hd => ⟨[y0, some (.str a.w), some (.tup (a.ts.map trD)), some d], rfl, rfl⟩
      rw [List.map_id] at this
      exact this
    have et : (tmsA (a :: as)).map trD = a.ts.map trD ++ (tmsA as).map trD := by
      show (a.ts ++ tmsA as).map trD = _
      rw [List.map_append]
    rw [List.map_cons, lcL2_cons, et]
    simp [inner, ih, atD]
theorem tmsA_ok {as : List At} (h : ∀ a ∈ as, ∀ t ∈ a.ts, t.Ok) : ∀ t ∈ tmsA as, t.Ok := fun t ht => by
  obtain ⟨a, ha, h2⟩ := List.mem_flatMap.mp ht
  exact h a ha t h2
theorem tmsA_len : ∀ {as : List At}, (∀ a ∈ as, a.ts.length ≤ 3) → (tmsA as).length ≤ 3 * as.length
  | [], _ => Nat.le_refl _
  | a :: as, h => by
    have h1 := tmsA_len (as := as) fun b hb => h b (List.mem_cons_of_mem _ hb)
    have h2 := h a List.mem_cons_self
    show (a.ts ++ tmsA as).length ≤ _
    rw [List.length_append, List.length_cons]
    omega
theorem namesOf_ok {as : List At} {c : D} (h : ∀ a ∈ as, ∀ t ∈ a.ts, t.Ok) (hl : (tmsA as).length ≤ 90000) : FNamesOf [.tup [.tup (as.map atD), c]] S = .ok (.tup ((nms as).map D.str)) S := by
  refine fn_ret (show clo _ (.tup _) = true from cloL_strs _ _) ⟨[some (.tup [.tup (as.map atD), c]), none, none, none], ?_⟩
  show mNamesOf [some (.tup [.tup (as.map atD), c]), none, none, none] S = _
  have e1 := lc2_terms (S := S) (y0 := some (.tup [.tup (as.map atD), c])) (y1 := none) (y2 := none) (y3 := none) as
  have e2 := namesIn_ok (S := S) (d0 := .lst ((tmsA as).map trD)) rfl (tmsA_ok h) hl
  have hl' : (tmsA as).length ≤ 100000 := by omega
  have e3 : mLc2 (mIter (mBin ixD (mVar 0) (mC (.int 0)))) [1, 2, 3] (tgT 2 (tgsCons (tgN 1) (tgsCons (tgN 2) tgsNil))) mYes (mIter (mVar 2)) [3] (tgN 3) mYes (mVar 3) [some (.tup [.tup (as.map atD), c]), none, none, none] S = .ok (.lst ((tmsA as).map trD)) S := by
    unfold mLc2
    simp [atI_zero, e1, lcFin, hl']
  unfold mNamesOf
  simp [e3, e2]
  rfl
def mLNamB : SM := (sSet 1 (mBin addD (mVar 1) (mBin mulD (mLst (mCons (mVar 4) mNil)) (mCall intD (mCons (mAnd (mCall isiD (mCons (mVar 4) (mCons (mC (.ty "str")) mNil))) (mBin ninTD (mVar 4) (mVar 1))) mNil)))))
def mLNames : SM := (sSeq (sSet 1 (mLst mNil)) (sSeq (sFor (mIter (mBin ixD (mVar 0) (mC (.int 0)))) (tgT 2 (tgsCons (tgN 2) (tgsCons (tgN 3) tgsNil))) (sFor (mIter (mVar 3)) (tgN 4) mLNamB)) (sRet (mVar 1))))
def FLNames : List D → Store → R D := runT 5 mLNames
theorem lnamB_ok {y0 y2 y3 : Option D} {t : Tm} {acc : List Str} (ht : t.Ok) (ha : ∀ y ∈ acc, y ∈ abcd) (hl : acc.length ≤ 90000) :
    mLNamB [y0, some (.lst (acc.map D.str)), y2, y3, some (trD t)] S = .ok .next [y0, some (.lst ((nmT acc t).map D.str)), y2, y3, some (trD t)] S := by
  unfold mLNamB
  have e1 := isi_tr t S
  have hl1 : acc.length ≤ 100000 := by omega
  have hl2 : acc.length + 1 ≤ 100000 := by omega
  cases t with
  | nm x =>
    have e1 : isiD [.str x, .ty "str"] S = some (.bl true) := e1
    have e2 : ninTD (.str x) (.lst (acc.map D.str)) S = some (.bl (!decide (x ∈ acc))) := by
      show (inTO (.str x) (.lst (acc.map D.str))).map (fun k => D.bl (!k)) = _
      rw [inL_abcd ht ha]
      rfl
    rw [nmT_nm, show trD (.nm x) = .str x from rfl]
    by_cases c : x ∈ acc
    · simp [e1, e2, c, hl1]
    · simp [e1, e2, c, hl2]
  | vl i =>
    have e1 : isiD [.int i, .ty "str"] S = some (.bl false) := e1
    rw [show trD (.vl i) = .int i from rfl, show nmT acc (.vl i) = acc from rfl]
    simp [e1, hl1]
theorem lnamB_loop {y0 y2 y3 : Option D} : ∀ (ts : List Tm) (acc : List Str) (y4 : Option D), (∀ t ∈ ts, t.Ok) → (∀ y ∈ acc, y ∈ abcd) → acc.length + ts.length ≤ 90000 →
    ∃ y4', sLoop (tgN 4) mLNamB (ts.map trD) [y0, some (.lst (acc.map D.str)), y2, y3, y4] S = .ok .next [y0, some (.lst ((nmsT ts acc).map D.str)), y2, y3, y4'] S
  | [], acc, y4, _, _, _ => ⟨y4, rfl⟩
  | t :: ts, acc, y4, ht, ha, hl => by
    have hd := ht t List.mem_cons_self
    have e1 := lnamB_ok (S := S) (y0 := y0) (y2 := y2) (y3 := y3) hd ha (by simp at hl; omega)
    rw [List.map_cons, loop_step (r := [y0, some (.lst (acc.map D.str)), y2, y3, y4]) rfl e1]
    exact lnamB_loop ts (nmT acc t) (some (trD t)) (fun u hu => ht u (List.mem_cons_of_mem _ hu)) (nmT_ok hd ha) (by
      have := nmT_len acc t
      simp at hl
      omega)
theorem lnam_loop {y0 : Option D} : ∀ (as : List At) (acc : List Str) (y2 y3 y4 : Option D), (∀ a ∈ as, ∀ t ∈ a.ts, t.Ok) → (∀ a ∈ as, a.ts.length ≤ 3) → (∀ y ∈ acc, y ∈ abcd) → acc.length + 3 * as.length ≤ 9000 →
    ∃ y2' y3' y4', sLoop (tgT 2 (tgsCons (tgN 2) (tgsCons (tgN 3) tgsNil))) (sFor (mIter (mVar 3)) (tgN 4) mLNamB) (as.map atD) [y0, some (.lst (acc.map D.str)), y2, y3, y4] S = .ok .next [y0, some (.lst ((nmsT (tmsA as) acc).map D.str)), y2', y3', y4'] S
  | [], acc, y2, y3, y4, _, _, _, _ => ⟨y2, y3, y4, rfl⟩
  | a :: as, acc, y2, y3, y4, h, h3, ha, hl => by
    have ht := h a List.mem_cons_self
    have tl := h3 a List.mem_cons_self
    obtain ⟨z4, e1⟩ := lnamB_loop (S := S) (y0 := y0) (y2 := some (.str a.w)) (y3 := some (.tup (a.ts.map trD))) a.ts acc y4 ht ha (by simp at hl; omega)
    have e2 : sFor (mIter (mVar 3)) (tgN 4) mLNamB [y0, some (.lst (acc.map D.str)), some (.str a.w), some (.tup (a.ts.map trD)), y4] S = .ok .next [y0, some (.lst ((nmsT a.ts acc).map D.str)), some (.str a.w), some (.tup (a.ts.map trD)), z4] S := by
      simp [e1]
    rw [List.map_cons, loop_step (r := [y0, some (.lst (acc.map D.str)), y2, y3, y4]) (r1 := [y0, some (.lst (acc.map D.str)), some (.str a.w), some (.tup (a.ts.map trD)), y4]) rfl e2]
    rw [show tmsA (a :: as) = a.ts ++ tmsA as from rfl, nmsT_app]
    exact lnam_loop as _ _ _ _ (fun b hb => h b (List.mem_cons_of_mem _ hb)) (fun b hb => h3 b (List.mem_cons_of_mem _ hb)) (nmsT_ok ht ha) (by
      have := nmsT_len a.ts acc
      simp at hl
      omega)
theorem lnames_ok {as : List At} {c : D} (h : ∀ a ∈ as, ∀ t ∈ a.ts, t.Ok) (h3 : ∀ a ∈ as, a.ts.length ≤ 3) (hl : as.length ≤ 100) : FLNames [.tup [.tup (as.map atD), c]] S = .ok (.lst ((nms as).map D.str)) S := by
  refine fn_ret (show clo _ (.lst _) = true from cloL_strs _ _) ?_
  show ∃ rho, mLNames [some (.tup [.tup (as.map atD), c]), none, none, none, none] S = _
  obtain ⟨y2, y3, y4, e⟩ := lnam_loop (S := S) (y0 := some (.tup [.tup (as.map atD), c])) as [] none none none h h3 (by simp) (by simp; omega)
  have e' : sLoop (tgT 2 (tgsCons (tgN 2) (tgsCons (tgN 3) tgsNil))) (sFor (mIter (mVar 3)) (tgN 4) mLNamB) (as.map atD) [some (.tup [.tup (as.map atD), c]), some (.lst []), none, none, none] S = _ := e
  unfold mLNames
  exact ⟨_, by simp [atI_zero, e', -sFor_ap, sFor_ap (mIter (mBin ixD (mVar 0) (mC (.int 0))))]; exact ⟨rfl, rfl⟩⟩
end
end Dv
namespace Dv
open PySem L2
theorem lc_src {α : Type} {gm : D → Env → Option Env} {tt : BM} {te : EM} {r0 : Env} {S : Store} (s : α → D) (p : α → Bool) (f : α → D) : ∀ xs : List α,
    (∀ x ∈ xs, ∃ r1, gm (s x) r0 = some r1 ∧ tt r1 S = .ok (p x) S ∧ (p x = true → te r1 S = .ok (f x) S)) → lcL gm tt te r0 (xs.map s) S = .ok ((xs.filter p).map f) S
  | [], _ => rfl
  | d :: ds, h => by
    obtain ⟨r1, e1, e2, e3⟩ := h d List.mem_cons_self
    have ih := lc_src s p f ds fun d h' => h d (List.mem_cons_of_mem _ h')
    rw [List.map_cons, lcL_cons, e1]
    cases q : p d with
    | false => simp [e2, q, ih]
    | true => simp [e2, q, e3 q, ih]
theorem lc_all {α : Type} {gm : D → Env → Option Env} {te : EM} {r0 : Env} {S : Store} (s : α → D) (f : α → D) (xs : List α)
    (h : ∀ x ∈ xs, ∃ r1, gm (s x) r0 = some r1 ∧ te r1 S = .ok (f x) S) : lcL gm mYes te r0 (xs.map s) S = .ok (xs.map f) S := by
  have := lc_src (gm := gm) (tt := mYes) (te := te) (r0 := r0) (S := S) s (fun _ => true) f xs fun d hd => by
    obtain ⟨r1, a, b⟩ := h d hd
    exact ⟨r1, a, rfl, fun _ => b⟩
  rw [this, List.filter_eq_self.mpr fun _ _ => rfl]
theorem pqrs_pl {x : Str} (h : x ∈ pqrs) : pl 0 (.str x) = true := by
  simp at h
  show PyData.strOk x = true
  rcases h with rfl | rfl | rfl | rfl <;> decide +kernel
theorem eqD_strs {x y : Str} {S : Store} (hx : pl 0 (.str x) = true) (hy : pl 0 (.str y) = true) : eqD (.str x) (.str y) S = some (.bl (decide (x = y))) := by
  have h := eqD_pl (k := 0) (a := .str x) (b := .str y) (S := S) hx hy (by decide)
  rw [h]
  congr 2
  refine decide_eq_decide.mpr ?_
  show D.str x = D.str y ↔ _
  simp
theorem clo_rowsT (m : Nat) (rows : List (List Int)) : clo m (.tup (rows.map rowD)) = true := cloL_rows m rows
section
variable {S : Store}
def mRowsOf : SM := (sRet (mBin ixD (mLc (mIter (mVar 0)) [2, 3, 4] (tgT 3 (tgsCons (tgN 2) (tgsCons (tgN 3) (tgsCons (tgN 4) tgsNil)))) (mT (mBin eqD (mVar 2) (mVar 1))) (mVar 4)) (mC (.int 0))))
def FRowsOf : List D → Store → R D := runT 5 mRowsOf
theorem rowsW_some {tb : List Bt} {w : Str} (h : ∃ x ∈ tb, x.w = w) : ∃ y rest, tb.filter (fun x => decide (x.w = w)) = y :: rest ∧ rowsW tb w = y.rows := by
  unfold rowsW
  rw [← List.head?_filter]
  cases q : tb.filter (fun x => decide (x.w = w)) with
  | nil =>
    obtain ⟨x, hx, e⟩ := h
    have : x ∈ tb.filter (fun x => decide (x.w = w)) := List.mem_filter.mpr ⟨hx, decide_eq_true e⟩
    rw [q] at this
    cases this
  | cons y rest => exact ⟨y, rest, rfl, rfl⟩
theorem rowsOf_ok {tb : List Bt} {w : Str} (htb : ∀ x ∈ tb, x.w ∈ pqrs) (h : ∃ x ∈ tb, x.w = w) : FRowsOf [.tup (tb.map tabD), .str w] S = .ok (.tup ((rowsW tb w).map rowD)) S := by
  obtain ⟨y, rest, e1, e2⟩ := rowsW_some h
  refine fn_ret (clo_rowsT _ _) ⟨[some (.tup (tb.map tabD)), some (.str w), none, none, none], ?_⟩
  show mRowsOf [some (.tup (tb.map tabD)), some (.str w), none, none, none] S = _
  have hw : pl 0 (.str w) = true := by
    obtain ⟨x, hx, rfl⟩ := h
    exact pqrs_pl (htb x hx)
  have lc := lc_src (gm := tgT 3 (tgsCons (tgN 2) (tgsCons (tgN 3) (tgsCons (tgN 4) tgsNil)))) (tt := mT (mBin eqD (mVar 2) (mVar 1))) (te := mVar 4) (r0 := [some (.tup (tb.map tabD)), some (.str w), none, none, none]) (S := S) tabD (fun x => decide (x.w = w)) (fun x => .tup (x.rows.map rowD)) tb fun x hx => ⟨[some (.tup (tb.map tabD)), some (.str w), some (.str x.w), some (.int x.n), some (.tup (x.rows.map rowD))], rfl, by simp [eqD_strs (S := S) (pqrs_pl (htb x hx)) hw], fun _ => rfl⟩
  rw [e1, List.map_cons] at lc
  unfold mRowsOf
  simp [lc, atI_zero, e2]
def mValueOf : SM := (sRet (mIf (mTru (mCall isiD (mCons (mVar 0) (mCons (mC (.ty "str")) mNil)))) (mBin dgetD (mVar 1) (mVar 0)) (mVar 0)))
def FValueOf : List D → Store → R D := runT 2 mValueOf
theorem dget_g {g : Gv} {x : Str} {v : Int} {d : D} (hd : dctAt d S = some (gK g)) (h : gLk g x = some v) : dgetD d (.str x) S = some (.int v) := by
  show (match dctAt d S, keyOf (.str x) with
    | some kds, some k => valKD kds k
    | _, _ => none) = _
  rw [hd]
  show valKD (gK g) (.inr x) = _
  rw [val_gK, h]
  rfl
theorem valueOf_ok {g : Gv} {t : Tm} {v : Int} (h : evo g t = some v) : FValueOf [trD t, .dct (gK g)] S = .ok (.int v) S := by
  refine fn_ret rfl ⟨[some (trD t), some (.dct (gK g))], ?_⟩
  show mValueOf [some (trD t), some (.dct (gK g))] S = _
  have e1 := isi_tr t S
  unfold mValueOf
  cases t with
  | nm x =>
    have e1 : isiD [.str x, .ty "str"] S = some (.bl true) := e1
    rw [show trD (.nm x) = .str x from rfl]
    simp [e1, dget_g (S := S) (d := .dct (gK g)) rfl h]
  | vl i =>
    have e1 : isiD [.int i, .ty "str"] S = some (.bl false) := e1
    have h : v = i := (Option.some.inj h).symm
    rw [show trD (.vl i) = .int i from rfl, h]
    simp [e1]
def mCheckHolds : SM := (sSeq (sAsg (mVar 0) (tgT 3 (tgsCons (tgN 2) (tgsCons (tgN 3) (tgsCons (tgN 4) tgsNil)))))
    (sSeq (sPar 5 6 (mCons (mApp 2 FValueOf (mCons (mVar 3) (mCons (mVar 1) mNil))) (mCons (mApp 2 FValueOf (mCons (mVar 4) (mCons (mVar 1) mNil))) mNil)))
    (sRet (mIf (mT (mBin eqD (mVar 2) (mC (.str "less")))) (mBin ltD (mVar 5) (mVar 6)) (mBin neD (mVar 5) (mVar 6))))))
def FCheckHolds : List D → Store → R D := runT 7 mCheckHolds
theorem less_pl : pl 0 (.str "less") = true := by
  show PyData.strOk "less" = true
  decide +kernel
theorem srt_pl {s : Str} (h : s = "less" ∨ s = "unlike") : pl 0 (.str s) = true := by
  rcases h with rfl | rfl
  · exact less_pl
  · show PyData.strOk "unlike" = true
    decide +kernel
def CkG (g : Gv) (c : Ck) : Prop := (c.s = "less" ∨ c.s = "unlike") ∧ (gLk g c.x).isSome = true ∧ ∀ y, c.z = .nm y → (gLk g y).isSome = true
theorem evo_of {g : Gv} {t : Tm} (h : ∀ y, t = .nm y → (gLk g y).isSome = true) : evo g t = some (ev (fng g) t) := by
  cases t with
  | nm y =>
    obtain ⟨v, hv⟩ := Option.isSome_iff_exists.mp (h y rfl)
    show gLk g y = some ((gLk g y).getD 0)
    rw [hv]
    rfl
  | vl i => rfl
theorem checkHolds_ok {g : Gv} {c : Ck} (h : CkG g c) : FCheckHolds [ckD c, .dct (gK g)] S = .ok (.bl (ckB (fng g) c)) S := by
  obtain ⟨hs, hx, hz⟩ := h
  have e1 : FValueOf [.str c.x, .dct (gK g)] S = .ok (.int (fng g c.x)) S := valueOf_ok (t := .nm c.x) (evo_of fun y e => by cases e; exact hx)
  have e2 : FValueOf [trD c.z, .dct (gK g)] S = .ok (.int (ev (fng g) c.z)) S := valueOf_ok (evo_of hz)
  refine fn_ret rfl ⟨[some (ckD c), some (.dct (gK g)), some (.str c.s), some (.str c.x), some (trD c.z), some (.int (fng g c.x)), some (.int (ev (fng g) c.z))], ?_⟩
  show mCheckHolds [some (ckD c), some (.dct (gK g)), none, none, none, none, none] S = _
  have e3 := eqD_strs (S := S) (srt_pl hs) less_pl
  unfold mCheckHolds
  rw [show ckD c = .tup [.str c.s, .str c.x, trD c.z] from rfl]
  by_cases q : c.s = "less"
  · rw [q] at e3
    simp [e1, e2, e3, q, ckB]
  · simp [e1, e2, e3, q, ckB]
def Ks (g : Gv) : Prop := (g.map (·.1)).Nodup
theorem lk_none {x : Str} : ∀ {g : Gv}, gLk g x = none ↔ x ∉ g.map (·.1)
  | [] => by simp [gLk]
  | p :: g => by
    show (if p.1 = x then some p.2 else gLk g x) = none ↔ _
    by_cases c : p.1 = x
    · simp [c]
    · rw [if_neg c, lk_none, List.map_cons]
      refine not_congr ⟨fun h => List.mem_cons_of_mem _ h, fun h => ?_⟩
      rcases List.mem_cons.mp h with e | h
      · exact absurd e.symm c
      · exact h
theorem put_new {g : Gv} {x : Str} {v : Int} (h : gLk g x = none) : gPut g x v = g ++ [(x, v)] := by
  unfold gPut
  rw [h]
  rfl
theorem ks_put {g : Gv} {x : Str} {v : Int} (k : Ks g) (h : gLk g x = none) : Ks (gPut g x v) := by
  rw [put_new h]
  unfold Ks
  rw [List.map_append]
  exact List.nodup_append.mpr ⟨k, by simp, fun a ha b hb e => lk_none.mp h (by
    have hb : b = x := by simpa using hb
    rw [← hb, ← e]
    exact ha)⟩
theorem copy_g {r0 : Env} (h0 : ∃ y0 y1 y2 y3 y6, r0 = [y0, y1, y2, y3, none, none, y6]) : ∀ (g acc : Gv), Ks (acc ++ g) → (acc ++ g).length ≤ 1000 → dcL (tgT 2 (tgsCons (tgN 4) (tgsCons (tgN 5) tgsNil))) mYes (mVar 4) (mVar 5) r0 (itemsOf (gK g)) (gK acc) S = .ok (gK (acc ++ g)) S
  | [], acc, _, _ => by rw [List.append_nil]; rfl
  | p :: g, acc, k, hl => by
    obtain ⟨y0, y1, y2, y3, y6, rfl⟩ := h0
    have hn : gLk acc p.1 = none := lk_none.mpr fun hm => by
      unfold Ks at k
      rw [List.map_append] at k
      exact (List.nodup_append.mp k).2.2 p.1 hm p.1 (by simp) rfl
    have ih := copy_g ⟨y0, y1, y2, y3, y6, rfl⟩ g (acc ++ [p]) (by rw [List.append_assoc]; exact k) (by rw [List.append_assoc]; exact hl)
    have hl2 : (gK acc).length < 90000 := by rw [gK_len]; simp at hl; omega
    have e : putKD (gK acc) (.inr p.1) (.int p.2) = gK (acc ++ [p]) := by rw [put_gK, put_new hn]
    show dcL _ _ _ _ _ (.tup [.str p.1, .int p.2] :: itemsOf (gK g)) (gK acc) S = _
    rw [dcL_cons]
    simp [hl2, e]
    rw [ih, List.append_assoc]
    rfl
def mMatB : SM := (sIf (mIfT (mTru (mCall isiD (mCons (mVar 6) (mCons (mC (.ty "str")) mNil)))) (mT (mBin neD (mSetDef (mVar 3) (mVar 6) (mVar 5)) (mVar 5))) (mT (mBin neD (mVar 6) (mVar 5)))) (sRet (mC .non)) sNil)
def mMatched : SM := (sSeq (sSet 3 (mDc true (mItems 2) [4, 5] (tgT 2 (tgsCons (tgN 4) (tgsCons (tgN 5) tgsNil))) mYes (mVar 4) (mVar 5)))
    (sSeq (sFor (mZip (mCons (mVar 0) (mCons (mVar 1) mNil))) (tgT 2 (tgsCons (tgN 6) (tgsCons (tgN 5) tgsNil))) mMatB)
    (sRet (mVar 3))))
def FMatched : List D → Store → R D := runT 7 mMatched
def zpD (ts : List Tm) (r : List Int) : List D := List.zipWith (fun a b => D.tup [a, b]) (ts.map trD) (r.map D.int)
theorem setdef_has {g : Gv} {x : Str} {v u : Int} {r : Env} (h3 : r[3]? = some (some (.loc S.length))) (h6 : r[6]? = some (some (.str x))) (h5 : r[5]? = some (some (.int v))) (hl : g.length ≤ 1000) (h : gLk g x = some u) : mSetDef (mVar 3) (mVar 6) (mVar 5) r (S ++ [.dct (gK g)]) = .ok (.int u) (S ++ [.dct (gK g)]) := by
  have hl2 : (gK g).length < 90000 := by rw [gK_len]; omega
  have e : valKD (gK g) (.inr x) = some (.int u) := by rw [val_gK, h]; rfl
  unfold mSetDef
  simp [h3, h6, h5, last_at, hl2, e]
theorem setdef_new {g : Gv} {x : Str} {v : Int} {r : Env} (h3 : r[3]? = some (some (.loc S.length))) (h6 : r[6]? = some (some (.str x))) (h5 : r[5]? = some (some (.int v))) (hl : g.length ≤ 1000) (h : gLk g x = none) : mSetDef (mVar 3) (mVar 6) (mVar 5) r (S ++ [.dct (gK g)]) = .ok (.int v) (S ++ [.dct (gK (gPut g x v))]) := by
  have hl2 : (gK g).length < 90000 := by rw [gK_len]; omega
  have e : valKD (gK g) (.inr x) = none := by rw [val_gK, h]; rfl
  unfold mSetDef
  simp [h3, h6, h5, last_at, hl2, e, put_gK]
theorem mat_loop {y0 y1 y2 y4 : Option D} : ∀ (ts : List Tm) (r : List Int) (g : Gv) (y5 y6 : Option D), g.length + ts.length ≤ 1000 →
    ∃ y5' y6', (∃ g', mtc ts r g = some g' ∧ sLoop (tgT 2 (tgsCons (tgN 6) (tgsCons (tgN 5) tgsNil))) mMatB (zpD ts r) [y0, y1, y2, some (.loc S.length), y4, y5, y6] (S ++ [.dct (gK g)]) = .ok .next [y0, y1, y2, some (.loc S.length), y4, y5', y6'] (S ++ [.dct (gK g')]))
      ∨ (mtc ts r g = none ∧ ∃ g', sLoop (tgT 2 (tgsCons (tgN 6) (tgsCons (tgN 5) tgsNil))) mMatB (zpD ts r) [y0, y1, y2, some (.loc S.length), y4, y5, y6] (S ++ [.dct (gK g)]) = .ok (.ret .non) [y0, y1, y2, some (.loc S.length), y4, y5', y6'] (S ++ [.dct (gK g')]))
  | [], r, g, y5, y6, _ => ⟨y5, y6, .inl ⟨g, by unfold mtc; rfl, by cases r <;> rfl⟩⟩
  | t :: ts, [], g, y5, y6, _ => ⟨y5, y6, .inl ⟨g, by cases t <;> rfl, rfl⟩⟩
  | .nm x :: ts, v :: r, g, y5, y6, hl => by
    have hl' : g.length + ts.length + 1 ≤ 1000 := by rw [List.length_cons] at hl; omega
    have e1 : ∀ S, isiD [.str x, .ty "str"] S = some (.bl true) := fun S => rfl
    show ∃ y5' y6', (∃ g', _ ∧ sLoop _ _ (D.tup [.str x, .int v] :: zpD ts r) _ _ = _) ∨ (_ ∧ ∃ g', sLoop _ _ (D.tup [.str x, .int v] :: zpD ts r) _ _ = _)
    cases q : gLk g x with
    | some u =>
      have sd := setdef_has (S := S) (g := g) (x := x) (v := v) (u := u) (r := [y0, y1, y2, some (.loc S.length), y4, some (.int v), some (.str x)]) rfl rfl rfl (by omega) q
      have em : mtc (.nm x :: ts) (v :: r) g = if u = v then mtc ts r g else none := by
        show (match gLk g x with
          | some u => if u = v then mtc ts r g else none
          | none => mtc ts r (gPut g x v)) = _
        rw [q]
      rw [em]
      by_cases c : u = v
      · rw [if_pos c, loop_step (r := [y0, y1, y2, some (.loc S.length), y4, y5, y6]) (r1 := [y0, y1, y2, some (.loc S.length), y4, some (.int v), some (.str x)]) rfl (by unfold mMatB; simp [e1, sd, c]; first | exact ⟨rfl, rfl⟩ | rfl)]
        exact mat_loop ts r g _ _ (by omega)
      · rw [if_neg c]
        exact ⟨some (.int v), some (.str x), .inr ⟨rfl, g, loop_out (r := [y0, y1, y2, some (.loc S.length), y4, y5, y6]) (r1 := [y0, y1, y2, some (.loc S.length), y4, some (.int v), some (.str x)]) rfl (by unfold mMatB; simp [e1, sd, c])⟩⟩
    | none =>
      have sd := setdef_new (S := S) (g := g) (x := x) (v := v) (r := [y0, y1, y2, some (.loc S.length), y4, some (.int v), some (.str x)]) rfl rfl rfl (by omega) q
      have em : mtc (.nm x :: ts) (v :: r) g = mtc ts r (gPut g x v) := by
        show (match gLk g x with
          | some u => if u = v then mtc ts r g else none
          | none => mtc ts r (gPut g x v)) = _
        rw [q]
      rw [em, loop_step (r := [y0, y1, y2, some (.loc S.length), y4, y5, y6]) (r1 := [y0, y1, y2, some (.loc S.length), y4, some (.int v), some (.str x)]) rfl (by unfold mMatB; simp [e1, sd]; first | exact ⟨rfl, rfl⟩ | rfl)]
      exact mat_loop ts r _ _ _ (by have := put_len g x v; omega)
  | .vl i :: ts, v :: r, g, y5, y6, hl => by
    have hl' : g.length + ts.length + 1 ≤ 1000 := by rw [List.length_cons] at hl; omega
    have e1 : ∀ S, isiD [.int i, .ty "str"] S = some (.bl false) := fun S => rfl
    show ∃ y5' y6', (∃ g', _ ∧ sLoop _ _ (D.tup [.int i, .int v] :: zpD ts r) _ _ = _) ∨ (_ ∧ ∃ g', sLoop _ _ (D.tup [.int i, .int v] :: zpD ts r) _ _ = _)
    have em : mtc (.vl i :: ts) (v :: r) g = if i = v then mtc ts r g else none := rfl
    rw [em]
    by_cases c : i = v
    · rw [if_pos c, loop_step (r := [y0, y1, y2, some (.loc S.length), y4, y5, y6]) (r1 := [y0, y1, y2, some (.loc S.length), y4, some (.int v), some (.int i)]) rfl (by unfold mMatB; simp [e1, c]; first | exact ⟨rfl, rfl⟩ | rfl)]
      exact mat_loop ts r g _ _ (by omega)
    · rw [if_neg c]
      exact ⟨some (.int v), some (.int i), .inr ⟨rfl, g, loop_out (r := [y0, y1, y2, some (.loc S.length), y4, y5, y6]) (r1 := [y0, y1, y2, some (.loc S.length), y4, some (.int v), some (.int i)]) rfl (by unfold mMatB; simp [e1, c])⟩⟩
def oD : Option Gv → D
  | some g => .dct (gK g)
  | none => .non
theorem cloK_g (m : Nat) (g : Gv) : cloK m (gK g) = true := by
  rw [cloK_eq]
  refine (cloL_iff m _).mpr fun d hd => ?_
  obtain ⟨p, hp, rfl⟩ := List.mem_map.mp hd
  obtain ⟨q, _, rfl⟩ := List.mem_map.mp hp
  rfl
theorem matched_ok {ts : List Tm} {r : List Int} {g : Gv} (k : Ks g) (hl : g.length + ts.length ≤ 1000) : FMatched [.tup (ts.map trD), rowD r, .dct (gK g)] S = .ok (oD (mtc ts r g)) S := by
  show finT S (mMatched (frame 7 _) S) = _
  have ef : frame 7 [.tup (ts.map trD), rowD r, .dct (gK g)] = [some (.tup (ts.map trD)), some (rowD r), some (.dct (gK g)), none, none, none, none] := rfl
  have c := copy_g (S := S) (r0 := [some (.tup (ts.map trD)), some (rowD r), some (.dct (gK g)), none, none, none, none]) ⟨_, _, _, _, _, rfl⟩ g [] k (by simp; omega)
  rw [List.nil_append] at c
  have c : dcL (tgT 2 (tgsCons (tgN 4) (tgsCons (tgN 5) tgsNil))) mYes (mVar 4) (mVar 5) [some (.tup (ts.map trD)), some (rowD r), some (.dct (gK g)), none, none, none, none] (itemsOf (gK g)) [] S = .ok (gK g) S := c
  have hk : (gK g).length ≤ 90000 := by rw [gK_len]; omega
  have it : mItems 2 [some (.tup (ts.map trD)), some (rowD r), some (.dct (gK g)), none, none, none, none] S = .ok (itemsOf (gK g)) S := if_pos hk
  have zz : ∀ S, mZip (mCons (mVar 0) (mCons (mVar 1) mNil)) [some (.tup (ts.map trD)), some (rowD r), some (.dct (gK g)), some (.loc S.length), none, none, none] (S ++ [.dct (gK g)]) = .ok (zpD ts r) (S ++ [.dct (gK g)]) := fun S => rfl
  obtain ⟨y5, y6, h | h⟩ := mat_loop (S := S) (y0 := some (.tup (ts.map trD))) (y1 := some (rowD r)) (y2 := some (.dct (gK g))) (y4 := none) ts r g none none hl
  · obtain ⟨g', e1, e2⟩ := h
    have eb : mMatched [some (.tup (ts.map trD)), some (rowD r), some (.dct (gK g)), none, none, none, none] S = .ok (.ret (.loc S.length)) [some (.tup (ts.map trD)), some (rowD r), some (.dct (gK g)), some (.loc S.length), none, y5, y6] (S ++ [.dct (gK g')]) := by
      unfold mMatched
      simp [it, c, zz, e2, -mZip_ap]
    rw [ef, eb, e1]
    refine fin_ret_app _ ?_
    show (if S.length < S.length then _ else match (S ++ [O.dct (gK g')])[S.length]? with
      | some (.lst ds) => if cloL S.length ds = true then some (D.lst ds) else none
      | some (.dct kvs) => if cloK S.length kvs = true then some (D.dct kvs) else none
      | some (.dtt kvs) => if cloT S.length kvs = true then some (D.dtt kvs) else none
      | _ => none) = _
    rw [if_neg (Nat.lt_irrefl _), last_at]
    exact if_pos (cloK_g _ _)
  · obtain ⟨e1, g', e2⟩ := h
    have eb : mMatched [some (.tup (ts.map trD)), some (rowD r), some (.dct (gK g)), none, none, none, none] S = .ok (.ret .non) [some (.tup (ts.map trD)), some (rowD r), some (.dct (gK g)), some (.loc S.length), none, y5, y6] (S ++ [.dct (gK g')]) := by
      unfold mMatched
      simp [it, c, zz, e2, -mZip_ap]
    rw [ef, eb, e1]
    exact fin_ret_app _ rfl
end
end Dv
namespace Dv
open PySem L2
theorem mtc_ks : ∀ (ts : List Tm) (r : List Int) (g g' : Gv), Ks g → mtc ts r g = some g' → Ks g'
  | [], _, g, g', k, h => by
    unfold mtc at h
    cases h
    exact k
  | t :: _, [], g, g', k, h => by
    have h : some g = some g' := by cases t <;> exact h
    cases h
    exact k
  | .nm x :: ts, v :: r, g, g', k, h => by
    unfold mtc at h
    split at h
    · split at h
      · exact mtc_ks ts r g g' k h
      · cases h
    · rename_i e
      exact mtc_ks ts r _ g' (ks_put k e) h
  | .vl i :: ts, v :: r, g, g', k, h => by
    unfold mtc at h
    split at h
    · exact mtc_ks ts r g g' k h
    · cases h
def dG (g : Gv) : D := .dct (gK g)
theorem alls_ok {α : Type} {S : Store} (p : α → Bool) (xs : List α) : allD [.lst (xs.map fun x => D.bl (p x))] S = some (.bl (xs.all p)) := by
  have : xs.map (fun x => D.bl (p x)) = (xs.map p).map D.bl := by rw [List.map_map]; rfl
  rw [this, allD_bls, List.all_map]
  rfl
theorem opt_map (L : List (Option Gv)) : (L.filter (·.isSome)).map oD = (L.filterMap id).map dG := by
  induction L with
  | nil => rfl
  | cons o L ih =>
    cases o with
    | none => exact ih
    | some g =>
      show oD (some g) :: (L.filter (·.isSome)).map oD = dG g :: (L.filterMap id).map dG
      rw [ih]
      rfl
def prs (rs : List (List Int)) (ts : List Tm) (fd : List Gv) : List (Option Gv) := fd.flatMap fun g => rs.map fun r => mtc ts r g
theorem prs_stp (rs : List (List Int)) (ts : List Tm) (fd : List Gv) : (prs rs ts fd).filterMap id = stp rs ts fd := by
  unfold prs stp
  induction fd with
  | nil => rfl
  | cons g fd ih =>
    rw [List.flatMap_cons, List.flatMap_cons, List.filterMap_append, ih, List.filterMap_map]
    rfl
theorem prs_len (rs : List (List Int)) (ts : List Tm) (fd : List Gv) : (prs rs ts fd).length = fd.length * rs.length := by
  unfold prs
  induction fd with
  | nil => simp
  | cons g fd ih => rw [List.flatMap_cons, List.length_append, ih, List.length_map, List.length_cons, Nat.succ_mul, Nat.add_comm]
section
variable {S : Store}
def mAnsB : SM := (sSeq (sSet 6 (mApp 2 FRowsOf (mCons (mVar 0) (mCons (mVar 4) mNil))))
    (sSeq (sSet 2 (mLc2 (mIter (mVar 2)) [7, 8] (tgN 7) mYes (mIter (mVar 6)) [8] (tgN 8) mYes (mApp 3 FMatched (mCons (mVar 5) (mCons (mVar 8) (mCons (mVar 7) mNil))))))
    (sSet 2 (mLc (mIter (mVar 2)) [7] (tgN 7) (mT (mBin notND (mVar 7) (mC .non))) (mVar 7)))))
def mAnswers : SM := (sSeq (sSet 2 (mLst (mCons mDct0 mNil)))
    (sSeq (sFor (mIter (mBin ixD (mVar 1) (mC (.int 0)))) (tgT 2 (tgsCons (tgN 4) (tgsCons (tgN 5) tgsNil))) mAnsB)
    (sSeq (sSet 3 (mApp 1 FNamesOf (mCons (mVar 1) mNil)))
    (sSeq (sSet 2 (mLc (mIter (mVar 2)) [7] (tgN 7) (mTru (mCall allD (mCons (mLc (mIter (mBin ixD (mVar 1) (mC (.int 1)))) [9] (tgN 9) mYes (mApp 2 FCheckHolds (mCons (mVar 9) (mCons (mVar 7) mNil)))) mNil))) (mVar 7)))
    (sRet (mCall tupD (mCons (mSortSc (mIter (mVar 2)) [7] (tgN 7) mYes (mCall tupD (mCons (mLc (mIter (mVar 3)) [10] (tgN 10) mYes (mBin dgetD (mVar 7) (mVar 10))) mNil))) mNil)))))))
def FAnswers : List D → Store → R D := runT 11 mAnswers
theorem ans_lc2 {y0 y1 y2 y3 y4 y9 y10 : Option D} {ts : List Tm} {rs : List (List Int)} : ∀ fd : List Gv, (∀ g ∈ fd, Ks g ∧ g.length + ts.length ≤ 1000) →
    lcL2 (tgN 7) mYes (mIter (mVar 6)) [8] (tgN 8) mYes (mApp 3 FMatched (mCons (mVar 5) (mCons (mVar 8) (mCons (mVar 7) mNil)))) [y0, y1, y2, y3, y4, some (.tup (ts.map trD)), some (.tup (rs.map rowD)), none, none, y9, y10] (fd.map dG) S = .ok ((prs rs ts fd).map oD) S
  | [], _ => rfl
  | g :: fd, h => by
    have ih := ans_lc2 (ts := ts) (rs := rs) (y0 := y0) (y1 := y1) (y2 := y2) (y3 := y3) (y4 := y4) (y9 := y9) (y10 := y10) fd fun b hb => h b (List.mem_cons_of_mem _ hb)
    obtain ⟨k, hl⟩ := h g List.mem_cons_self
    have inner := lc_all (gm := tgN 8) (te := mApp 3 FMatched (mCons (mVar 5) (mCons (mVar 8) (mCons (mVar 7) mNil)))) (r0 := [y0, y1, y2, y3, y4, some (.tup (ts.map trD)), some (.tup (rs.map rowD)), some (dG g), none, y9, y10]) (S := S) rowD (fun r => oD (mtc ts r g)) rs fun r hr => ⟨[y0, y1, y2, y3, y4, some (.tup (ts.map trD)), some (.tup (rs.map rowD)), some (dG g), some (rowD r), y9, y10], rfl, by
      have := matched_ok (S := S) (r := r) k hl
      simp [this, dG]⟩
    have et : (prs rs ts (g :: fd)).map oD = rs.map (fun r => oD (mtc ts r g)) ++ (prs rs ts fd).map oD := by
      show (rs.map (fun r => mtc ts r g) ++ prs rs ts fd).map oD = _
      rw [List.map_append, List.map_map]
      rfl
    rw [List.map_cons, lcL2_cons, et]
    simp [inner, ih]
theorem ansB_ok {tb : List Bt} {a : At} {fd : List Gv} {y1 y3 y6 y7 y8 y9 y10 : Option D} (htb : ∀ x ∈ tb, x.w ∈ pqrs) (h : ∃ x ∈ tb, x.w = a.w) (hg : ∀ g ∈ fd, Ks g ∧ g.length + a.ts.length ≤ 1000) (hl : fd.length * (rowsW tb a.w).length ≤ 100000) :
    mAnsB [some (.tup (tb.map tabD)), y1, some (.lst (fd.map dG)), y3, some (.str a.w), some (.tup (a.ts.map trD)), y6, y7, y8, y9, y10] S = .ok .next [some (.tup (tb.map tabD)), y1, some (.lst ((stp (rowsW tb a.w) a.ts fd).map dG)), y3, some (.str a.w), some (.tup (a.ts.map trD)), some (.tup ((rowsW tb a.w).map rowD)), y7, y8, y9, y10] S := by
  have e1 := rowsOf_ok (S := S) htb h
  have e2 := ans_lc2 (S := S) (y0 := some (.tup (tb.map tabD))) (y1 := y1) (y2 := some (.lst (fd.map dG))) (y3 := y3) (y4 := some (.str a.w)) (y9 := y9) (y10 := y10) (ts := a.ts) (rs := rowsW tb a.w) fd hg
  have e3 := lc_src (gm := tgN 7) (tt := mT (mBin notND (mVar 7) (mC .non))) (te := mVar 7) (r0 := [some (.tup (tb.map tabD)), y1, some (.lst ((prs (rowsW tb a.w) a.ts fd).map oD)), y3, some (.str a.w), some (.tup (a.ts.map trD)), some (.tup ((rowsW tb a.w).map rowD)), none, y8, y9, y10]) (S := S) oD (·.isSome) oD (prs (rowsW tb a.w) a.ts fd) fun o ho => ⟨[some (.tup (tb.map tabD)), y1, some (.lst ((prs (rowsW tb a.w) a.ts fd).map oD)), y3, some (.str a.w), some (.tup (a.ts.map trD)), some (.tup ((rowsW tb a.w).map rowD)), some (oD o), y8, y9, y10], rfl, by cases o <;> rfl, fun _ => rfl⟩
  rw [opt_map, prs_stp] at e3
  have f1 : lcFin ((prs (rowsW tb a.w) a.ts fd).map oD) S = .ok (.lst ((prs (rowsW tb a.w) a.ts fd).map oD)) S := if_pos (by rw [List.length_map, prs_len]; exact hl)
  have e4 : mLc2 (mIter (mVar 2)) [7, 8] (tgN 7) mYes (mIter (mVar 6)) [8] (tgN 8) mYes (mApp 3 FMatched (mCons (mVar 5) (mCons (mVar 8) (mCons (mVar 7) mNil)))) [some (.tup (tb.map tabD)), y1, some (.lst (fd.map dG)), y3, some (.str a.w), some (.tup (a.ts.map trD)), some (.tup ((rowsW tb a.w).map rowD)), y7, y8, y9, y10] S = .ok (.lst ((prs (rowsW tb a.w) a.ts fd).map oD)) S := by
    unfold mLc2
    simp [e2, f1]
  unfold mAnsB
  simp [e1, e4, e3]
theorem ans_loop {tb : List Bt} {k : Nat} (hk : 1 ≤ k) (htb : ∀ x ∈ tb, x.w ∈ pqrs) {y1 y3 y7 y8 y9 y10 : Option D} : ∀ (as : List At) (fd : List Gv) (m : Nat) (y4 y5 y6 : Option D), (∀ a ∈ as, (∃ x ∈ tb, x.w = a.w) ∧ (rowsW tb a.w).length ≤ k ∧ a.ts.length ≤ 3) → (∀ g ∈ fd, Ks g ∧ g.length ≤ m) → m + 3 * as.length ≤ 900 → fd.length * k ^ as.length ≤ 100000 →
    ∃ y4' y5' y6', sLoop (tgT 2 (tgsCons (tgN 4) (tgsCons (tgN 5) tgsNil))) mAnsB (as.map atD) [some (.tup (tb.map tabD)), y1, some (.lst (fd.map dG)), y3, y4, y5, y6, y7, y8, y9, y10] S = .ok .next [some (.tup (tb.map tabD)), y1, some (.lst ((fnd tb as fd).map dG)), y3, y4', y5', y6', y7, y8, y9, y10] S
  | [], fd, m, y4, y5, y6, _, _, _, _ => ⟨y4, y5, y6, rfl⟩
  | a :: as, fd, m, y4, y5, y6, ha, hg, hm, hl => by
    obtain ⟨h1, h2, h3⟩ := ha a List.mem_cons_self
    rw [List.length_cons] at hm hl
    have hpos : 1 ≤ k ^ as.length := Nat.one_le_pow _ _ hk
    have hle : fd.length * (rowsW tb a.w).length * k ^ as.length ≤ 100000 := by
      refine Nat.le_trans ?_ hl
      rw [Nat.pow_succ, Nat.mul_comm (k ^ as.length) k, ← Nat.mul_assoc]
      exact Nat.mul_le_mul_right _ (Nat.mul_le_mul_left _ h2)
    have e := ansB_ok (S := S) (tb := tb) (a := a) (fd := fd) (y1 := y1) (y3 := y3) (y6 := y6) (y7 := y7) (y8 := y8) (y9 := y9) (y10 := y10) htb h1 (fun g h => ⟨(hg g h).1, by have := (hg g h).2; omega⟩) (Nat.le_trans (Nat.le_mul_of_pos_right _ hpos) hle)
    rw [List.map_cons, loop_step (r := [some (.tup (tb.map tabD)), y1, some (.lst (fd.map dG)), y3, y4, y5, y6, y7, y8, y9, y10]) (r1 := [some (.tup (tb.map tabD)), y1, some (.lst (fd.map dG)), y3, some (.str a.w), some (.tup (a.ts.map trD)), y6, y7, y8, y9, y10]) rfl e]
    refine ans_loop hk htb as (stp (rowsW tb a.w) a.ts fd) (m + 3) _ _ _ (fun b hb => ha b (List.mem_cons_of_mem _ hb)) (fun g' h => ?_) (by omega) ?_
    · obtain ⟨g, q1, r, _, q2⟩ := mem_stp.mp h
      have := mtc_len _ _ _ _ q2
      have := (hg g q1).2
      exact ⟨mtc_ks _ _ _ _ (hg g q1).1 q2, by omega⟩
    · refine Nat.le_trans (Nat.mul_le_mul_right _ ?_) hle
      exact stp_len (Nat.le_refl _)
theorem answersG_ok {tb : List Bt} {as : List At} {cs : List Ck} {k : Nat} (hk : 1 ≤ k) (htb : ∀ x ∈ tb, x.w ∈ pqrs) (ha : ∀ a ∈ as, (∃ x ∈ tb, x.w = a.w) ∧ (rowsW tb a.w).length ≤ k ∧ a.ts.length ≤ 3) (hok : ∀ a ∈ as, ∀ t ∈ a.ts, t.Ok) (hl4 : as.length ≤ 200) (hl : k ^ as.length ≤ 100000) (hf : Fit tb as) (hc : ∀ c ∈ cs, CkIn as c) (hs : ∀ c ∈ cs, c.s = "less" ∨ c.s = "unlike") (hd : (dedL (ans tb as cs (nms as))).length ≤ 290) :
    FAnswers [.tup (tb.map tabD), askD as cs] S = .ok (.tup ((srtR (ans tb as cs (nms as))).map rowD)) S := by
  obtain ⟨y4, y5, y6, e1⟩ := ans_loop (S := S) hk htb (y1 := some (askD as cs)) (y3 := none) (y7 := none) (y8 := none) (y9 := none) (y10 := none) as [[]] 0 none none none ha (fun g h => by rw [List.mem_singleton.mp h]; exact ⟨List.nodup_nil, Nat.le_refl _⟩) (by omega) (by rw [List.length_singleton, Nat.one_mul]; exact hl)
  have e2 : FNamesOf [askD as cs] S = .ok (.tup ((nms as).map D.str)) S := namesOf_ok hok (by have := tmsA_len fun a h => (ha a h).2.2; omega)
  have cov : ∀ g ∈ fnd tb as [[]], Cov tb as g := fun g hg => fnd_cov hf hg
  have ck : ∀ g ∈ fnd tb as [[]], ∀ r0 : List (Option D), (∃ z2 z3, r0 = [some (.tup (tb.map tabD)), some (askD as cs), z2, z3, y4, y5, y6, some (dG g), none, none, none]) → lcL (tgN 9) mYes (mApp 2 FCheckHolds (mCons (mVar 9) (mCons (mVar 7) mNil))) r0 (cs.map ckD) S = .ok (cs.map fun c => D.bl (ckB (fng g) c)) S := fun g hg r0 hr => by
    obtain ⟨z2, z3, rfl⟩ := hr
    refine lc_all ckD (fun c => D.bl (ckB (fng g) c)) cs fun c hcc => ⟨[some (.tup (tb.map tabD)), some (askD as cs), z2, z3, y4, y5, y6, some (dG g), none, some (ckD c), none], rfl, ?_⟩
    have := checkHolds_ok (S := S) (g := g) (c := c) ⟨hs c hcc, (cov g hg).has _ (hc c hcc).1, fun y e => (cov g hg).has _ ((hc c hcc).2 y e)⟩
    simp [this, dG]
  have x1 : atI [D.tup (as.map atD), D.tup (cs.map ckD)] 1 = some (.tup (cs.map ckD)) := rfl
  have x0 : atI [D.tup (as.map atD), D.tup (cs.map ckD)] 0 = some (.tup (as.map atD)) := atI_zero _ _
  have ea : askD as cs = .tup [.tup (as.map atD), .tup (cs.map ckD)] := rfl
  have e3 := lc_src (gm := tgN 7) (tt := mTru (mCall allD (mCons (mLc (mIter (mBin ixD (mVar 1) (mC (.int 1)))) [9] (tgN 9) mYes (mApp 2 FCheckHolds (mCons (mVar 9) (mCons (mVar 7) mNil)))) mNil))) (te := mVar 7) (r0 := [some (.tup (tb.map tabD)), some (askD as cs), some (.lst ((fnd tb as [[]]).map dG)), some (.tup ((nms as).map D.str)), y4, y5, y6, none, none, none, none]) (S := S) dG (fun g => cs.all (ckB (fng g))) dG (fnd tb as [[]]) fun g hg => ⟨[some (.tup (tb.map tabD)), some (askD as cs), some (.lst ((fnd tb as [[]]).map dG)), some (.tup ((nms as).map D.str)), y4, y5, y6, some (dG g), none, none, none], rfl, by
    have := ck g hg _ ⟨some (.lst ((fnd tb as [[]]).map dG)), some (.tup ((nms as).map D.str)), rfl⟩
    rw [ea] at this ⊢
    simp [x1, this, alls_ok (S := S) (ckB (fng g)) cs], fun _ => rfl⟩
  have e4 := lc_all (gm := tgN 7) (te := mCall tupD (mCons (mLc (mIter (mVar 3)) [10] (tgN 10) mYes (mBin dgetD (mVar 7) (mVar 10))) mNil)) (r0 := [some (.tup (tb.map tabD)), some (askD as cs), some (.lst (((fnd tb as [[]]).filter fun g => cs.all (ckB (fng g))).map dG)), some (.tup ((nms as).map D.str)), y4, y5, y6, none, none, none, none]) (S := S) dG (fun g => rowD ((nms as).map (fng g))) ((fnd tb as [[]]).filter fun g => cs.all (ckB (fng g))) fun g hg => ⟨[some (.tup (tb.map tabD)), some (askD as cs), some (.lst (((fnd tb as [[]]).filter fun g => cs.all (ckB (fng g))).map dG)), some (.tup ((nms as).map D.str)), y4, y5, y6, some (dG g), none, none, none], rfl, by
    have cv := cov g (List.mem_filter.mp hg).1
    have := lc_all (gm := tgN 10) (te := mBin dgetD (mVar 7) (mVar 10)) (r0 := [some (.tup (tb.map tabD)), some (askD as cs), some (.lst (((fnd tb as [[]]).filter fun g => cs.all (ckB (fng g))).map dG)), some (.tup ((nms as).map D.str)), y4, y5, y6, some (dG g), none, none, none]) (S := S) D.str (fun x => D.int (fng g x)) (nms as) fun x hx => ⟨[some (.tup (tb.map tabD)), some (askD as cs), some (.lst (((fnd tb as [[]]).filter fun g => cs.all (ckB (fng g))).map dG)), some (.tup ((nms as).map D.str)), y4, y5, y6, some (dG g), none, none, some (.str x)], rfl, by
      have q : evo g (.nm x) = some (fng g x) := evo_of (t := .nm x) fun y e => by cases e; exact cv.has x (mem_nms.mp hx)
      have := dget_g (S := S) (d := dG g) rfl q
      simp [this]⟩
    simp [this, rowD]⟩
  have er : ((fnd tb as [[]]).filter fun g => cs.all (ckB (fng g))).map (fun g => rowD ((nms as).map (fng g))) = (ans tb as cs (nms as)).map rowD := by
    unfold ans
    rw [List.map_map]
    rfl
  rw [er] at e4
  have e5 := sortRows_rows hd (show (∀ r ∈ ans tb as cs (nms as), r ≠ []) ∨ ∀ r ∈ ans tb as cs (nms as), r = [] by
    by_cases hn : nms as = []
    · refine .inr fun r hr => ?_
      obtain ⟨g, _, rfl⟩ := List.mem_map.mp hr
      rw [hn]
      rfl
    · refine .inl fun r hr => ?_
      obtain ⟨g, _, rfl⟩ := List.mem_map.mp hr
      exact fun e => hn (List.map_eq_nil_iff.mp e))
  refine fn_ret (clo_rowsT _ _) ⟨[some (.tup (tb.map tabD)), some (askD as cs), some (.lst (((fnd tb as [[]]).filter fun g => cs.all (ckB (fng g))).map dG)), some (.tup ((nms as).map D.str)), y4, y5, y6, none, none, none, none], ?_⟩
  show mAnswers [some (.tup (tb.map tabD)), some (askD as cs), none, none, none, none, none, none, none, none, none] S = _
  have e1 : sLoop (tgT 2 (tgsCons (tgN 4) (tgsCons (tgN 5) tgsNil))) mAnsB (as.map atD) [some (.tup (tb.map tabD)), some (askD as cs), some (.lst [.dct []]), none, none, none, none, none, none, none, none] S = _ := e1
  have ix0 : ixD (askD as cs) (.int 0) S = some (.tup (as.map atD)) := by rw [ea]; simp [x0]
  unfold mAnswers mDct0
  simp [ix0, e1, e2, e3, e4, e5]
end
end Dv
namespace Dv
open PySem L2
theorem mem_rows {r : List Int} {rows : List (List Int)} : rowD r ∈ rows.map rowD ↔ r ∈ rows := by
  constructor
  · intro h
    obtain ⟨s, hs, e⟩ := List.mem_map.mp h
    have : s = r := by
      have e : (D.tup (s.map D.int)) = D.tup (r.map D.int) := e
      exact (List.map_inj_right fun _ _ h => D.int.inj h).mp (D.tup.inj e)
    rw [← this]; exact hs
  · exact fun h => List.mem_map.mpr ⟨r, h, rfl⟩
section
variable {S : Store}
theorem inT_rows (r : List Int) (rows : List (List Int)) : inTO (rowD r) (.lst (rows.map rowD)) = some (decide (r ∈ rows)) := by
  show inO (rowD r) (.lst (rows.map rowD)) = _
  rw [inO_pl (k := 1) (pl_rowD 0 r) (pl_rows 0 rows) (by decide)]
  congr 1
  exact decide_eq_decide.mpr mem_rows
theorem ninT_rows (r : List Int) (rows : List (List Int)) : ninTD (rowD r) (.lst (rows.map rowD)) S = some (.bl (!decide (r ∈ rows))) := by
  show (inTO (rowD r) (.lst (rows.map rowD))).map (fun k => D.bl (!k)) = _
  rw [inT_rows]
  rfl
def mLPut : SM := (sRet (mCall tupD (mCons (mLc (mIter (mVar 0)) [2] (tgN 2) mYes (mIf (mTru (mCall isiD (mCons (mVar 2) (mCons (mC (.ty "str")) mNil)))) (mBin dgetD (mVar 1) (mVar 2)) (mVar 2))) mNil)))
def FLPut : List D → Store → R D := runT 3 mLPut
def Has (g : Gv) (ts : List Tm) : Prop := ∀ x, Tm.nm x ∈ ts → (gLk g x).isSome = true
theorem lput_ok {g : Gv} {ts : List Tm} (h : Has g ts) : FLPut [.tup (ts.map trD), dG g] S = .ok (rowD (ts.map (ev (fng g)))) S := by
  refine fn_ret (show clo _ (.tup _) = true from cloL_ints _ _) ⟨[some (.tup (ts.map trD)), some (dG g), none], ?_⟩
  show mLPut [some (.tup (ts.map trD)), some (dG g), none] S = _
  have lc := lc_all (gm := tgN 2) (te := mIf (mTru (mCall isiD (mCons (mVar 2) (mCons (mC (.ty "str")) mNil)))) (mBin dgetD (mVar 1) (mVar 2)) (mVar 2)) (r0 := [some (.tup (ts.map trD)), some (dG g), none]) (S := S) trD (fun t => D.int (ev (fng g) t)) ts fun t ht => ⟨[some (.tup (ts.map trD)), some (dG g), some (trD t)], rfl, by
    have e1 := isi_tr t S
    cases t with
    | nm x =>
      have e1 : isiD [.str x, .ty "str"] S = some (.bl true) := e1
      have q : gLk g x = some (ev (fng g) (.nm x)) := evo_of (t := .nm x) fun y e => by cases e; exact h x ht
      rw [show trD (.nm x) = .str x from rfl]
      simp [e1, dget_g (S := S) (d := dG g) rfl q]
    | vl i =>
      have e1 : isiD [.int i, .ty "str"] S = some (.bl false) := e1
      rw [show trD (.vl i) = .int i from rfl]
      simp [e1, ev]⟩
  have er : ts.map (fun t => D.int (ev (fng g) t)) = (ts.map (ev (fng g))).map D.int := by rw [List.map_map]; rfl
  rw [er] at lc
  unfold mLPut
  simp [lc, rowD, -mIf_ap]
def mLChkB : SM := (sSeq (sAsg (mApp 2 FLPut (mCons (mTup (mCons (mVar 3) (mCons (mVar 4) mNil))) (mCons (mVar 1) mNil))) (tgT 2 (tgsCons (tgN 5) (tgsCons (tgN 6) tgsNil))))
    (sIf (mNotT (mIfT (mT (mBin eqD (mVar 2) (mC (.str "less")))) (mT (mBin ltD (mVar 5) (mVar 6))) (mT (mBin neD (mVar 5) (mVar 6))))) (sRet (mC (.bl false))) sNil))
def mLChecks : SM := (sSeq (sFor (mIter (mVar 0)) (tgT 3 (tgsCons (tgN 2) (tgsCons (tgN 3) (tgsCons (tgN 4) tgsNil)))) mLChkB)
    (sRet (mC (.bl true))))
def FLChecks : List D → Store → R D := runT 7 mLChecks
theorem lchk_step {g : Gv} {c : Ck} {y0 y5 y6 : Option D} (h : CkG g c) : ∃ y5' y6', mLChkB [y0, some (dG g), some (.str c.s), some (.str c.x), some (trD c.z), y5, y6] S = .ok (if ckB (fng g) c = true then .next else .ret (.bl false)) [y0, some (dG g), some (.str c.s), some (.str c.x), some (trD c.z), y5', y6'] S := by
  obtain ⟨hs, hx, hz⟩ := h
  have e1 := lput_ok (S := S) (g := g) (ts := [.nm c.x, c.z]) fun x hxx => by
    rcases List.mem_cons.mp hxx with e | e
    · cases e; exact hx
    · exact hz x (List.mem_singleton.mp e).symm
  have e1 : FLPut [.tup [.str c.x, trD c.z], dG g] S = .ok (.tup [.int (fng g c.x), .int (ev (fng g) c.z)]) S := e1
  have e3 := eqD_strs (S := S) (srt_pl hs) less_pl
  refine ⟨some (.int (fng g c.x)), some (.int (ev (fng g) c.z)), ?_⟩
  unfold mLChkB
  by_cases q : c.s = "less"
  · have eb : ckB (fng g) c = decide (fng g c.x < ev (fng g) c.z) := if_pos q
    rw [eb]
    rw [q] at e3 ⊢
    by_cases q2 : fng g c.x < ev (fng g) c.z
    · simp [e1, e3, q2]
    · simp [e1, e3, q2]
  · have eb : ckB (fng g) c = decide (fng g c.x ≠ ev (fng g) c.z) := if_neg q
    rw [eb]
    by_cases q2 : fng g c.x = ev (fng g) c.z
    · simp [e1, e3, q, q2]
    · simp [e1, e3, q, q2]
theorem lchk_loop {g : Gv} {y0 : Option D} : ∀ (cs : List Ck) (y2 y3 y4 y5 y6 : Option D), (∀ c ∈ cs, CkG g c) →
    ∃ rho, sLoop (tgT 3 (tgsCons (tgN 2) (tgsCons (tgN 3) (tgsCons (tgN 4) tgsNil)))) mLChkB (cs.map ckD) [y0, some (dG g), y2, y3, y4, y5, y6] S = .ok (if cs.all (ckB (fng g)) = true then .next else .ret (.bl false)) rho S
  | [], y2, y3, y4, y5, y6, _ => ⟨_, rfl⟩
  | c :: cs, y2, y3, y4, y5, y6, h => by
    obtain ⟨y5', y6', e⟩ := lchk_step (S := S) (y0 := y0) (y5 := y5) (y6 := y6) (h c List.mem_cons_self)
    rw [List.map_cons]
    cases q : ckB (fng g) c with
    | true =>
      rw [q, if_pos rfl] at e
      rw [loop_step (r := [y0, some (dG g), y2, y3, y4, y5, y6]) (r1 := [y0, some (dG g), some (.str c.s), some (.str c.x), some (trD c.z), y5, y6]) rfl e, List.all_cons, q, Bool.true_and]
      exact lchk_loop cs _ _ _ _ _ fun b hb => h b (List.mem_cons_of_mem _ hb)
    | false =>
      rw [q, if_neg Bool.false_ne_true] at e
      rw [loop_out (r := [y0, some (dG g), y2, y3, y4, y5, y6]) (r1 := [y0, some (dG g), some (.str c.s), some (.str c.x), some (trD c.z), y5, y6]) rfl e, List.all_cons, q, Bool.false_and]
      exact ⟨_, rfl⟩
theorem lchecks_ok {g : Gv} {cs : List Ck} (h : ∀ c ∈ cs, CkG g c) : FLChecks [.tup (cs.map ckD), dG g] S = .ok (.bl (cs.all (ckB (fng g)))) S := by
  obtain ⟨rho, e⟩ := lchk_loop (S := S) (y0 := some (.tup (cs.map ckD))) cs none none none none none h
  refine fn_ret rfl ?_
  show ∃ rho, mLChecks [some (.tup (cs.map ckD)), some (dG g), none, none, none, none, none] S = _
  unfold mLChecks
  cases q : cs.all (ckB (fng g)) with
  | true =>
    rw [q, if_pos rfl] at e
    exact ⟨rho, by simp [e]⟩
  | false =>
    rw [q, if_neg Bool.false_ne_true] at e
    exact ⟨rho, by simp [e]⟩
def tbK (tb : List Bt) : List (Key × D) := tb.map fun x => (.inr x.w, .tup (x.rows.map rowD))
theorem tbK_val {w : Str} : ∀ {tb : List Bt}, (∃ x ∈ tb, x.w = w) → valKD (tbK tb) (.inr w) = some (.tup ((rowsW tb w).map rowD))
  | [], h => by obtain ⟨x, hx, _⟩ := h; cases hx
  | y :: tb, h => by
    unfold valKD rowsW
    show Option.map _ (List.find? _ ((Sum.inr y.w, D.tup (y.rows.map rowD)) :: tbK tb)) = _
    rw [List.find?_cons, List.find?_cons]
    by_cases c : y.w = w
    · simp [c]
    · have c2 : (Sum.inr y.w : Key) ≠ Sum.inr w := fun e => c (Sum.inr.inj e)
      have ih := tbK_val (tb := tb) (w := w) (by
        obtain ⟨x, hx, e⟩ := h
        rcases List.mem_cons.mp hx with rfl | hx
        · exact absurd e c
        · exact ⟨x, hx, e⟩)
      unfold valKD rowsW at ih
      simp only [c, c2, decide_false]
      exact ih
theorem tbK_put {tb : List Bt} {x : Bt} (h : x.w ∉ tb.map (·.w)) : putKD (tbK tb) (.inr x.w) (.tup (x.rows.map rowD)) = tbK (tb ++ [x]) := by
  unfold putKD
  rw [if_neg]
  · unfold tbK
    rw [List.map_append]
    rfl
  · intro q
    obtain ⟨kv, hk, e⟩ := List.any_eq_true.mp q
    obtain ⟨y, hy, rfl⟩ := List.mem_map.mp hk
    have e : (Sum.inr y.w : Key) = Sum.inr x.w := of_decide_eq_true e
    exact h (List.mem_map.mpr ⟨y, hy, Sum.inr.inj e⟩)
def mLIsA : SM := (sIf (mT (mBin ninTD (mApp 2 FLPut (mCons (mVar 7) (mCons (mVar 2) mNil))) (mCall lstD (mCons (mBin dgetD (mVar 3) (mVar 4)) mNil)))) (sRet (mC (.bl false))) sNil)
def mLIs : SM := (sSeq (sSet 3 mNewD0)
    (sSeq (sFor (mIter (mVar 0)) (tgT 3 (tgsCons (tgN 4) (tgsCons (tgN 5) (tgsCons (tgN 6) tgsNil)))) (sDPutD (mVar 3) (mVar 4) (mVar 6)))
    (sSeq (sFor (mIter (mBin ixD (mVar 1) (mC (.int 0)))) (tgT 2 (tgsCons (tgN 4) (tgsCons (tgN 7) tgsNil))) mLIsA)
    (sRet (mApp 2 FLChecks (mCons (mBin ixD (mVar 1) (mC (.int 1))) (mCons (mVar 2) mNil)))))))
def FLIs : List D → Store → R D := runT 8 mLIs
theorem lis_tab {y0 y1 y2 y7 : Option D} : ∀ (tb pre : List Bt) (y4 y5 y6 : Option D), ((pre ++ tb).map (·.w)).Nodup → (pre ++ tb).length ≤ 100 →
    ∃ y4' y5' y6', sLoop (tgT 3 (tgsCons (tgN 4) (tgsCons (tgN 5) (tgsCons (tgN 6) tgsNil)))) (sDPutD (mVar 3) (mVar 4) (mVar 6)) (tb.map tabD) [y0, y1, y2, some (.loc S.length), y4, y5, y6, y7] (S ++ [.dct (tbK pre)]) = .ok .next [y0, y1, y2, some (.loc S.length), y4', y5', y6', y7] (S ++ [.dct (tbK (pre ++ tb))])
  | [], pre, y4, y5, y6, _, _ => ⟨y4, y5, y6, by rw [List.append_nil]; rfl⟩
  | x :: tb, pre, y4, y5, y6, hn, hl => by
    have hx : x.w ∉ pre.map (·.w) := fun hm => by
      rw [List.map_append] at hn
      exact (List.nodup_append.mp hn).2.2 x.w hm x.w (by simp) rfl
    have hl2 : (tbK pre).length < 90000 := by unfold tbK; rw [List.length_map]; simp at hl; omega
    have e : sDPutD (mVar 3) (mVar 4) (mVar 6) [y0, y1, y2, some (.loc S.length), some (.str x.w), some (.int x.n), some (.tup (x.rows.map rowD)), y7] (S ++ [.dct (tbK pre)]) = .ok .next [y0, y1, y2, some (.loc S.length), some (.str x.w), some (.int x.n), some (.tup (x.rows.map rowD)), y7] (S ++ [.dct (tbK (pre ++ [x]))]) := by
      have dp : ∀ r, dputD (.loc S.length) (.str x.w) (.tup (x.rows.map rowD)) r (S ++ [.dct (tbK pre)]) = .ok .next r (S ++ [.dct (tbK (pre ++ [x]))]) := fun r => by
        unfold dputD
        simp only [last_at, keyOf_str, if_pos hl2, tbK_put hx, last_set]
      simp [dp]
    rw [List.map_cons, loop_step (r := [y0, y1, y2, some (.loc S.length), y4, y5, y6, y7]) (r1 := [y0, y1, y2, some (.loc S.length), some (.str x.w), some (.int x.n), some (.tup (x.rows.map rowD)), y7]) rfl e]
    have := lis_tab (y0 := y0) (y1 := y1) (y2 := y2) (y7 := y7) tb (pre ++ [x]) (some (.str x.w)) (some (.int x.n)) (some (.tup (x.rows.map rowD))) (by rw [List.append_assoc]; exact hn) (by rw [List.append_assoc]; exact hl)
    rw [List.append_assoc] at this
    exact this
theorem lis_loop {tb : List Bt} {g : Gv} {y0 y1 y5 y6 : Option D} : ∀ (as : List At) (y4 y7 : Option D), (∀ a ∈ as, (∃ x ∈ tb, x.w = a.w) ∧ Has g a.ts) →
    ∃ rho, sLoop (tgT 2 (tgsCons (tgN 4) (tgsCons (tgN 7) tgsNil))) mLIsA (as.map atD) [y0, y1, some (dG g), some (.loc S.length), y4, y5, y6, y7] (S ++ [.dct (tbK tb)]) = .ok (if (as.all fun a => decide (a.ts.map (ev (fng g)) ∈ rowsW tb a.w)) = true then .next else .ret (.bl false)) rho (S ++ [.dct (tbK tb)]) ∧ ∃ z4 z7, rho = [y0, y1, some (dG g), some (.loc S.length), z4, y5, y6, z7]
  | [], y4, y7, _ => ⟨_, rfl, _, _, rfl⟩
  | a :: as, y4, y7, h => by
    obtain ⟨hw, hh⟩ := h a List.mem_cons_self
    have e1 := lput_ok (S := S ++ [.dct (tbK tb)]) hh
    have e2 : dgetD (.loc S.length) (.str a.w) (S ++ [.dct (tbK tb)]) = some (.tup ((rowsW tb a.w).map rowD)) := by
      show (match dctAt (.loc S.length) (S ++ [.dct (tbK tb)]), keyOf (.str a.w) with
        | some kds, some k => valKD kds k
        | _, _ => none) = _
      have : dctAt (.loc S.length) (S ++ [.dct (tbK tb)]) = some (tbK tb) := by
        show (match (S ++ [O.dct (tbK tb)])[S.length]? with
          | some (.dct kds) => some kds
          | _ => none) = _
        rw [last_at]
      rw [this]
      exact tbK_val hw
    have e3 := ninT_rows (S := S ++ [.dct (tbK tb)]) (a.ts.map (ev (fng g))) (rowsW tb a.w)
    have e4 : lstD [.tup ((rowsW tb a.w).map rowD)] (S ++ [.dct (tbK tb)]) = some (.lst ((rowsW tb a.w).map rowD)) := rfl
    have e : mLIsA [y0, y1, some (dG g), some (.loc S.length), some (.str a.w), y5, y6, some (.tup (a.ts.map trD))] (S ++ [.dct (tbK tb)]) = .ok (if decide (a.ts.map (ev (fng g)) ∈ rowsW tb a.w) = true then .next else .ret (.bl false)) [y0, y1, some (dG g), some (.loc S.length), some (.str a.w), y5, y6, some (.tup (a.ts.map trD))] (S ++ [.dct (tbK tb)]) := by
      unfold mLIsA
      by_cases c : a.ts.map (ev (fng g)) ∈ rowsW tb a.w
      · simp [e1, e2, e3, e4, c]
      · simp [e1, e2, e3, e4, c]
    rw [List.map_cons]
    by_cases c : a.ts.map (ev (fng g)) ∈ rowsW tb a.w
    · rw [if_pos (decide_eq_true c)] at e
      rw [loop_step (r := [y0, y1, some (dG g), some (.loc S.length), y4, y5, y6, y7]) (r1 := [y0, y1, some (dG g), some (.loc S.length), some (.str a.w), y5, y6, some (.tup (a.ts.map trD))]) rfl e, List.all_cons, decide_eq_true c, Bool.true_and]
      exact lis_loop as _ _ fun b hb => h b (List.mem_cons_of_mem _ hb)
    · rw [if_neg (by simpa using c)] at e
      rw [loop_out (r := [y0, y1, some (dG g), some (.loc S.length), y4, y5, y6, y7]) (r1 := [y0, y1, some (dG g), some (.loc S.length), some (.str a.w), y5, y6, some (.tup (a.ts.map trD))]) rfl e, List.all_cons, decide_eq_false c, Bool.false_and]
      exact ⟨_, rfl, _, _, rfl⟩
theorem lis_ok {tb : List Bt} {as : List At} {cs : List Ck} {g : Gv} (hn : (tb.map (·.w)).Nodup) (hl : tb.length ≤ 100) (ha : ∀ a ∈ as, (∃ x ∈ tb, x.w = a.w) ∧ Has g a.ts) (hc : ∀ c ∈ cs, CkG g c) : FLIs [.tup (tb.map tabD), askD as cs, dG g] S = .ok (.bl (satB tb as cs (fng g))) S := by
  obtain ⟨y4, y5, y6, e1⟩ := lis_tab (S := S) (y0 := some (.tup (tb.map tabD))) (y1 := some (askD as cs)) (y2 := some (dG g)) (y7 := none) tb [] none none none hn hl
  obtain ⟨rho, e2, z4, z7, rfl⟩ := lis_loop (S := S) (tb := tb) (g := g) (y0 := some (.tup (tb.map tabD))) (y1 := some (askD as cs)) (y5 := y5) (y6 := y6) as y4 none ha
  have e3 := lchecks_ok (S := S ++ [.dct (tbK tb)]) hc
  rw [List.nil_append] at e1
  have e1 : sLoop (tgT 3 (tgsCons (tgN 4) (tgsCons (tgN 5) (tgsCons (tgN 6) tgsNil)))) (sDPutD (mVar 3) (mVar 4) (mVar 6)) (tb.map tabD) [some (.tup (tb.map tabD)), some (askD as cs), some (dG g), some (.loc S.length), none, none, none, none] (S ++ [.dct []]) = _ := e1
  have ea : askD as cs = .tup [.tup (as.map atD), .tup (cs.map ckD)] := rfl
  have x0 : ∀ S, ixD (askD as cs) (.int 0) S = some (.tup (as.map atD)) := fun S => by rw [ea]; simp [atI_zero]
  have x1 : ∀ S, ixD (askD as cs) (.int 1) S = some (.tup (cs.map ckD)) := fun S => rfl
  have nd : mNewD0 [some (.tup (tb.map tabD)), some (askD as cs), some (dG g), none, none, none, none, none] S = .ok (.loc S.length) (S ++ [.dct []]) := rfl
  show finT S (mLIs (frame 8 _) S) = _
  have ef : frame 8 [.tup (tb.map tabD), askD as cs, dG g] = [some (.tup (tb.map tabD)), some (askD as cs), some (dG g), none, none, none, none, none] := rfl
  have eb : mLIs [some (.tup (tb.map tabD)), some (askD as cs), some (dG g), none, none, none, none, none] S = .ok (.ret (.bl (satB tb as cs (fng g)))) [some (.tup (tb.map tabD)), some (askD as cs), some (dG g), some (.loc S.length), z4, y5, y6, z7] (S ++ [.dct (tbK tb)]) := by
    unfold mLIs satB
    cases q : as.all fun a => decide (a.ts.map (ev (fng g)) ∈ rowsW tb a.w) with
    | true =>
      rw [q, if_pos rfl] at e2
      simp [nd, e1, x0, e2, x1, e3]
    | false =>
      rw [q, if_neg Bool.false_ne_true] at e2
      simp [nd, e1, x0, e2]
  rw [ef, eb]
  exact fin_ret_app _ rfl
end
end Dv
namespace Dv
open PySem L2
def valS (V : List Int) (rows : List (List Int)) : List Int := rows.foldl (fun V r => ssI (V ++ r)) V
def valT (V : List Int) (tb : List Bt) : List Int := tb.foldl (fun V x => valS V x.rows) V
def vals (tb : List Bt) : List Int := valT [] tb
theorem valS_up : ∀ (rows : List (List Int)) (V : List Int), V.Pairwise (· < ·) → (valS V rows).Pairwise (· < ·)
  | [], _, h => h
  | r :: rows, V, _ => valS_up rows (ssI (V ++ r)) (ssI_strict _)
theorem valT_up : ∀ (tb : List Bt) (V : List Int), V.Pairwise (· < ·) → (valT V tb).Pairwise (· < ·)
  | [], _, h => h
  | x :: tb, V, h => valT_up tb _ (valS_up x.rows V h)
theorem mem_valS {v : Int} : ∀ (rows : List (List Int)) (V : List Int), v ∈ valS V rows ↔ v ∈ V ∨ v ∈ rows.flatten
  | [], V => by simp [valS]
  | r :: rows, V => by
    show v ∈ valS (ssI (V ++ r)) rows ↔ _
    rw [mem_valS rows, mem_ssI, List.mem_append, List.flatten_cons, List.mem_append, or_assoc]
theorem mem_valT {v : Int} : ∀ (tb : List Bt) (V : List Int), v ∈ valT V tb ↔ v ∈ V ∨ v ∈ vof tb
  | [], V => by simp [valT, vof]
  | x :: tb, V => by
    show v ∈ valT (valS V x.rows) tb ↔ v ∈ V ∨ v ∈ x.rows.flatten ++ vof tb
    rw [mem_valT tb, mem_valS, List.mem_append, or_assoc]
theorem vals_up (tb : List Bt) : (vals tb).Pairwise (· < ·) := valT_up tb [] .nil
theorem mem_vals (tb : List Bt) (v : Int) : v ∈ vals tb ↔ v ∈ vof tb := by
  unfold vals
  rw [mem_valT]
  simp
theorem up_len {V : List Int} {far : Nat} (h : V.Pairwise (· < ·)) (hb : ∀ v ∈ V, 0 ≤ v ∧ v < far) : V.length ≤ far := by
  have nd : V.Nodup := h.imp fun {a b} q e => by omega
  have := nodup_sub (m := (List.range far).map Int.ofNat) nd fun v hv => by
    have := hb v hv
    refine List.mem_map.mpr ⟨v.toNat, List.mem_range.mpr (by omega), ?_⟩
    show (v.toNat : Int) = v
    omega
  rwa [List.length_map, List.length_range] at this
section
variable {S : Store} {far : Nat}
def mLVal : SM := (sSet 5 (mCall sortSetD (mCons (mBin addD (mVar 5) (mCall lstD (mCons (mVar 9) mNil))) mNil)))
def mLVecB : SM := (sSet 10 (mBin addD (mVar 10) (mLc (mIter (mVar 5)) [11] (tgN 11) mYes (mBin addD (mVar 9) (mTup (mCons (mVar 11) mNil))))))
def mLVec : SM := (sSeq (sSet 10 (mLst mNil)) (sSeq (sFor (mIter (mVar 2)) (tgN 9) mLVecB) (sSet 2 (mVar 10))))
def mLAns : SM := (sSeq (sAsg (mTup (mCons (mApp 1 FLNames (mCons (mVar 1) mNil)) (mCons (mLst mNil) mNil))) (tgT 2 (tgsCons (tgN 4) (tgsCons (tgN 5) tgsNil))))
    (sSeq (sFor (mIter (mVar 0)) (tgT 3 (tgsCons (tgN 6) (tgsCons (tgN 7) (tgsCons (tgN 8) tgsNil)))) (sFor (mIter (mVar 8)) (tgN 9) mLVal))
    (sSeq (sSet 2 (mLst (mCons (mTup mNil) mNil)))
    (sSeq (sFor (mIter (mVar 4)) (tgN 3) mLVec)
    (sRet (mLc (mIter (mVar 2)) [9] (tgN 9) (mTru (mApp 3 FLIs (mCons (mVar 0) (mCons (mVar 1) (mCons (mCall dictZipD (mCons (mVar 4) (mCons (mVar 9) mNil))) mNil))))) (mVar 9)))))))
def FLAns : List D → Store → R D := runT 12 mLAns
theorem lval_loop {y0 y1 y2 y3 y4 y6 y7 y8 y10 y11 : Option D} (hf : far ≤ 20) : ∀ (rows : List (List Int)) (V : List Int) (y9 : Option D), V.Pairwise (· < ·) → (∀ v ∈ V, 0 ≤ v ∧ v < far) → (∀ r ∈ rows, r.length ≤ 3 ∧ ∀ v ∈ r, 0 ≤ v ∧ v < far) →
    ∃ y9', sLoop (tgN 9) mLVal (rows.map rowD) [y0, y1, y2, y3, y4, some (.lst (V.map D.int)), y6, y7, y8, y9, y10, y11] S = .ok .next [y0, y1, y2, y3, y4, some (.lst ((valS V rows).map D.int)), y6, y7, y8, y9', y10, y11] S
  | [], V, y9, _, _, _ => ⟨y9, rfl⟩
  | r :: rows, V, y9, hv, hb, hr => by
    obtain ⟨h1, h2⟩ := hr r List.mem_cons_self
    have hl := up_len hv hb
    have hl2 : V.length + r.length ≤ 100000 := by omega
    have ad : addD (.lst (V.map D.int)) (.lst (r.map D.int)) S = some (.lst ((V ++ r).map D.int)) := by
      rw [addD_lst, if_pos (by rw [List.length_map, List.length_map]; exact hl2), List.map_append]
    have so := sortSetD_ints (S := S) (ns := V ++ r) (by rw [List.length_append]; omega)
    have e : mLVal [y0, y1, y2, y3, y4, some (.lst (V.map D.int)), y6, y7, y8, some (rowD r), y10, y11] S = .ok .next [y0, y1, y2, y3, y4, some (.lst ((ssI (V ++ r)).map D.int)), y6, y7, y8, some (rowD r), y10, y11] S := by
      have l : lstD [rowD r] S = some (.lst (r.map D.int)) := rfl
      unfold mLVal
      simp [l, ad, so, -addD_lst, -List.map_append]
    rw [List.map_cons, loop_step (r := [y0, y1, y2, y3, y4, some (.lst (V.map D.int)), y6, y7, y8, y9, y10, y11]) rfl e]
    exact lval_loop hf rows (ssI (V ++ r)) _ (ssI_strict _) (fun v hv => by
      rcases List.mem_append.mp (mem_ssI.mp hv) with q | q
      · exact hb v q
      · exact h2 v q) fun s hs => hr s (List.mem_cons_of_mem _ hs)
theorem lvals_loop {y0 y1 y2 y3 y4 y10 y11 : Option D} (hf : far ≤ 20) : ∀ (tb : List Bt) (V : List Int) (y6 y7 y8 y9 : Option D), V.Pairwise (· < ·) → (∀ v ∈ V, 0 ≤ v ∧ v < far) → (∀ x ∈ tb, ∀ r ∈ x.rows, r.length ≤ 3 ∧ ∀ v ∈ r, 0 ≤ v ∧ v < far) →
    ∃ y6' y7' y8' y9', sLoop (tgT 3 (tgsCons (tgN 6) (tgsCons (tgN 7) (tgsCons (tgN 8) tgsNil)))) (sFor (mIter (mVar 8)) (tgN 9) mLVal) (tb.map tabD) [y0, y1, y2, y3, y4, some (.lst (V.map D.int)), y6, y7, y8, y9, y10, y11] S = .ok .next [y0, y1, y2, y3, y4, some (.lst ((valT V tb).map D.int)), y6', y7', y8', y9', y10, y11] S
  | [], V, y6, y7, y8, y9, _, _, _ => ⟨y6, y7, y8, y9, rfl⟩
  | x :: tb, V, y6, y7, y8, y9, hv, hb, hr => by
    have hx := hr x List.mem_cons_self
    obtain ⟨z9, e1⟩ := lval_loop (S := S) (y0 := y0) (y1 := y1) (y2 := y2) (y3 := y3) (y4 := y4) (y6 := some (.str x.w)) (y7 := some (.int x.n)) (y8 := some (.tup (x.rows.map rowD))) (y10 := y10) (y11 := y11) hf x.rows V y9 hv hb hx
    have e2 : sFor (mIter (mVar 8)) (tgN 9) mLVal [y0, y1, y2, y3, y4, some (.lst (V.map D.int)), some (.str x.w), some (.int x.n), some (.tup (x.rows.map rowD)), y9, y10, y11] S = .ok .next [y0, y1, y2, y3, y4, some (.lst ((valS V x.rows).map D.int)), some (.str x.w), some (.int x.n), some (.tup (x.rows.map rowD)), z9, y10, y11] S := by
      simp [e1]
    rw [List.map_cons, loop_step (r := [y0, y1, y2, y3, y4, some (.lst (V.map D.int)), y6, y7, y8, y9, y10, y11]) (r1 := [y0, y1, y2, y3, y4, some (.lst (V.map D.int)), some (.str x.w), some (.int x.n), some (.tup (x.rows.map rowD)), y9, y10, y11]) rfl e2]
    exact lvals_loop hf tb (valS V x.rows) _ _ _ _ (valS_up _ _ hv) (fun v hv => by
      rcases (mem_valS _ _).mp hv with q | q
      · exact hb v q
      · obtain ⟨r, h1, h2⟩ := List.mem_flatten.mp q
        exact (hx r h1).2 v h2) fun s hs => hr s (List.mem_cons_of_mem _ hs)
theorem lvecB_loop {V : List Int} {y0 y1 y2 y3 y4 y6 y7 y8 y11 : Option D} : ∀ (rs acc : List (List Int)) (y9 : Option D), acc.length + rs.length * V.length ≤ 100000 → (∀ r ∈ rs, r.length ≤ 1000) →
    ∃ y9', sLoop (tgN 9) mLVecB (rs.map rowD) [y0, y1, y2, y3, y4, some (.lst (V.map D.int)), y6, y7, y8, y9, some (.lst (acc.map rowD)), y11] S = .ok .next [y0, y1, y2, y3, y4, some (.lst (V.map D.int)), y6, y7, y8, y9', some (.lst ((acc ++ vexS V rs).map rowD)), y11] S
  | [], acc, y9, _, _ => ⟨y9, by rw [show vexS V [] = [] from rfl, List.append_nil]; rfl⟩
  | r :: rs, acc, y9, hl, hr => by
    rw [List.length_cons, Nat.succ_mul] at hl
    have hrl := hr r List.mem_cons_self
    have lc := lc_all (gm := tgN 11) (te := mBin addD (mVar 9) (mTup (mCons (mVar 11) mNil))) (r0 := [y0, y1, y2, y3, y4, some (.lst (V.map D.int)), y6, y7, y8, some (rowD r), some (.lst (acc.map rowD)), none]) (S := S) D.int (fun v => rowD (r ++ [v])) V fun v _ => ⟨[y0, y1, y2, y3, y4, some (.lst (V.map D.int)), y6, y7, y8, some (rowD r), some (.lst (acc.map rowD)), some (.int v)], rfl, by
      have : addD (rowD r) (.tup [.int v]) S = some (rowD (r ++ [v])) := by
        show addD (.tup (r.map D.int)) (.tup [.int v]) S = some (.tup ((r ++ [v]).map D.int))
        rw [addD_tup, if_pos (by rw [List.length_map, List.length_singleton]; omega), List.map_append]
        rfl
      simp [this]⟩
    have er : V.map (fun v => rowD (r ++ [v])) = (V.map fun v => r ++ [v]).map rowD := by rw [List.map_map]; rfl
    rw [er] at lc
    have ad : addD (.lst (acc.map rowD)) (.lst ((V.map fun v => r ++ [v]).map rowD)) S = some (.lst ((acc ++ V.map fun v => r ++ [v]).map rowD)) := by
      rw [addD_lst, if_pos (by rw [List.length_map, List.length_map, List.length_map]; omega), List.map_append]
    have e : mLVecB [y0, y1, y2, y3, y4, some (.lst (V.map D.int)), y6, y7, y8, some (rowD r), some (.lst (acc.map rowD)), y11] S = .ok .next [y0, y1, y2, y3, y4, some (.lst (V.map D.int)), y6, y7, y8, some (rowD r), some (.lst ((acc ++ V.map fun v => r ++ [v]).map rowD)), y11] S := by
      unfold mLVecB
      simp only [sSet_ap, mBin_ap, mVar_ap, mLc_ap, mIter_ap, seqD_lst, wipeE_cons, wipeE_nil, List.set_cons_zero, List.set_cons_succ, List.getElem?_cons_zero, List.getElem?_cons_succ, rb_ok, ofO_some, lc, ad]
      rfl
    rw [List.map_cons, loop_step (r := [y0, y1, y2, y3, y4, some (.lst (V.map D.int)), y6, y7, y8, y9, some (.lst (acc.map rowD)), y11]) rfl e]
    have := lvecB_loop (V := V) (y0 := y0) (y1 := y1) (y2 := y2) (y3 := y3) (y4 := y4) (y6 := y6) (y7 := y7) (y8 := y8) (y11 := y11) rs (acc ++ V.map fun v => r ++ [v]) (some (rowD r)) (by rw [List.length_append, List.length_map]; omega) fun s hs => hr s (List.mem_cons_of_mem _ hs)
    rw [List.append_assoc] at this
    exact this
theorem lvec_loop {V : List Int} (hV : V.length ≤ 3) {y0 y1 y4 y6 y7 y8 y11 : Option D} : ∀ (xs : List Str) (i : Nat) (y3 y9 y10 : Option D), i + xs.length ≤ 4 →
    ∃ y3' y9' y10', sLoop (tgN 3) mLVec (xs.map D.str) [y0, y1, some (.lst ((vex V i).map rowD)), y3, y4, some (.lst (V.map D.int)), y6, y7, y8, y9, y10, y11] S = .ok .next [y0, y1, some (.lst ((vex V (i + xs.length)).map rowD)), y3', y4, some (.lst (V.map D.int)), y6, y7, y8, y9', y10', y11] S
  | [], i, y3, y9, y10, _ => ⟨y3, y9, y10, rfl⟩
  | x :: xs, i, y3, y9, y10, hi => by
    rw [List.length_cons] at hi
    have h1 : (vex V i).length ≤ 81 := Nat.le_trans (vex_len hV i) (show 3 ^ i ≤ 3 ^ 4 from Nat.pow_le_pow_right (by omega) (by omega))
    have h2 : (vex V i).length * V.length ≤ 81 * 3 := Nat.mul_le_mul h1 hV
    obtain ⟨z9, e1⟩ := lvecB_loop (S := S) (V := V) (y0 := y0) (y1 := y1) (y2 := some (.lst ((vex V i).map rowD))) (y3 := some (.str x)) (y4 := y4) (y6 := y6) (y7 := y7) (y8 := y8) (y11 := y11) (vex V i) [] y9 (by simp; omega) fun r hr => by rw [(mem_vex.mp hr).1]; omega
    rw [List.nil_append] at e1
    have e1 : sLoop (tgN 9) mLVecB ((vex V i).map rowD) [y0, y1, some (.lst ((vex V i).map rowD)), some (.str x), y4, some (.lst (V.map D.int)), y6, y7, y8, y9, some (.lst []), y11] S = _ := e1
    have e2 : mLVec [y0, y1, some (.lst ((vex V i).map rowD)), some (.str x), y4, some (.lst (V.map D.int)), y6, y7, y8, y9, y10, y11] S = .ok .next [y0, y1, some (.lst ((vex V (i + 1)).map rowD)), some (.str x), y4, some (.lst (V.map D.int)), y6, y7, y8, z9, some (.lst ((vex V (i + 1)).map rowD)), y11] S := by
      unfold mLVec
      simp [e1]
      rfl
    rw [List.map_cons, loop_step (r := [y0, y1, some (.lst ((vex V i).map rowD)), y3, y4, some (.lst (V.map D.int)), y6, y7, y8, y9, y10, y11]) rfl e2, show i + (x :: xs).length = i + 1 + xs.length by rw [List.length_cons]; omega]
    exact lvec_loop hV xs (i + 1) _ _ _ (by omega)
theorem zip_has {xs : List Str} {r : List Int} (hn : xs.Nodup) (hl : r.length = xs.length) {x : Str} (hx : x ∈ xs) : (gLk (gZipA xs r []) x).isSome = true := by
  obtain ⟨f, rfl⟩ := ex_fn hn hl
  rw [zip_lk, if_pos hx]
  rfl
theorem dictZip_ok (xs : List Str) (r : List Int) : dictZipD [.lst (xs.map D.str), rowD r] S = some (dG (gZipA xs r [])) := by
  show dictZipD [.lst (xs.map D.str), .tup (r.map D.int)] S = _
  rw [dictZipD_ap, keysOf_strs]
  show some (D.dct (mergeKD (gK []) ((xs.map Sum.inr).zip (r.map D.int)))) = _
  rw [zip_merge]
  rfl
theorem lans_ok {tb : List Bt} {as : List At} {cs : List Ck} (hn : (tb.map (·.w)).Nodup) (hl : tb.length ≤ 100) (hr : ∀ x ∈ tb, ∀ r ∈ x.rows, r.length ≤ 3 ∧ ∀ v ∈ r, 0 ≤ v ∧ v < (3 : Nat)) (ha : ∀ a ∈ as, (∃ x ∈ tb, x.w = a.w) ∧ a.ts.length ≤ 3) (hok : ∀ a ∈ as, ∀ t ∈ a.ts, t.Ok) (hal : as.length ≤ 100) (hc : ∀ c ∈ cs, CkIn as c) (hs : ∀ c ∈ cs, c.s = "less" ∨ c.s = "unlike") :
    FLAns [.tup (tb.map tabD), askD as cs] S = .ok (.lst ((due tb as cs (vals tb)).map rowD)) S := by
  have e0 : FLNames [askD as cs] S = .ok (.lst ((nms as).map D.str)) S := lnames_ok hok (fun a h => (ha a h).2) hal
  have h4 := nms_len hok
  have hV : (vals tb).length ≤ 3 := up_len (far := 3) (vals_up tb) fun v hv => by
    obtain ⟨x, hx, h2⟩ := List.mem_flatMap.mp ((mem_vals tb v).mp hv)
    obtain ⟨r, h3, h4⟩ := List.mem_flatten.mp h2
    exact (hr x hx r h3).2 v h4
  obtain ⟨y6, y7, y8, y9, e1⟩ := lvals_loop (S := S) (far := 3) (y0 := some (.tup (tb.map tabD))) (y1 := some (askD as cs)) (y2 := none) (y3 := none) (y4 := some (.lst ((nms as).map D.str))) (y10 := none) (y11 := none) (by omega) tb [] none none none none .nil (by intro v h; cases h) hr
  have e1 : sLoop (tgT 3 (tgsCons (tgN 6) (tgsCons (tgN 7) (tgsCons (tgN 8) tgsNil)))) (sFor (mIter (mVar 8)) (tgN 9) mLVal) (tb.map tabD) [some (.tup (tb.map tabD)), some (askD as cs), none, none, some (.lst ((nms as).map D.str)), some (.lst []), none, none, none, none, none, none] S = .ok .next [some (.tup (tb.map tabD)), some (askD as cs), none, none, some (.lst ((nms as).map D.str)), some (.lst ((vals tb).map D.int)), y6, y7, y8, y9, none, none] S := e1
  obtain ⟨y3, z9, y10, e2⟩ := lvec_loop (S := S) hV (y0 := some (.tup (tb.map tabD))) (y1 := some (askD as cs)) (y4 := some (.lst ((nms as).map D.str))) (y6 := y6) (y7 := y7) (y8 := y8) (y11 := none) (nms as) 0 none y9 none (by omega)
  rw [Nat.zero_add] at e2
  have e2 : sLoop (tgN 3) mLVec ((nms as).map D.str) [some (.tup (tb.map tabD)), some (askD as cs), some (.lst [.tup []]), none, some (.lst ((nms as).map D.str)), some (.lst ((vals tb).map D.int)), y6, y7, y8, y9, none, none] S = _ := e2
  have e3 := lc_src (gm := tgN 9) (tt := mTru (mApp 3 FLIs (mCons (mVar 0) (mCons (mVar 1) (mCons (mCall dictZipD (mCons (mVar 4) (mCons (mVar 9) mNil))) mNil))))) (te := mVar 9) (r0 := [some (.tup (tb.map tabD)), some (askD as cs), some (.lst ((vex (vals tb) (nms as).length).map rowD)), y3, some (.lst ((nms as).map D.str)), some (.lst ((vals tb).map D.int)), y6, y7, y8, none, y10, none]) (S := S) rowD (fun r => satB tb as cs (zf (nms as) r)) rowD (vex (vals tb) (nms as).length) fun r hrr => ⟨[some (.tup (tb.map tabD)), some (askD as cs), some (.lst ((vex (vals tb) (nms as).length).map rowD)), y3, some (.lst ((nms as).map D.str)), some (.lst ((vals tb).map D.int)), y6, y7, y8, some (rowD r), y10, none], rfl, by
    have hlen := (mem_vex.mp hrr).1
    have has : ∀ x ∈ usd as, (gLk (gZipA (nms as) r []) x).isSome = true := fun x hx => zip_has (nodup_nms as) hlen (mem_nms.mpr hx)
    have q := lis_ok (S := S) (tb := tb) (as := as) (cs := cs) (g := gZipA (nms as) r []) hn hl (fun a h => ⟨(ha a h).1, fun x hx => has x (mem_usd.mpr ⟨a, h, hx⟩)⟩) fun c h => ⟨hs c h, has _ (hc c h).1, fun y e => has y ((hc c h).2 y e)⟩
    have q : FLIs [.tup (tb.map tabD), askD as cs, dG (gZipA (nms as) r [])] S = .ok (.bl (satB tb as cs (zf (nms as) r))) S := q
    simp [dictZip_ok (S := S) (nms as) r, q], fun _ => rfl⟩
  refine fn_ret (show clo _ (.lst _) = true from cloL_rows _ _) ⟨[some (.tup (tb.map tabD)), some (askD as cs), some (.lst ((vex (vals tb) (nms as).length).map rowD)), y3, some (.lst ((nms as).map D.str)), some (.lst ((vals tb).map D.int)), y6, y7, y8, z9, y10, none], ?_⟩
  show mLAns [some (.tup (tb.map tabD)), some (askD as cs), none, none, none, none, none, none, none, none, none, none] S = _
  unfold mLAns
  simp [e0, e1, e2, e3, -sFor_ap, sFor_ap (mIter (mVar 0)), sFor_ap (mIter (mVar 4))]
  rfl
end
end Dv
namespace Dv
open PySem L2
section
variable {S : Store}
end
end Dv
namespace Dv
open PySem L2
section
variable {S : Store}
end
end Dv
namespace Dv
open PySem L2
section
variable {S : Store} {d : D} {k : Nat}
end
end Dv
namespace Nv
open PySem L2 Dv
section
variable {S : Store} {d : D} {k : Nat}
end
section
variable {S : Store} {d : D} {k : Nat} {kds : List (Key × D)}
end
section
variable {S : Store} {d : D} {k : Nat} {ns : List Str}
end
section
variable {S : Store} {d : D} {k : Nat} {ns : List Str}
end
section
variable {S : Store} {d : D} {k : Nat} {ns : List Str} {kds : List (Key × D)}
end
end Nv
namespace Dv
open PySem L2
section
variable {S : Store} {ns : List Int} {n t : Nat}
end
end Dv
namespace Nv
open PySem L2 Dv
section
variable {S : Store} {d : D} {k : Nat} {ns : List Str} {kds : List (Key × D)}
end
end Nv
namespace Nv
open PySem L2 Dv
section
variable {S : Store} {d : D} {k : Nat} {ns : List Str} {kds : List (Key × D)}
end
end Nv
namespace Nv
open PySem L2 Dv
section
variable {S : Store} {d : D} {k : Nat} {tb : List Bt}
end
end Nv
namespace Dv
open PySem L2
def wpD (p : Str × Nat) : D := .tup [.str p.1, .int (p.2 : Nat)]
structure WdOk (ws : List (Str × Nat)) : Prop where
  ne : ws ≠ []
  ok : ∀ p ∈ ws, p.1 ∈ pqrs ∧ 1 ≤ p.2 ∧ p.2 ≤ 3
def viewD (hd : List Tm) (as : List At) : D := .tup [.tup (hd.map trD), .tup (as.map atD)]
structure ViewOk (ws : List (Str × Nat)) (many : Nat) (hd : List Tm) (as : List At) : Prop where
  at_ : ∀ a ∈ as, (∃ p ∈ ws, a.w = p.1 ∧ a.ts.length = p.2) ∧ ∀ t ∈ a.ts, t.Ok
  ne : as ≠ []
  len : as.length ≤ many
  hl : hd.length ≤ 2
  hd : ∀ t ∈ hd, t = .vl 1 ∨ ∃ x ∈ usd as, t = .nm x
def mVwA : SM := (sSeq (sAsg (mApp 3 FPick (mCons (mVar 0) (mCons (mVar 1) (mCons (mVar 3) mNil)))) (tgT 2 (tgsCons (tgN 10) (tgsCons (tgN 11) tgsNil))))
    (sSeq (sSet 9 (mLc (mRng1 (mCons (mVar 11) mNil)) [12] (tgN 12) mYes (mApp 3 FPick (mCons (mVar 0) (mCons (mVar 1) (mCons (mBin addD (mBin mulD (mVar 7) (mC (.int 4))) (mLst (mCons (mApp 3 FDraw (mCons (mVar 0) (mCons (mVar 1) (mCons (mC (.int 2)) mNil)))) mNil))) mNil))))))
    (sDrop (mAppend (mVar 8) (mTup (mCons (mVar 10) (mCons (mCall tupD (mCons (mVar 9) mNil)) mNil)))))))
def mVwU : SM := (sSet 5 (mBin addD (mVar 5) (mLc (mIter (mVar 9)) [13] (tgN 13) (mAndT (mTru (mCall isiD (mCons (mVar 13) (mCons (mC (.ty "str")) mNil)))) (mT (mBin ninTD (mVar 13) (mVar 5)))) (mVar 13))))
def mView : SM := (sSeq (sAsg (mTup (mCons (mSl (mLst (mCons (mC (.str "a")) (mCons (mC (.str "b")) (mCons (mC (.str "c")) (mCons (mC (.str "d")) mNil))))) mNoP (mP (mBin addD (mC (.int 1)) (mApp 3 FDraw (mCons (mVar 0) (mCons (mVar 1) (mCons (mC (.int 4)) mNil))))))) (mCons (mNewL mNil) mNil))) (tgT 2 (tgsCons (tgN 7) (tgsCons (tgN 8) tgsNil))))
    (sSeq (sFor (mRng1 (mCons (mBin addD (mC (.int 1)) (mApp 3 FDraw (mCons (mVar 0) (mCons (mVar 1) (mCons (mVar 2) mNil))))) mNil)) (tgN 4) mVwA)
    (sSeq (sSet 5 (mLst mNil))
    (sSeq (sForG (mIterG (mVar 8)) (tgT 2 (tgsCons (tgN 10) (tgsCons (tgN 9) tgsNil))) mVwU)
    (sSeq (sSet 6 (mCall tupD (mCons (mLc (mRng1 (mCons (mApp 3 FPick (mCons (mVar 0) (mCons (mVar 1) (mCons (mLst (mCons (mC (.int 0)) (mCons (mC (.int 1)) (mCons (mC (.int 1)) (mCons (mC (.int 2)) mNil))))) mNil)))) mNil)) [4] (tgN 4) mYes (mApp 3 FPick (mCons (mVar 0) (mCons (mVar 1) (mCons (mBin addD (mBin mulD (mVar 5) (mC (.int 3))) (mLst (mCons (mC (.int 1)) mNil))) mNil))))) mNil)))
    (sRet (mTup (mCons (mVar 6) (mCons (mCall tupD (mCons (mVar 8) mNil)) mNil)))))))))
def FView : List D → Store → R D := runT 14 mView
theorem clo_view (m : Nat) (hd : List Tm) (as : List At) : clo m (viewD hd as) = true := by
  refine (cloL_iff m _).mpr fun d h => ?_
  simp only [List.mem_cons, List.not_mem_nil, or_false] at h
  rcases h with rfl | rfl
  · exact cloL_trs m hd
  · refine (cloL_iff m _).mpr fun d h => ?_
    obtain ⟨a, _, rfl⟩ := List.mem_map.mp h
    exact clo_at m a
theorem cloL_wps (m : Nat) (ws : List (Str × Nat)) : cloL m (ws.map wpD) = true := (cloL_iff m _).mpr fun d h => by
  obtain ⟨p, _, rfl⟩ := List.mem_map.mp h
  rfl
section
variable {S : Store} {ns : List Int} {n t : Nat}
theorem mul_strs (xs : List Str) (k : Nat) (hk : xs.length * k ≤ 1000) (hk2 : k ≤ 100) : mulD (.lst (xs.map D.str)) (.int (k : Nat)) S = some (.lst ((List.replicate k (xs.map Tm.nm)).flatten.map trD)) := by
  rw [mulD_lst, if_pos ⟨by omega, by omega, by rw [List.length_map]; simp; omega⟩]
  congr 2
  rw [List.map_flatten, List.map_replicate, ← nms_tr]
  simp
theorem picks (h63 : ns.length ≤ 63) {te : EM} {r0 : Env} {j : Nat} (P : Tm → Prop) {c w : Nat} (tw : Twn t n S) (hw : w ≤ 10) (hc : c ≤ 10) (hn : n ≤ 20000)
    (hte : ∀ d n S, Twn t n S → n ≤ 30000 → ∃ z S', P z ∧ Twn t (n + c) S' ∧ Dif t S S' ∧ te (r0.set j (some d)) S = .ok (trD z) S') :
    ∃ (ts : List Tm) (S' : Store), lcL (tgN j) mYes te r0 (rng 0 w) S = .ok (ts.map trD) S' ∧ ts.length = w ∧ (∀ t ∈ ts, P t) ∧ Twn t (n + c * w) S' ∧ Dif t S S' := by
  obtain ⟨ys, S', e, ts, h1, h2, h3, h4⟩ := lc_inv (gm := tgN j) (te := te) (r0 := r0)
    (fun i zs S' => ∃ ts : List Tm, (zs = ts.map trD ∧ ts.length = i ∧ i ≤ w) ∧ (∀ t ∈ ts, P t) ∧ Twn t (n + c * i) S' ∧ Dif t S S') (rng 0 w) 0 [] S (fun i d zs S1 hd hi => by
      obtain ⟨hi2, rfl⟩ := rng_get hd
      obtain ⟨ts, ⟨rfl, q1, q2⟩, q3, q4, q5⟩ := hi
      have hb : c * (0 + i) ≤ 100 := Nat.le_trans (Nat.mul_le_mul hc (show 0 + i ≤ 10 by omega)) (by decide)
      obtain ⟨z, S2, hz, tw2, d2, e2⟩ := hte (.int ((0 : Int) + (i : Nat))) _ S1 q4 (by omega)
      refine ⟨_, trD z, S2, rfl, e2, ts ++ [z], ⟨by simp, by simp [q1], by omega⟩, fun y hy => ?_, tw2.mono (by rw [Nat.mul_succ]; omega), q5.trans d2⟩
      rcases List.mem_append.mp hy with q | q
      · exact q3 y q
      · rw [List.mem_singleton.mp q]
        exact hz) ⟨[], ⟨rfl, rfl, Nat.zero_le _⟩, (by intro z hz; cases hz), tw.mono (by omega), tw.dif⟩
  rw [rng_len, Nat.zero_add] at h1 h3
  simp only [List.nil_append] at h1
  exact ⟨ts, S', by rw [e, h1.1], h1.2.1, h2, h3, h4⟩
theorem add_one {l : List Tm} {z : Tm} (hl : l.length ≤ 1000) : addD (.lst (l.map trD)) (.lst [trD z]) S = some (.lst ((l ++ [z]).map trD)) := by
  rw [addD_lst, if_pos (by rw [List.length_map, List.length_singleton]; omega), List.map_append]
  rfl
theorem vwA_ok (h63 : ns.length ≤ 63) {ws : List (Str × Nat)} (hws : WdOk ws) {nm : List Str} (hn4 : ∀ x ∈ nm, x ∈ abcd) (hnl : nm.length ≤ 4) {A : Nat} {atoms : List At} {y2 y4 y5 y6 y9 y10 y11 y12 y13 : Option D} (hA : A ≠ t) (tw : Twn t n S) (hn : n ≤ 15000) (hS : S[A]? = some (.lst (atoms.map atD))) (hal : atoms.length ≤ 100) :
    ∃ S' y9' y10' y11' a, mVwA [some (.scr ns), some (.loc t), y2, some (.lst (ws.map wpD)), y4, y5, y6, some (.lst (nm.map D.str)), some (.loc A), y9, y10, y11, y12, y13] S = .ok .next [some (.scr ns), some (.loc t), y2, some (.lst (ws.map wpD)), y4, y5, y6, some (.lst (nm.map D.str)), some (.loc A), y9', y10', y11', y12, y13] S' ∧ ((∃ p ∈ ws, a.w = p.1 ∧ a.ts.length = p.2) ∧ ∀ t ∈ a.ts, t.Ok) ∧ Twn t (n + 14) S' ∧ S'[A]? = some (.lst ((atoms ++ [a]).map atD)) ∧ S'.length = S.length ∧ ∀ j, j ≠ t → j ≠ A → S'[j]? = S[j]? := by
  obtain ⟨j, d, S1, hj, tw1, d1, e1⟩ := pick_tw (seq := .lst (ws.map wpD)) (xs := ws.map wpD) h63 tw (by omega) (.inl rfl) (by simpa using hws.ne) (fun m => cloL_wps m ws)
  obtain ⟨p, hp, rfl⟩ := List.mem_map.mp (List.mem_of_getElem? hj)
  obtain ⟨_, p1, p3⟩ := hws.ok p hp
  have hm : ∀ z ∈ (List.replicate 4 (nm.map Tm.nm)).flatten, z.Ok := fun z hz => by
    obtain ⟨l, hl, hz⟩ := List.mem_flatten.mp hz
    rw [List.eq_of_mem_replicate hl] at hz
    obtain ⟨y, hy, rfl⟩ := List.mem_map.mp hz
    exact hn4 y hy
  have hfl : (List.replicate 4 (nm.map Tm.nm)).flatten.length ≤ 1000 := by simp; omega
  obtain ⟨ts, S2, e2, tl, tt, tw2, d2⟩ := picks (j := 12) (w := p.2) (c := 4) (te := mApp 3 FPick (mCons (mVar 0) (mCons (mVar 1) (mCons (mBin addD (mBin mulD (mVar 7) (mC (.int 4))) (mLst (mCons (mApp 3 FDraw (mCons (mVar 0) (mCons (mVar 1) (mCons (mC (.int 2)) mNil)))) mNil))) mNil)))) (r0 := [some (.scr ns), some (.loc t), y2, some (.lst (ws.map wpD)), y4, y5, y6, some (.lst (nm.map D.str)), some (.loc A), y9, some (.str p.1), some (.int (p.2 : Nat)), none, y13]) h63 Tm.Ok tw1 (by omega) (by omega) (by omega) fun d n S tw hn => by
    obtain ⟨v, S2, hv, b, c, e⟩ := draw_tw (many := 2) h63 tw (by omega) (by decide)
    obtain ⟨z, S3, hz, b3, c3, e3⟩ := pick_tr (l := (List.replicate 4 (nm.map Tm.nm)).flatten ++ [Tm.vl v]) h63 b (by omega) (by simp)
    refine ⟨z, S3, ?_, b3.mono (by omega), c.trans c3, ?_⟩
    · rcases List.mem_append.mp hz with q | q
      · exact hm z q
      · rw [List.mem_singleton.mp q]
        exact ⟨by omega, by show (v : Int) < 3; omega⟩
    · have a1 := mul_strs (S := S) nm 4 (by omega) (by omega)
      have a1 : mulD (.lst (nm.map D.str)) (.int 4) S = some (.lst ((List.replicate 4 (nm.map Tm.nm)).flatten.map trD)) := a1
      have a2 := add_one (S := S2) (z := .vl v) hfl
      have a2 : addD (.lst ((List.replicate 4 (nm.map Tm.nm)).flatten.map trD)) (.lst [.int (v : Nat)]) S2 = some (.lst (((List.replicate 4 (nm.map Tm.nm)).flatten ++ [Tm.vl v]).map trD)) := a2
      generalize (List.replicate 4 (nm.map Tm.nm)).flatten = L at a1 a2 e3
      simp [e, a1, a2, e3, -addD_lst, -mulD_lst, -List.map_append]
  have d12 := d1.trans d2
  have hS2 : S2[A]? = some (.lst (atoms.map atD)) := by rw [d12.other hA]; exact hS
  have hwI : rng1 [.int (p.2 : Nat)] = some (rng 0 p.2) := by
    rw [rng1_int, if_pos (by omega)]
    rfl
  have hal2 : atoms.length < 100000 := by omega
  refine ⟨List.set S2 A (.lst ((atoms ++ [(⟨p.1, ts⟩ : At)]).map atD)), some (.lst (ts.map trD)), some (.str p.1), some (.int (p.2 : Nat)), (⟨p.1, ts⟩ : At), ?_, ⟨⟨p, hp, rfl, tl⟩, tt⟩, ?_, gs hS2 _, ?_, fun j h2 h3 => ?_⟩
  · have tgx : wpD p = .tup [.str p.1, .int (p.2 : Nat)] := rfl
    rw [tgx] at e1
    unfold mVwA
    simp [e1, hwI, e2, hS2, hal2, atD, -rng1_int]
  · exact twn_set hA (tw2.mono (by omega))
  · rw [List.length_set, d12.len]
  · rw [List.getElem?_set_ne (fun q => h3 q.symm), d12.other h2]
theorem vwU_loop {c : Gd} (hc : c S = true) {y0 y1 y2 y3 y4 y6 y7 y8 y11 y12 y13 : Option D} : ∀ (as : List At) (acc : List Str) (y9 y10 : Option D), (∀ a ∈ as, ∀ t ∈ a.ts, t.Ok) → (∀ a ∈ as, a.ts.length ≤ 3) → (∀ y ∈ acc, y ∈ abcd) → acc.length + 3 * as.length ≤ 9000 →
    ∃ (us : List Str) (y9' y10' : Option D), sLoopG c (tgT 2 (tgsCons (tgN 10) (tgsCons (tgN 9) tgsNil))) mVwU (as.map atD) [y0, y1, y2, y3, y4, some (.lst (acc.map D.str)), y6, y7, y8, y9, y10, y11, y12, y13] S = .ok .next [y0, y1, y2, y3, y4, some (.lst (us.map D.str)), y6, y7, y8, y9', y10', y11, y12, y13] S ∧ us.length ≤ acc.length + 3 * as.length ∧ ∀ y ∈ us, y ∈ acc ∨ y ∈ usd as
  | [], acc, y9, y10, _, _, _, _ => ⟨acc, y9, y10, by simp [sLoopG, hc], by simp, fun y hy => .inl hy⟩
  | a :: as, acc, y9, y10, ht, h3, ha, hl => by
    have ls := lc_src (gm := tgN 13) (tt := mAndT (mTru (mCall isiD (mCons (mVar 13) (mCons (mC (.ty "str")) mNil)))) (mT (mBin ninTD (mVar 13) (mVar 5)))) (te := mVar 13) (r0 := [y0, y1, y2, y3, y4, some (.lst (acc.map D.str)), y6, y7, y8, some (.tup (a.ts.map trD)), some (.str a.w), y11, y12, none]) (S := S) trD (fun t => match t with | .nm x => !decide (x ∈ acc) | .vl _ => false) trD a.ts fun t htt => by
      refine ⟨[y0, y1, y2, y3, y4, some (.lst (acc.map D.str)), y6, y7, y8, some (.tup (a.ts.map trD)), some (.str a.w), y11, y12, some (trD t)], rfl, ?_, fun _ => rfl⟩
      have i1 := isi_tr t S
      cases t with
      | vl i => simp [i1, trN]
      | nm x =>
        have q : ninTD (.str x) (.lst (acc.map D.str)) S = some (.bl (!decide (x ∈ acc))) := by
          show (inTO (.str x) (.lst (acc.map D.str))).map (fun k => D.bl (!k)) = _
          rw [inL_abcd (ht a List.mem_cons_self _ htt) ha]
          rfl
        have i1 : isiD [.str x, .ty "str"] S = some (.bl true) := i1
        simp [trD, i1, q]
    obtain ⟨ad, had⟩ : ∃ ad : List Str, (a.ts.filter fun t => match t with | .nm x => !decide (x ∈ acc) | .vl _ => false).map trD = ad.map D.str ∧ ad.length ≤ a.ts.length ∧ ∀ y ∈ ad, Tm.nm y ∈ a.ts := by
      have : ∀ ts : List Tm, ∃ ad : List Str, (ts.filter fun t => match t with | .nm x => !decide (x ∈ acc) | .vl _ => false).map trD = ad.map D.str ∧ ad.length ≤ ts.length ∧ ∀ y ∈ ad, Tm.nm y ∈ ts := fun ts => by
        induction ts with
        | nil => exact ⟨[], rfl, Nat.le_refl _, by simp⟩
        | cons t ts ih =>
          obtain ⟨ad, h1, h2, h4⟩ := ih
          cases t with
          | vl i =>
            refine ⟨ad, by rw [List.filter_cons]; simpa using h1, by rw [List.length_cons]; omega, fun y hy => List.mem_cons_of_mem _ (h4 y hy)⟩
          | nm x =>
            by_cases cx : x ∈ acc
            · refine ⟨ad, by rw [List.filter_cons]; simpa [cx] using h1, by rw [List.length_cons]; omega, fun y hy => List.mem_cons_of_mem _ (h4 y hy)⟩
            · refine ⟨x :: ad, ?_, by rw [List.length_cons, List.length_cons]; omega, fun y hy => ?_⟩
              · rw [List.filter_cons]
                simp only [cx, decide_false, Bool.not_false, if_true, List.map_cons]
                rw [h1]
                rfl
              · rcases List.mem_cons.mp hy with rfl | q
                · exact List.mem_cons_self
                · exact List.mem_cons_of_mem _ (h4 y q)
      exact this a.ts
    obtain ⟨had, hal, ham⟩ := had
    rw [had] at ls
    have h3a := h3 a List.mem_cons_self
    rw [List.length_cons] at hl
    have dd : addD (.lst (acc.map D.str)) (.lst (ad.map D.str)) S = some (.lst ((acc ++ ad).map D.str)) := by
      rw [addD_lst, if_pos (by rw [List.length_map, List.length_map]; omega), List.map_append]
    have st : mVwU [y0, y1, y2, y3, y4, some (.lst (acc.map D.str)), y6, y7, y8, some (.tup (a.ts.map trD)), some (.str a.w), y11, y12, y13] S = .ok .next [y0, y1, y2, y3, y4, some (.lst ((acc ++ ad).map D.str)), y6, y7, y8, some (.tup (a.ts.map trD)), some (.str a.w), y11, y12, y13] S := by
      unfold mVwU
      simp [ls, dd, -addD_lst, -List.map_append]
    obtain ⟨us, y9', y10', e, u1, u2⟩ := vwU_loop hc (y0 := y0) (y1 := y1) (y2 := y2) (y3 := y3) (y4 := y4) (y6 := y6) (y7 := y7) (y8 := y8) (y11 := y11) (y12 := y12) (y13 := y13) as (acc ++ ad) (some (.tup (a.ts.map trD))) (some (.str a.w)) (fun b hb => ht b (List.mem_cons_of_mem _ hb)) (fun b hb => h3 b (List.mem_cons_of_mem _ hb)) (fun y hy => (List.mem_append.mp hy).elim (ha y) fun q => ht a List.mem_cons_self _ (ham y q)) (by rw [List.length_append]; omega)
    refine ⟨us, y9', y10', ?_, by rw [List.length_append] at u1; rw [List.length_cons]; omega, fun y hy => ?_⟩
    · rw [← e, List.map_cons]
      conv => lhs; unfold sLoopG
      simp [hc, st, atD, -List.map_append]
    · rcases u2 y hy with q | q
      · rcases List.mem_append.mp q with q | q
        · exact .inl q
        · exact .inr (mem_usd.mpr ⟨a, List.mem_cons_self, ham y q⟩)
      · obtain ⟨b, hb, hx⟩ := mem_usd.mp q
        exact .inr (mem_usd.mpr ⟨b, List.mem_cons_of_mem _ hb, hx⟩)
theorem view_ok {many : Nat} (h63 : ns.length ≤ 63) (hm1 : 1 ≤ many) (hm4 : many ≤ 5) {ws : List (Str × Nat)} (hws : WdOk ws) (tw : Twn t n S) (hn : n ≤ 10000) :
    ∃ (hd : List Tm) (as : List At) (S' : Store), FView [.scr ns, .loc t, .int many, .lst (ws.map wpD)] S = .ok (viewD hd as) S' ∧ ViewOk ws many hd as ∧ Twn t (n + 100) S' ∧ Dif t S S' := by
  have ht := twn_lt tw
  obtain ⟨q, S1, hq, tw1, f1, e1⟩ := draw_tw (many := 4) h63 tw (by omega) (by decide)
  obtain ⟨m, S2, hm, tw2, f2, e2⟩ := draw_tw (many := many) h63 (twn_app (E := [.lst []]) tw1) (by omega) (by omega)
  have l1 : S1.length = S.length := f1.len
  have hA2 : S2[S.length]? = some (.lst []) := by rw [f2.other (by omega), ← l1]; simp
  obtain ⟨nm, hn4, hnl, ecut⟩ : ∃ nm : List Str, (∀ x ∈ nm, x ∈ abcd) ∧ nm.length ≤ 4 ∧ cutL (abcd.map D.str) none (some (1 + (q : Int))) = nm.map D.str := by
    have h1 : 1 + (q : Int) = ((q + 1 : Nat) : Int) := by omega
    refine ⟨abcd.take (q + 1), fun x hx => List.mem_of_mem_take hx, by rw [List.length_take]; exact Nat.min_le_right _ _, ?_⟩
    rw [h1, cut_take, List.map_take]
  have l2 : S2.length = S.length + 1 := by rw [f2.len, List.length_append, l1]; rfl
  obtain ⟨r3, S3, ea, atoms, ⟨y4, y9, y10, y11, rfl⟩, hat, hlen, tw3, hA3, sl3, kp3⟩ := loop_inv (gm := tgN 4) (b := mVwA)
    (fun i r S' => ∃ atoms : List At, (∃ y4 y9 y10 y11, r = [some (.scr ns), some (.loc t), some (.int many), some (.lst (ws.map wpD)), y4, none, none, some (.lst (nm.map D.str)), some (.loc S.length), y9, y10, y11, none, none]) ∧ (∀ a ∈ atoms, (∃ p ∈ ws, a.w = p.1 ∧ a.ts.length = p.2) ∧ ∀ t ∈ a.ts, t.Ok) ∧ atoms.length = i ∧ Twn t (n + 4 + 14 * i) S' ∧ S'[S.length]? = some (.lst (atoms.map atD)) ∧ S'.length = S2.length ∧ ∀ j, j ≠ t → j ≠ S.length → S'[j]? = S2[j]?) (rng 0 (m + 1)) 0 [some (.scr ns), some (.loc t), some (.int many), some (.lst (ws.map wpD)), none, none, none, some (.lst (nm.map D.str)), some (.loc S.length), none, none, none, none, none] S2 (fun i d r S1 hd hi => by
      obtain ⟨hi2, rfl⟩ := rng0_get hd
      obtain ⟨atoms, ⟨y4, y9, y10, y11, rfl⟩, hat, hlen, tw3, hA3, sl3, kp3⟩ := hi
      rw [Nat.zero_add] at hlen tw3
      obtain ⟨S4, y9', y10', y11', a, e, hatm, tw4, hA4, sl4, kp4⟩ := vwA_ok h63 hws hn4 hnl (A := S.length) (y2 := some (.int many)) (y4 := some (.int i)) (y5 := none) (y6 := none) (y9 := y9) (y10 := y10) (y11 := y11) (y12 := none) (y13 := none) (by omega) tw3 (by omega) hA3 (by omega)
      refine ⟨_, _, S4, rfl, .inl e, atoms ++ [a], ⟨_, _, _, _, rfl⟩, fun z hz => ?_, by simp [hlen], tw4.mono (by omega), hA4, sl4.trans sl3, fun j h1 h2 => by rw [kp4 j h1 h2, kp3 j h1 h2]⟩
      rcases List.mem_append.mp hz with q | q
      · exact hat z q
      · rw [List.mem_singleton.mp q]; exact hatm) ⟨[], ⟨_, _, _, _, rfl⟩, by simp, rfl, tw2.mono (by omega), hA2, rfl, fun _ _ _ => rfl⟩
  rw [rng_len, Nat.zero_add] at hlen tw3
  have hts : ∀ a ∈ atoms, ∀ t ∈ a.ts, t.Ok := fun a ha => (hat a ha).2
  have ht3 : ∀ a ∈ atoms, a.ts.length ≤ 3 := fun a ha => by
    obtain ⟨⟨p, hp, _, h⟩, _⟩ := hat a ha
    rw [h]
    exact (hws.ok p hp).2.2
  obtain ⟨us, y9u, y10u, eu, hul, hus⟩ := vwU_loop (S := S3) (gIs_ap hA3) (y0 := some (.scr ns)) (y1 := some (.loc t)) (y2 := some (.int many)) (y3 := some (.lst (ws.map wpD))) (y4 := y4) (y6 := none) (y7 := some (.lst (nm.map D.str))) (y8 := some (.loc S.length)) (y11 := y11) (y12 := none) (y13 := none) atoms [] y9 y10 hts ht3 (by simp) (by simp; omega)
  have hus : ∀ y ∈ us, y ∈ usd atoms := fun y hy => (hus y hy).elim (fun q => by cases q) fun q => q
  rw [List.length_nil, Nat.zero_add] at hul
  obtain ⟨j5, dk, S5, hj5, tw5, f5, e5⟩ := pick_tw (seq := .lst [.int 0, .int 1, .int 1, .int 2]) h63 tw3 (by omega) (.inl rfl) (by simp) (fun m => rfl)
  obtain ⟨kc, hk2, rfl⟩ : ∃ kc : Nat, kc ≤ 2 ∧ dk = .int kc := by
    match j5, hj5 with
    | 0, h => cases h; exact ⟨0, by omega, rfl⟩
    | 1, h => cases h; exact ⟨1, by omega, rfl⟩
    | 2, h => cases h; exact ⟨1, by omega, rfl⟩
    | 3, h => cases h; exact ⟨2, by omega, rfl⟩
    | j + 4, h => cases h
  have hfl : (List.replicate 3 (us.map Tm.nm)).flatten.length ≤ 1000 := by simp; omega
  obtain ⟨hd, S6, e6, hdl, hdp, tw6, d6⟩ := picks (j := 4) (w := kc) (c := 2) (te := mApp 3 FPick (mCons (mVar 0) (mCons (mVar 1) (mCons (mBin addD (mBin mulD (mVar 5) (mC (.int 3))) (mLst (mCons (mC (.int 1)) mNil))) mNil)))) (r0 := [some (.scr ns), some (.loc t), some (.int many), some (.lst (ws.map wpD)), none, some (.lst (us.map D.str)), none, some (.lst (nm.map D.str)), some (.loc S.length), y9u, y10u, y11, none, none]) h63 (fun z => z = .vl 1 ∨ ∃ x ∈ usd atoms, z = .nm x) tw5 (by omega) (by omega) (by omega) fun d n S tw hn => by
    obtain ⟨z, S3, hz, b3, c3, e3⟩ := pick_tr (l := (List.replicate 3 (us.map Tm.nm)).flatten ++ [Tm.vl 1]) h63 tw (by omega) (by simp)
    refine ⟨z, S3, ?_, b3.mono (by omega), c3, ?_⟩
    · rcases List.mem_append.mp hz with q | q
      · obtain ⟨l, hl, hz⟩ := List.mem_flatten.mp q
        rw [List.eq_of_mem_replicate hl] at hz
        obtain ⟨y, hy, rfl⟩ := List.mem_map.mp hz
        exact .inr ⟨y, hus y hy, rfl⟩
      · exact .inl (List.mem_singleton.mp q)
    · have a1 := mul_strs (S := S) us 3 (by omega) (by omega)
      have a1 : mulD (.lst (us.map D.str)) (.int 3) S = some (.lst ((List.replicate 3 (us.map Tm.nm)).flatten.map trD)) := a1
      have a2 := add_one (S := S) (z := .vl 1) hfl
      have a2 : addD (.lst ((List.replicate 3 (us.map Tm.nm)).flatten.map trD)) (.lst [.int 1]) S = some (.lst (((List.replicate 3 (us.map Tm.nm)).flatten ++ [Tm.vl 1]).map trD)) := a2
      generalize (List.replicate 3 (us.map Tm.nm)).flatten = L at a1 a2 e3
      simp [a1, a2, e3, -addD_lst, -mulD_lst, -List.map_append]
  have f56 := f5.trans d6
  have hA6 : S6[S.length]? = some (.lst (atoms.map atD)) := by rw [f56.other (by omega)]; exact hA3
  have l6 : S6.length = S.length + 1 := by rw [f56.len, sl3, l2]
  have hal : atoms.length ≤ 5 := by omega
  obtain ⟨S', ef, tw', d'⟩ := fin_dif (S := S) (S1 := S6) (n := n + 100) (rho := [some (.scr ns), some (.loc t), some (.int many), some (.lst (ws.map wpD)), y4, some (.lst (us.map D.str)), some (.tup (hd.map trD)), some (.lst (nm.map D.str)), some (.loc S.length), y9u, y10u, y11, none, none]) (d := viewD hd atoms) ht (by omega) (tw6.mono (by omega)) (fun i hi hne => by
    rw [f56.other hne, kp3 i hne (by omega), f2.other hne, List.getElem?_append_left (by omega), f1.other hne]) (clo_view _ _ _)
  refine ⟨hd, atoms, S', ?_, ⟨hat, (fun e => by rw [e] at hlen; cases hlen), by omega, by omega, hdp⟩, tw', d'⟩
  show finT S (mView [some (.scr ns), some (.loc t), some (.int many), some (.lst (ws.map wpD)), none, none, none, none, none, none, none, none, none, none] S) = _
  have eb : mView [some (.scr ns), some (.loc t), some (.int many), some (.lst (ws.map wpD)), none, none, none, none, none, none, none, none, none, none] S = .ok (.ret (viewD hd atoms)) [some (.scr ns), some (.loc t), some (.int many), some (.lst (ws.map wpD)), y4, some (.lst (us.map D.str)), some (.tup (hd.map trD)), some (.lst (nm.map D.str)), some (.loc S.length), y9u, y10u, y11, none, none] S6 := by
    unfold mView
    have rg : rng1 [.int (1 + (m : Int))] = some (rng 0 (m + 1)) := by
      rw [rng1_int, show 1 + (m : Int) = ((m + 1 : Nat) : Int) by omega, if_pos ⟨by omega, by omega⟩]
      rfl
    have rg2 : rng1 [.int (kc : Int)] = some (rng 0 kc) := by
      rw [rng1_int, if_pos ⟨by omega, by omega⟩]
      rfl
    have sl : slD (.lst [.str "a", .str "b", .str "c", .str "d"]) none (some (1 + (q : Int))) S1 = some (.lst (nm.map D.str)) := by
      show some (D.lst (cutL (abcd.map D.str) none (some (1 + (q : Int))))) = _
      rw [ecut]
    have sg : seqG (.loc S.length) S3 = some (atoms.map atD, gIs S.length (atoms.map atD)) := by
      unfold seqG
      simp only [hA3]
    have eu' : sLoopG (gIs S.length (atoms.map atD)) (tgT 2 (tgsCons (tgN 10) (tgsCons (tgN 9) tgsNil))) mVwU (atoms.map atD) [some (.scr ns), some (.loc t), some (.int many), some (.lst (ws.map wpD)), y4, some (.lst []), none, some (.lst (nm.map D.str)), some (.loc S.length), y9, y10, y11, none, none] S3 = _ := eu
    simp [e1, sl, l1, e2, rg, ea, sg, eu', e5, rg2, e6, hA6, viewD, -slD_lst, -rng1_int]
  rw [eb]
  exact ef
end
end Dv
namespace Ld
open PySem L2 Dv
def mAskOf : SM := (sRet (mTup (mCons (mBin ixD (mVar 0) (mC (.int 1))) (mCons (mTup mNil) mNil))))
def FAskOf : List D → Store → R D := runT 1 mAskOf
def kZ (xs : List Str) (ts : List D) : List (Key × D) := (xs.map Sum.inr).zip ts
theorem put_fresh {acc : List (Key × D)} {k : Key} {d : D} (h : k ∉ acc.map (·.1)) : putKD acc k d = acc ++ [(k, d)] := by
  unfold putKD
  rw [if_neg]
  intro q
  obtain ⟨kv, hk, e⟩ := List.any_eq_true.mp q
  have e : kv.1 = k := of_decide_eq_true e
  exact h (List.mem_map.mpr ⟨kv, hk, e⟩)
theorem merge_fresh : ∀ (xs : List Str) (ts : List D) (acc : List (Key × D)), ((acc.map fun p : Key × D => p.1) ++ xs.map (Sum.inr : Str → Key)).Nodup → mergeKD acc (kZ xs ts) = acc ++ kZ xs ts
  | [], ts, acc, _ => by simp [kZ, mergeKD]
  | x :: xs, [], acc, _ => by simp [kZ, mergeKD]
  | x :: xs, t :: ts, acc, h => by
    have hx : (Sum.inr x : Key) ∉ acc.map (·.1) := fun hm => (List.nodup_append.mp h).2.2 _ hm _ (by simp) rfl
    show mergeKD (putKD acc (.inr x) t) (kZ xs ts) = acc ++ (Sum.inr x, t) :: kZ xs ts
    rw [put_fresh hx]
    refine (merge_fresh xs ts (acc ++ [(.inr x, t)]) (by rw [List.map_append]; simpa using h)).trans ?_
    rw [List.append_assoc]
    rfl
theorem nodup_inr {xs : List Str} (h : xs.Nodup) : (xs.map (Sum.inr : Str → Key)).Nodup := List.pairwise_map.mpr (h.imp fun hne e => hne (Sum.inr.inj e))
theorem merge_kZ {xs : List Str} {ts : List D} (h : xs.Nodup) : mergeKD [] ((xs.map Sum.inr).zip ts) = kZ xs ts := by
  have := merge_fresh xs ts [] (by simpa using nodup_inr h)
  rw [List.nil_append] at this
  exact this
theorem val_kZ {x : Str} : ∀ {xs : List Str} {ts : List D}, xs.length = ts.length → x ∈ xs → ∃ d ∈ ts, valKD (kZ xs ts) (.inr x) = some d
  | [], _, _, h => by cases h
  | y :: xs, [], hl, _ => by cases hl
  | y :: xs, t :: ts, hl, h => by
    unfold valKD
    show ∃ d ∈ t :: ts, (List.find? _ ((Sum.inr y, t) :: kZ xs ts)).map _ = some d
    rw [List.find?_cons]
    by_cases c : y = x
    · subst c
      exact ⟨t, List.mem_cons_self, by simp⟩
    · have c2 : (Sum.inr y : Key) ≠ Sum.inr x := fun e => c (Sum.inr.inj e)
      rcases List.mem_cons.mp h with e | h
      · exact absurd e.symm c
      · obtain ⟨d, hd, e⟩ := val_kZ (x := x) (xs := xs) (ts := ts) (by simpa using hl) h
        exact ⟨d, List.mem_cons_of_mem _ hd, by simp only [c2, decide_false]; exact e⟩
def fK (xs : List Str) (ts : List D) (x : Str) : D := (valKD (kZ xs ts) (.inr x)).getD .non
section
variable {S : Store} {k : Nat}
theorem dc_kZ {y0 y1 y2 y3 y4 : Option D} {tl : Dv.Env} : ∀ (xs : List Str) (ts : List D) (acc : List (Key × D)), ((acc.map fun p : Key × D => p.1) ++ xs.map (Sum.inr : Str → Key)).Nodup → acc.length + xs.length ≤ 1000 →
    dcL (tgT 2 (tgsCons (tgN 5) (tgsCons (tgN 6) tgsNil))) mYes (mVar 5) (mVar 6) (y0 :: y1 :: y2 :: y3 :: y4 :: none :: none :: tl) (List.zipWith (fun a b => D.tup [a, b]) (xs.map D.str) ts) acc S = .ok (acc ++ kZ xs ts) S
  | [], ts, acc, _, _ => by simp [kZ]; rfl
  | x :: xs, [], acc, _, _ => by simp [kZ]; rfl
  | x :: xs, t :: ts, acc, h, hl => by
    have hx : (Sum.inr x : Key) ∉ acc.map (·.1) := fun hm => (List.nodup_append.mp h).2.2 _ hm _ (by simp) rfl
    rw [List.length_cons] at hl
    have ih := dc_kZ (y0 := y0) (y1 := y1) (y2 := y2) (y3 := y3) (y4 := y4) (tl := tl) xs ts (acc ++ [(.inr x, t)]) (by rw [List.map_append]; simpa using h) (by simp; omega)
    have hl2 : acc.length < 90000 := by omega
    rw [List.map_cons, List.zipWith_cons_cons, dcL_cons]
    simp [hl2, put_fresh hx]
    rw [ih, List.append_assoc]
    rfl
def pt (f : Str → D) : Tm → D
  | .nm x => f x
  | .vl i => .int i
theorem putG_ok {kds : List (Key × D)} {f : Str → D} {ts : List Tm} (h : ∀ x, Tm.nm x ∈ ts → valKD kds (.inr x) = some (f x) ∧ clo S.length (f x) = true) : FLPut [.tup (ts.map trD), .dct kds] S = .ok (.tup (ts.map (pt f))) S := by
  refine fn_ret (show clo _ (.tup _) = true from (cloL_iff _ _).mpr fun d hd => ?_) ⟨[some (.tup (ts.map trD)), some (.dct kds), none], ?_⟩
  · obtain ⟨t, ht, rfl⟩ := List.mem_map.mp hd
    cases t with
    | nm x => exact (h x ht).2
    | vl i => rfl
  show mLPut [some (.tup (ts.map trD)), some (.dct kds), none] S = _
  have lc := lc_all (gm := tgN 2) (te := mIf (mTru (mCall isiD (mCons (mVar 2) (mCons (mC (.ty "str")) mNil)))) (mBin dgetD (mVar 1) (mVar 2)) (mVar 2)) (r0 := [some (.tup (ts.map trD)), some (.dct kds), none]) (S := S) trD (pt f) ts fun t ht => ⟨[some (.tup (ts.map trD)), some (.dct kds), some (trD t)], rfl, by
    have e1 := isi_tr t S
    cases t with
    | nm x =>
      have e1 : isiD [.str x, .ty "str"] S = some (.bl true) := e1
      have q : dgetD (.dct kds) (.str x) S = some (f x) := (h x ht).1
      rw [show trD (.nm x) = .str x from rfl]
      simp [e1, q, pt]
    | vl i =>
      have e1 : isiD [.int i, .ty "str"] S = some (.bl false) := e1
      rw [show trD (.vl i) = .int i from rfl]
      simp [e1, pt]⟩
  unfold mLPut
  simp [lc, -mIf_ap]
def Cs (t : Tm) : Prop := ∃ i : Int, t = .vl i ∧ 0 ≤ i ∧ i < 3
theorem Cs.one {t : Tm} (h : t = .vl 1) : Cs t := ⟨1, h, by decide, by decide⟩
structure Vw (hd : List Tm) (as : List At) : Prop where
  at_ : ∀ a ∈ as, a.w ∈ pqrs ∧ a.ts.length ≤ 3 ∧ ∀ t ∈ a.ts, t.Ok
  len : as.length ≤ 10
  ne : as ≠ []
  hl : hd.length ≤ 4
  hd : ∀ t ∈ hd, Cs t ∨ ∃ x ∈ usd as, t = .nm x
variable {hd hd2 : List Tm} {as as2 : List At}
theorem Vw.tok (v : Vw hd as) : ∀ a ∈ as, ∀ t ∈ a.ts, t.Ok := fun a ha => (v.at_ a ha).2.2
theorem Vw.t3 (v : Vw hd as) : ∀ a ∈ as, a.ts.length ≤ 3 := fun a ha => (v.at_ a ha).2.1
theorem Vw.tml (v : Vw hd as) : (tmsA as).length ≤ 90000 := by
  have : ∀ as : List At, (∀ a ∈ as, a.ts.length ≤ 3) → (tmsA as).length ≤ 3 * as.length := fun as => by
    induction as with
    | nil => exact fun _ => Nat.le_refl _
    | cons a as ih =>
      intro h
      have h1 := ih fun b hb => h b (List.mem_cons_of_mem _ hb)
      have h2 := h a List.mem_cons_self
      show (a.ts ++ tmsA as).length ≤ _
      rw [List.length_append, List.length_cons]
      omega
  have := this as v.t3
  have := v.len
  omega
variable {f : Str → D}
theorem view_ix0 : ixD (viewD hd as) (.int 0) S = some (.tup (hd.map trD)) := by
  show ixD (.tup [.tup (hd.map trD), .tup (as.map atD)]) (.int 0) S = _
  simp [atI_zero]
theorem view_ix1 : ixD (viewD hd as) (.int 1) S = some (.tup (as.map atD)) := by
  have x1 : atI [D.tup (hd.map trD), .tup (as.map atD)] 1 = some (.tup (as.map atD)) := atI_nat (j := 1) rfl
  show ixD (.tup [.tup (hd.map trD), .tup (as.map atD)]) (.int 1) S = _
  simp [x1]
theorem askOf_ok : FAskOf [viewD hd as] S = .ok (askD as []) S := by
  refine fn_ret (clo_ask _ _ _) ⟨[some (viewD hd as)], ?_⟩
  show mAskOf [some (viewD hd as)] S = _
  unfold mAskOf
  simp [view_ix1, askD]
structure Gvn (as : List At) (ts : List D) : Prop where
  len : ts.length = (nms as).length
  pl : ∀ d ∈ ts, pl 0 d = true
theorem pl0_clo {d : D} (h : pl 0 d = true) (m : Nat) : clo m d = true := by
  cases d <;> first | rfl | cases h
variable {ts : List D}
theorem Gvn.val (g : Gvn as ts) {x : Str} (hx : x ∈ usd as) : valKD (kZ (nms as) ts) (.inr x) = some (fK (nms as) ts x) ∧ clo S.length (fK (nms as) ts x) = true ∧ Dv.pl 0 (fK (nms as) ts x) = true ∧ fK (nms as) ts x ∈ ts := by
  obtain ⟨d, hd, e⟩ := val_kZ (xs := nms as) (ts := ts) g.len.symm (mem_nms.mpr hx)
  have ef : fK (nms as) ts x = d := by
    unfold fK
    rw [e]
    rfl
  rw [ef]
  exact ⟨e, pl0_clo (g.pl d hd) _, g.pl d hd, hd⟩
theorem put_hd (v : Vw hd as) (g : Gvn as ts) : FLPut [.tup (hd.map trD), .dct (kZ (nms as) ts)] S = .ok (.tup (hd.map (pt (fK (nms as) ts)))) S := putG_ok fun x hx => by
  rcases v.hd _ hx with ⟨_, e, _⟩ | ⟨y, hy, e⟩
  · cases e
  · cases e
    have := g.val (S := S) hy
    exact ⟨this.1, this.2.1⟩
end
end Ld
namespace Dv
open PySem L2
theorem bt_inj {tb : List Bt} (nd : (tb.map (·.w)).Nodup) : ∀ {x y : Bt}, x ∈ tb → y ∈ tb → x.w = y.w → x = y := by
  induction tb with
  | nil => intro x y hx; cases hx
  | cons z tb ih =>
    intro x y hx hy e
    have nd : (z.w :: tb.map (·.w)).Nodup := nd
    obtain ⟨n1, n2⟩ := List.nodup_cons.mp nd
    rcases List.mem_cons.mp hx with rfl | hx1
    · rcases List.mem_cons.mp hy with rfl | hy1
      · rfl
      · exact absurd (show x.w ∈ tb.map (·.w) from List.mem_map.mpr ⟨y, hy1, e.symm⟩) n1
    · rcases List.mem_cons.mp hy with rfl | hy1
      · exact absurd (show y.w ∈ tb.map (·.w) from List.mem_map.mpr ⟨x, hx1, e⟩) n1
      · exact ih n2 hx1 hy1 e
theorem rowsW_of {tb : List Bt} (nd : (tb.map (·.w)).Nodup) {x : Bt} (hx : x ∈ tb) : rowsW tb x.w = x.rows := by
  obtain ⟨y, rest, f1, f2⟩ := rowsW_some ⟨x, hx, rfl⟩
  have hy : y ∈ tb.filter (fun z => decide (z.w = x.w)) := by rw [f1]; exact List.mem_cons_self
  obtain ⟨h1, h2⟩ := List.mem_filter.mp hy
  rw [f2, bt_inj nd h1 hx (of_decide_eq_true h2)]
section
variable {tb : List Bt} {as : List At} {cs : List Ck}
abbrev du (tb : List Bt) (as : List At) (cs : List Ck) : List (List Int) := due tb as cs (vals tb)
end
section
variable {tb : List Bt} {as : List At} {cs : List Ck}
end
end Dv
namespace Ld
open PySem L2 Dv
structure Vq (tb : List Bt) (hd : List Tm) (as : List At) : Prop where
  bk : BookOk 6 (3 : Nat) tb
  at_ : ∀ a ∈ as, (∃ x ∈ tb, a.w = x.w ∧ a.ts.length = x.n) ∧ ∀ t ∈ a.ts, t.Ok
  len : as.length ≤ 4
  ne : as ≠ []
  hl : hd.length ≤ 2
  hd : ∀ t ∈ hd, t = .vl 1 ∨ ∃ x ∈ usd as, t = .nm x
section
variable {S : Store} {tb : List Bt} {hd : List Tm} {as : List At}
theorem Vq.vw (q : Vq tb hd as) : Vw hd as := ⟨fun a ha => by
  obtain ⟨⟨x, hx, e1, e2⟩, h⟩ := q.at_ a ha
  have := q.bk.tab x hx
  exact ⟨by rw [e1]; exact this.w, by rw [e2]; exact this.hi, h⟩, by have := q.len; omega, q.ne, (by have := q.hl; omega), fun t ht => (q.hd t ht).imp Cs.one id⟩
theorem Vq.tbw (q : Vq tb hd as) : ∀ x ∈ tb, x.w ∈ pqrs := fun x hx => (q.bk.tab x hx).w
theorem Vq.fit (q : Vq tb hd as) : Fit tb as := fun a ha r hr => by
  obtain ⟨⟨x, hx, e1, e2⟩, _⟩ := q.at_ a ha
  rw [e1, rowsW_of q.bk.nd hx] at hr
  rw [e2]
  exact ((q.bk.tab x hx).row r hr).1
theorem Vq.ha (q : Vq tb hd as) : ∀ a ∈ as, (∃ x ∈ tb, x.w = a.w) ∧ (rowsW tb a.w).length ≤ 6 ∧ a.ts.length ≤ 3 := fun a ha => by
  obtain ⟨⟨x, hx, e1, e2⟩, _⟩ := q.at_ a ha
  refine ⟨⟨x, hx, e1.symm⟩, ?_, by rw [e2]; exact (q.bk.tab x hx).hi⟩
  rw [e1, rowsW_of q.bk.nd hx]
  exact (q.bk.tab x hx).len
theorem Vq.tok (q : Vq tb hd as) : ∀ a ∈ as, ∀ t ∈ a.ts, t.Ok := fun a ha => (q.at_ a ha).2
theorem Vq.row (q : Vq tb hd as) : ∀ x ∈ tb, ∀ r ∈ x.rows, r.length ≤ 3 ∧ ∀ v ∈ r, 0 ≤ v ∧ v < (3 : Nat) := fun x hx r hr => by
  have h := q.bk.tab x hx
  obtain ⟨h1, h2⟩ := h.row r hr
  exact ⟨by rw [h1]; exact h.hi, h2⟩
theorem no_ck (as : List At) : ∀ c ∈ ([] : List Ck), CkIn as c := fun c h => by cases h
theorem Vq.due (q : Vq tb hd as) : du tb as [] = srtR (ans tb as [] (nms as)) := due_eq q.fit (no_ck as) (vals_up tb) (mem_vals tb)
theorem Vq.v3 (q : Vq tb hd as) : (vals tb).length ≤ 3 := up_len (far := 3) (vals_up tb) fun v hv => by
  obtain ⟨x, hx, h2⟩ := List.mem_flatMap.mp ((mem_vals tb v).mp hv)
  obtain ⟨r, h3, h4⟩ := List.mem_flatten.mp h2
  exact (q.row x hx r h3).2 v h4
theorem Vq.dl (q : Vq tb hd as) : (du tb as []).length ≤ 81 := due_len q.v3 (nms_len q.tok)
theorem Vq.ded (q : Vq tb hd as) : (dedL (ans tb as [] (nms as))).length ≤ 290 := by
  have h := nodup_sub (m := du tb as []) (nodup_dedL (ans tb as [] (nms as))) fun x hx => by
    rw [mem_due (no_ck as) (mem_vals tb), ← mem_ans q.fit (no_ck as) fun x hx => mem_nms.mp hx]
    exact (mem_dedL x _).mp hx
  have := q.dl
  omega
theorem Vq.ans (q : Vq tb hd as) : FAnswers [.tup (tb.map tabD), askD as []] S = .ok (.tup ((du tb as []).map rowD)) S := by
  rw [q.due]
  exact answersG_ok (k := 6) (by omega) q.tbw q.ha q.tok (by have := q.len; omega) (Nat.le_trans (Nat.pow_le_pow_right (by omega) q.len) (by decide)) q.fit (no_ck as) (fun c h => by cases h) q.ded
theorem Vq.lans (q : Vq tb hd as) : FLAns [.tup (tb.map tabD), askD as []] S = .ok (.lst ((du tb as []).map rowD)) S := lans_ok q.bk.nd (by have := q.bk.len; omega) q.row (fun a h => ⟨(q.ha a h).1, (q.ha a h).2.2⟩) q.tok (by have := q.len; omega) (no_ck as) (fun c h => by cases h)
theorem Vq.rlen (q : Vq tb hd as) : ∀ r ∈ du tb as [], r.length = (nms as).length := fun r hr => by
  have h := (List.mem_filter.mp hr).1
  exact (mem_vex.mp h).1
def iv : D → Int
  | .int i => i
  | _ => 0
def hv (hd : List Tm) (as : List At) (r : List Int) : List Int := hd.map fun t => iv (pt (fK (nms as) (r.map D.int)) t)
theorem gvn {r : List Int} (hr : r.length = (nms as).length) : Gvn as (r.map D.int) := ⟨by rw [List.length_map]; exact hr, fun d hd => by
  obtain ⟨i, _, rfl⟩ := List.mem_map.mp hd
  rfl⟩
theorem hv_row (v : Vw hd as) {r : List Int} (hr : r.length = (nms as).length) : D.tup (hd.map (pt (fK (nms as) (r.map D.int)))) = rowD (hv hd as r) := by
  unfold rowD hv
  rw [List.map_map]
  congr 1
  refine List.map_congr_left fun t ht => ?_
  cases t with
  | vl i => rfl
  | nm x =>
    rcases v.hd _ ht with ⟨_, e, _⟩ | ⟨y, hy, e⟩
    · cases e
    · cases e
      obtain ⟨i, _, e⟩ := List.mem_map.mp ((gvn hr).val (S := []) hy).2.2.2
      show fK (nms as) (r.map D.int) x = D.int (iv (fK (nms as) (r.map D.int) x))
      rw [← e]
      rfl
theorem put_row (v : Vw hd as) {r : List Int} (hr : r.length = (nms as).length) : FLPut [.tup (hd.map trD), .dct (kZ (nms as) (r.map D.int))] S = .ok (rowD (hv hd as r)) S := by
  rw [← hv_row v hr]
  exact put_hd v (gvn hr)
theorem rowK_inl : ∀ r : List Int, rowK (r.map Sum.inl) = some r
  | [] => rfl
  | i :: r => by
    show (rowK (r.map Sum.inl)).map (i :: ·) = _
    rw [rowK_inl r]
    rfl
theorem keysL_ints : ∀ r : List Int, keysL (r.map D.int) = some (r.map Sum.inl)
  | [] => rfl
  | i :: r => by
    have ih := keysL_ints r
    rw [List.map_cons]
    unfold keysL
    rw [ih]
    rfl
theorem inl_inj {a b : List Int} (h : a.map (Sum.inl : Int → Key) = b.map Sum.inl) : a = b := (List.map_inj_right fun _ _ h => Sum.inl.inj h).mp h
theorem zip_row (r : List Int) : zipD [.tup ((nms as).map D.str), rowD r] = some (List.zipWith (fun a b => D.tup [a, b]) ((nms as).map D.str) (r.map D.int)) := rfl
end
end Ld
namespace Ld
open PySem L2 Dv
section
variable {S : Store} {tb : List Bt} {hd : List Tm} {as : List At}
theorem fK_map {xs : List Str} {f : Str → Int} {x : Str} (nd : xs.Nodup) (h : x ∈ xs) : fK xs (xs.map fun y => D.int (f y)) x = .int (f x) := by
  induction xs with
  | nil => cases h
  | cons y xs ih =>
    unfold fK valKD
    show ((List.find? _ ((Sum.inr y, D.int (f y)) :: kZ xs (xs.map fun y => D.int (f y)))).map _).getD _ = _
    rw [List.find?_cons]
    by_cases c : y = x
    · subst c; simp
    · have c2 : (Sum.inr y : Key) ≠ Sum.inr x := fun e => c (Sum.inr.inj e)
      rcases List.mem_cons.mp h with e | h
      · exact absurd e.symm c
      · simp only [c2, decide_false]
        exact ih (List.nodup_cons.mp nd).2 h
theorem hv_map (v : Vw hd as) (f : Str → Int) : hv hd as ((nms as).map f) = hd.map (ev f) := by
  unfold hv
  refine List.map_congr_left fun t ht => ?_
  cases t with
  | vl i => rfl
  | nm x =>
    have hx : x ∈ nms as := by
      rcases v.hd _ ht with ⟨_, e, _⟩ | ⟨y, hy, e⟩
      · cases e
      · cases e; exact mem_nms.mpr hy
    show iv (fK (nms as) (((nms as).map f).map D.int) x) = f x
    rw [List.map_map]
    show iv (fK (nms as) ((nms as).map fun y => D.int (f y)) x) = f x
    rw [fK_map (nodup_nms as) hx]
    rfl
end
end Ld
namespace Ky
open PySem L2 Dv
section
variable {S : Store}
end
end Ky
namespace Ky
open PySem L2 Dv
section
variable {S : Store} {ns : List Int} {n t : Nat}
end
end Ky
namespace Ky
open PySem L2 Dv
noncomputable instance : DecidableEq Tm := fun a b => Classical.propDecidable (a = b)
noncomputable instance : DecidableEq At := fun a b => Classical.propDecidable (a = b)
section
variable {S : Store}
end
section
variable {S : Store}
end
end Ky
namespace Lg
open PySem L2 Dv
end Lg
namespace Lg
open PySem L2 Dv
section
variable {W S : Store} {r : Dv.Env}
end
end Lg
namespace Lg
open PySem L2 Dv Ky
section
variable {W : Store}
end
end Lg
namespace Lg
open PySem L2 Dv Ky
section
variable {W S : Store}
end
end Lg
namespace Lg
open PySem L2 Dv Ky
section
variable {S : Store} {hd hd2 : List Tm} {as as2 : List At}
end
end Lg
namespace Lg
open PySem L2 Dv Ky
section
variable {S : Store} {hd hd2 : List Tm} {as as2 : List At}
end
end Lg
namespace Lg
open PySem L2 Dv Ky
end Lg
namespace Lg
open PySem L2 Dv Ky
section
variable {S : Store} {hd : List Tm} {as : List At}
end
end Lg
namespace Lg
open PySem L2 Dv Ky
section
variable {hd hd2 hd3 : List Tm} {as bs cs : List At} {f g : Str → Tm}
end
end Lg
namespace Lg
open PySem L2 Dv Ky
section
variable {S : Store} {ns : List Int} {n t : Nat}
end
section
variable {S : Store} {tb : List Bt} {hd : List Tm} {as : List At}
end
end Lg
namespace Bk
open PySem L2 Dv
section
variable {S : Store} {d : D} {k : Nat}
end
end Bk
namespace Bk
open PySem L2 Dv
section
variable {S : Store} {d : D} {k : Nat}
end
end Bk
namespace Lg
open PySem L2 Dv Ky
section
variable {wd : Str → Nat} {f : Str → Int} {ws : List Str} {as as2 : List At} {hd hd2 : List Tm}
end
end Lg
namespace Jt
open PySem L2 Dv
section
variable {V : List Int} {xs ys : List Str} {F G : (Str → Int) → Nat} {f : Str → Int}
end
end Jt
namespace Jt
open PySem L2 Dv
section
variable {V : List Int} {N : Nat → List Str} {L L' : List Nat} {P : List (Nat × Nat)} {e p : Nat}
end
end Jt
namespace Mw
open PySem L2 Dv
section
variable {tb : List Bt} {as : List At} {cs : List Ck} {pre : List Str} {x : Str}
end
end Mw
namespace Dv
open PySem L2
section
variable {S : Store} {d : D} {k : Nat}
end
end Dv
namespace Mw
open PySem L2 Dv
section
variable {most many : Nat} {tb : List Bt} {as : List At} {cs : List Ck} {S : Store}
end
end Mw
namespace Mw
open PySem L2 Dv
section
variable {most many : Nat} {tb : List Bt} {as : List At} {cs : List Ck} {S : Store}
end
end Mw
namespace Mw
open PySem L2 Dv
section
variable {most many : Nat} {tb : List Bt} {as : List At} {cs : List Ck} {S : Store} {fu : Nat}
end
end Mw
namespace Mw
open PySem L2 Dv
section
variable {most many : Nat} {tb : List Bt} {as : List At} {cs : List Ck} {S : Store} {fu : Nat}
end
end Mw
namespace Mw
open PySem L2 Dv
section
variable {most many : Nat} {tb : List Bt} {as : List At} {cs : List Ck} {S : Store} {fu : Nat}
end
end Mw
namespace Jt
open PySem L2 Dv Mw
section
variable {most many : Nat} {tb : List Bt} {as : List At} {cs : List Ck} {ch : Nat → List Nat} {P : List (Nat × Nat)} {root : Nat}
end
end Jt
namespace Jt
open PySem L2 Dv Mw
section
variable {most many : Nat} {tb : List Bt} {as : List At} {cs : List Ck} {S : Store} {left : List Nat}
end
end Jt
namespace Jt
open PySem L2 Dv Mw
section
variable {most many : Nat} {tb : List Bt} {as : List At} {cs : List Ck} {S : Store} {left : List Nat} {P : List (Nat × Nat)}
end
end Jt
namespace Jt
open PySem L2 Dv Mw
section
variable {most many : Nat} {tb : List Bt} {as : List At} {cs : List Ck} {S : Store} {left L L' : List Nat} {P : List (Nat × Nat)} {N : Nat → List Str}
end
end Jt
namespace Jt
open PySem L2 Dv Mw
section
variable {V : List Int} {N : Nat → List Str} {L L' : List Nat} {P : List (Nat × Nat)}
end
section
variable {g : List Int → Nat} {rows : List (List Int)} {r : List Int}
end
end Jt
namespace Mw
open PySem L2 Dv
section
variable {most many fu : Nat} {tb : List Bt} {as : List At} {cs : List Ck} {S : Store} {ord : List Str} {d : D}
end
end Mw
namespace Jt
open PySem L2 Dv Mw
section
variable {most many : Nat} {tb : List Bt} {as : List At} {cs : List Ck} {S T : Store} {bk tr ai : D} {y4 y7 y8 y9 y10 y11 y12 y13 y14 : Option D} {nm : D} {fl : Nat} {c i : Nat}
end
end Jt
namespace Jt
open PySem L2 Dv Mw
section
variable {most many : Nat} {tb : List Bt} {as : List At} {cs : List Ck} {S G : Store} {bk tr ai ak : D} {y4 y7 y8 y9 y10 y11 y12 y13 y14 : Option D} {nm : D} {fl : Nat} {c i M : Nat}
end
end Jt
namespace Jt
open PySem L2 Dv Mw
section
variable {most many : Nat} {tb : List Bt} {as : List At} {cs : List Ck} {S : Store} {P : List (Nat × Nat)} {root i k : Nat} {L L' : List Nat} {N : Nat → List Str}
end
end Jt
namespace Jt
open PySem L2 Dv Mw
section
variable {most many fu k : Nat} {tb : List Bt} {as : List At} {cs : List Ck} {S : Store} {P : List (Nat × Nat)} {root i : Nat} {L L' : List Nat} {N : Nat → List Str}
end
end Jt
namespace Jt
open PySem L2 Dv Mw
section
variable {most many fu k : Nat} {tb : List Bt} {as : List At} {cs : List Ck} {S : Store} {L i : Nat} {bk : D} {y6 y7 y8 y9 : Option D}
end
end Jt
namespace Fv
open PySem L2 Dv
section
variable {tb : List Bt} {as : List At} {S : Store} {many : Nat}
end
end Fv
namespace Fv
open PySem L2 Dv
def mPr : SM := (sSeq (sSet 1 (mC (.int 1))) (sSeq (sFor (mIter (mVar 0)) (tgN 2) (sSet 1 (mBin mulD (mVar 1) (mVar 2)))) (sRet (mVar 1))))
def FPr : List D → Store → R D := runT 3 mPr
section
variable {tb : List Bt} {as : List At} {S : Store}
theorem kZ_gK (xs : List Str) (f : Str → Int) : Ld.kZ xs ((xs.map f).map D.int) = gK (xs.map fun x => (x, f x)) := by
  unfold Ld.kZ gK
  induction xs with
  | nil => rfl
  | cons x xs ih =>
    simp only [List.map_cons, List.zip_cons_cons]
    rw [ih]
theorem gLk_map (f : Str → Int) {x : Str} : ∀ {xs : List Str}, x ∈ xs → gLk (xs.map fun x => (x, f x)) x = some (f x)
  | [], h => nomatch h
  | y :: xs, h => by
    show (if y = x then some (f y) else gLk (xs.map fun x => (x, f x)) x) = _
    by_cases e : y = x
    · rw [if_pos e, e]
    · rw [if_neg e]
      rcases List.mem_cons.mp h with h | h
      · exact absurd h.symm e
      · exact gLk_map f h
theorem evo_map (f : Str → Int) {t : Tm} (h : ∀ x, t = .nm x → x ∈ nms as) : evo ((nms as).map fun x => (x, f x)) t = some (ev f t) := by
  cases t with
  | nm x => exact gLk_map f (h x rfl)
  | vl i => rfl
abbrev AE (y0 y1 y2 y3 y4 y5 y6 y7 y8 y9 y10 : Option D) : Dv.Env := [y0, y1, y2, y3, y4, y5, y6, y7, y8, y9, y10]
end
end Fv
namespace Fv
open PySem L2 Dv
section
variable {tb : List Bt} {as : List At} {S : Store}
theorem dc_kZ2 {y0 y1 y2 y3 y4 y5 y6 y7 y8 y9 y10 : Option D} : ∀ (xs : List Str) (ts : List D) (acc : List (Key × D)), ((acc.map fun p : Key × D => p.1) ++ xs.map (Sum.inr : Str → Key)).Nodup → acc.length + xs.length ≤ 1000 →
    dcL (tgT 2 (tgsCons (tgN 11) (tgsCons (tgN 12) tgsNil))) mYes (mVar 11) (mVar 12) [y0, y1, y2, y3, y4, y5, y6, y7, y8, y9, y10, none, none] (List.zipWith (fun a b => D.tup [a, b]) (xs.map D.str) ts) acc S = .ok (acc ++ Ld.kZ xs ts) S
  | [], ts, acc, _, _ => by simp [Ld.kZ]; rfl
  | x :: xs, [], acc, _, _ => by simp [Ld.kZ]; rfl
  | x :: xs, t :: ts, acc, h, hl => by
    have hx : (Sum.inr x : Key) ∉ acc.map (·.1) := fun hm => (List.nodup_append.mp h).2.2 _ hm _ (by simp) rfl
    rw [List.length_cons] at hl
    have ih := dc_kZ2 (y0 := y0) (y1 := y1) (y2 := y2) (y3 := y3) (y4 := y4) (y5 := y5) (y6 := y6) (y7 := y7) (y8 := y8) (y9 := y9) (y10 := y10) xs ts (acc ++ [(.inr x, t)]) (by rw [List.map_append]; simpa using h) (by simp; omega)
    have hl2 : acc.length < 90000 := by omega
    rw [List.map_cons, List.zipWith_cons_cons, dcL_cons]
    simp [hl2, Ld.put_fresh hx]
    rw [ih, List.append_assoc]
    rfl
theorem fzL_all {g : D → Option D} : ∀ {ds : List D}, (∀ d ∈ ds, g d = some d) → fzL g ds = some ds
  | [], _ => rfl
  | d :: ds, h => by
    unfold fzL
    rw [h d (List.mem_cons_self ..), fzL_all fun x hx => h x (List.mem_cons_of_mem _ hx)]
end
end Fv
namespace Aw
open PySem L2 Dv Fv
def mAm (w : World) : SM := (sSeq (sSet 3 (mDc false (mZip (mCons (mApp 1 FNamesOf (mCons (mApp 1 Ld.FAskOf (mCons (mVar 0) mNil)) mNil)) (mCons (mVar 1) mNil))) [5, 6] (tgT 2 (tgsCons (tgN 5) (tgsCons (tgN 6) tgsNil))) mYes (mVar 5) (mVar 6)))
    (sSeq (sSet 4 (mLc (mIter (mBin ixD (mVar 0) (mC (.int 1)))) [7, 8] (tgT 2 (tgsCons (tgN 7) (tgsCons (tgN 8) tgsNil))) mYes (mTup (mCons (mVar 7) (mCons (mCall tupD (mCons (mLc (mIter (mVar 8)) [10] (tgN 10) mYes (mApp 2 FValueOf (mCons (mVar 10) (mCons (mVar 3) mNil)))) mNil)) mNil)))))
    (sRet (mLc (mIter (mVar 4)) [9] (tgN 9) mYes (mGetPr w (mVar 2) (mVar 9) (mC (.int 1)))))))
def FAm (w : World) : List D → Store → R D := runT 11 (mAm w)
def valT (T : List (Pr × Int)) (k : Pr) : Option Int := (T.find? fun kv => decide (kv.1 = k)).map (·.2)
def putT (T : List (Pr × Int)) (k : Pr) (d : Int) : List (Pr × Int) :=
  if (T.any fun kv => decide (kv.1 = k)) = true then T.map fun kv => if kv.1 = k then (kv.1, d) else kv else T ++ [(k, d)]
def tbD (T : List (Pr × Int)) : List (Pr × D) := T.map fun p => (p.1, .int p.2)
def lkT (T : List (Pr × Int)) (k : Pr) : Int := (valT T k).getD 1
def amF (T : List (Pr × Int)) (as : List At) (f : Str → Int) : List Int := as.map fun a => lkT T (a.w, a.ts.map (ev f))
def tblA (am : List (Pr × Int)) : List (Pr × Int) := am.foldl (fun T a => putT T a.1 a.2) []
theorem val_tb (T : List (Pr × Int)) (k : Pr) : (valPD (tbD T) k).getD (.int 1) = .int (lkT T k) := by
  unfold lkT valPD valT tbD
  induction T with
  | nil => rfl
  | cons p T ih =>
    rw [List.map_cons, List.find?_cons, List.find?_cons]
    by_cases e : p.1 = k
    · rw [decide_eq_true e]
      rfl
    · rw [decide_eq_false e]
      exact ih
theorem put_tb (T : List (Pr × Int)) (k : Pr) (d : Int) : putPD (tbD T) k (.int d) = tbD (putT T k d) := by
  unfold putPD putT
  have e1 : ((tbD T).any fun kv => decide (kv.1 = k)) = T.any fun kv => decide (kv.1 = k) := by
    unfold tbD
    rw [List.any_map]
    rfl
  rw [e1]
  split
  · unfold tbD
    rw [List.map_map, List.map_map]
    refine List.map_congr_left fun p _ => ?_
    show (if p.1 = k then (p.1, D.int d) else (p.1, D.int p.2)) = ((if p.1 = k then (p.1, d) else p).1, D.int (if p.1 = k then (p.1, d) else p).2)
    split <;> rfl
  · unfold tbD
    rw [List.map_append]
    rfl
theorem putT_len (T : List (Pr × Int)) (k : Pr) (d : Int) : (putT T k d).length ≤ T.length + 1 := by
  unfold putT
  split
  · rw [List.length_map]
    omega
  · rw [List.length_append, List.length_singleton]
    exact Nat.le_refl _
theorem tbD_len (T : List (Pr × Int)) : (tbD T).length = T.length := List.length_map ..
theorem prOf_pair (p : Pr) : prOf (pairD p) = some p := by
  obtain ⟨x, r⟩ := p
  show (intsOf (r.map D.int)).map (fun r => (x, r)) = _
  rw [intsOf_map]
  rfl
theorem getPr_ok {w : World} {o y : D} {i j : Nat} {r : Dv.Env} {S : Store} {kds : List (Pr × D)} {k : Pr} {v : D} {d : D} (ho : r[i]? = some (some o)) (hy : r[j]? = some (some y)) (h1 : dprAt w o S = some kds) (h2 : prOf y = some k) (h3 : (valPD kds k).getD d = v) : mGetPr w (mVar i) (mVar j) (mC d) r S = .ok v S := by
  unfold mGetPr
  simp only [mVar_ap, ho, rb_ok, h1, Option.isSome_some, if_true, hy, mC_ap, h2, h3]
section
variable {tb : List Bt} {as : List At} {S : Store} {w : World}
theorem cloL_ints (m : Nat) (ns : List Int) : cloL m (ns.map D.int) = true := (cloL_iff m _).mpr fun d hd => by
  obtain ⟨i, _, rfl⟩ := List.mem_map.mp hd
  rfl
theorem am_ok {hd : List Tm} (v : Ld.Vw hd as) (f : Str → Int) (T : List (Pr × Int)) : FAm w [viewD hd as, rowD ((nms as).map f), .dpr w (tbD T)] S = .ok (.lst ((amF T as f).map D.int)) S := by
  have nl := nms_len v.tok
  have dc := Ld.dc_kZ (S := S) (y0 := some (viewD hd as)) (y1 := some (rowD ((nms as).map f))) (y2 := some (.dpr w (tbD T))) (y3 := none) (y4 := none) (tl := [none, none, none, none]) (nms as) (((nms as).map f).map D.int) [] (by simpa using Ld.nodup_inr (nodup_nms as)) (by simp; omega)
  rw [List.nil_append, kZ_gK] at dc
  have nm : FNamesOf [askD as []] S = .ok (.tup ((nms as).map D.str)) S := namesOf_ok v.tok v.tml
  have ak := Ld.askOf_ok (S := S) (hd := hd) (as := as)
  have zz := Ld.zip_row (as := as) ((nms as).map f)
  have s1 : (sSet 3 (mDc false (mZip (mCons (mApp 1 FNamesOf (mCons (mApp 1 Ld.FAskOf (mCons (mVar 0) mNil)) mNil)) (mCons (mVar 1) mNil))) [5, 6] (tgT 2 (tgsCons (tgN 5) (tgsCons (tgN 6) tgsNil))) mYes (mVar 5) (mVar 6))) (AE (some (viewD hd as)) (some (rowD ((nms as).map f))) (some (.dpr w (tbD T))) none none none none none none none none) S = .ok .next (AE (some (viewD hd as)) (some (rowD ((nms as).map f))) (some (.dpr w (tbD T))) (some (.dct (gK ((nms as).map fun x => (x, f x))))) none none none none none none none) S := by
    unfold AE
    generalize List.zipWith (fun a b => D.tup [a, b]) ((nms as).map D.str) (((nms as).map f).map D.int) = Z at zz dc
    generalize gK ((nms as).map fun x => (x, f x)) = G at dc ⊢
    generalize rowD ((nms as).map f) = R at zz dc ⊢
    generalize viewD hd as = V at ak dc ⊢
    simp [ak, nm, zz, dc]
  have lc : ∀ a ∈ as, ∀ y7, lcL (tgN 10) mYes (mApp 2 FValueOf (mCons (mVar 10) (mCons (mVar 3) mNil))) (AE (some (viewD hd as)) (some (rowD ((nms as).map f))) (some (.dpr w (tbD T))) (some (.dct (gK ((nms as).map fun x => (x, f x))))) none none none y7 (some (.tup (a.ts.map trD))) none none) (a.ts.map trD) S = .ok ((a.ts.map (ev f)).map D.int) S := fun a ha y7 => by
    rw [List.map_map]
    exact lc_all (gm := tgN 10) (te := mApp 2 FValueOf (mCons (mVar 10) (mCons (mVar 3) mNil))) (r0 := AE (some (viewD hd as)) (some (rowD ((nms as).map f))) (some (.dpr w (tbD T))) (some (.dct (gK ((nms as).map fun x => (x, f x))))) none none none y7 (some (.tup (a.ts.map trD))) none none) (S := S) trD (fun t => .int (ev f t)) a.ts fun t ht => ⟨AE (some (viewD hd as)) (some (rowD ((nms as).map f))) (some (.dpr w (tbD T))) (some (.dct (gK ((nms as).map fun x => (x, f x))))) none none none y7 (some (.tup (a.ts.map trD))) none (some (trD t)), rfl, by
      have e := valueOf_ok (S := S) (evo_map (as := as) f (t := t) fun x hx => mem_nms.mpr (mem_usd.mpr ⟨a, ha, by rw [← hx]; exact ht⟩))
      generalize gK ((nms as).map fun x => (x, f x)) = G at e ⊢
      simp [e]⟩
  have la := lc_all (gm := tgT 2 (tgsCons (tgN 7) (tgsCons (tgN 8) tgsNil))) (te := mTup (mCons (mVar 7) (mCons (mCall tupD (mCons (mLc (mIter (mVar 8)) [10] (tgN 10) mYes (mApp 2 FValueOf (mCons (mVar 10) (mCons (mVar 3) mNil)))) mNil)) mNil))) (r0 := AE (some (viewD hd as)) (some (rowD ((nms as).map f))) (some (.dpr w (tbD T))) (some (.dct (gK ((nms as).map fun x => (x, f x))))) none none none none none none none) (S := S) atD (fun a => pairD (a.w, a.ts.map (ev f))) as fun a ha => ⟨AE (some (viewD hd as)) (some (rowD ((nms as).map f))) (some (.dpr w (tbD T))) (some (.dct (gK ((nms as).map fun x => (x, f x))))) none none none (some (.str a.w)) (some (.tup (a.ts.map trD))) none none, rfl, by
    have l := lc a ha (some (.str a.w))
    have tp : tupD [.lst ((a.ts.map (ev f)).map D.int)] S = some (.tup ((a.ts.map (ev f)).map D.int)) := rfl
    show _ = R.ok (D.tup [.str a.w, .tup ((a.ts.map (ev f)).map D.int)]) S
    unfold AE at l ⊢
    generalize (a.ts.map (ev f)).map D.int = W at l tp ⊢
    generalize a.ts.map trD = W2 at l ⊢
    generalize gK ((nms as).map fun x => (x, f x)) = G at l ⊢
    generalize rowD ((nms as).map f) = R at l ⊢
    simp [l, tp, -tupD_lst]⟩
  have v1 := Ld.view_ix1 (S := S) (hd := hd) (as := as)
  have s2 : (sSet 4 (mLc (mIter (mBin ixD (mVar 0) (mC (.int 1)))) [7, 8] (tgT 2 (tgsCons (tgN 7) (tgsCons (tgN 8) tgsNil))) mYes (mTup (mCons (mVar 7) (mCons (mCall tupD (mCons (mLc (mIter (mVar 8)) [10] (tgN 10) mYes (mApp 2 FValueOf (mCons (mVar 10) (mCons (mVar 3) mNil)))) mNil)) mNil))))) (AE (some (viewD hd as)) (some (rowD ((nms as).map f))) (some (.dpr w (tbD T))) (some (.dct (gK ((nms as).map fun x => (x, f x))))) none none none none none none none) S = .ok .next (AE (some (viewD hd as)) (some (rowD ((nms as).map f))) (some (.dpr w (tbD T))) (some (.dct (gK ((nms as).map fun x => (x, f x))))) (some (.lst (as.map fun a => pairD (a.w, a.ts.map (ev f))))) none none none none none none) S := by
    unfold AE at la ⊢
    generalize (as.map fun a => pairD (a.w, a.ts.map (ev f))) = W at la ⊢
    generalize as.map atD = W2 at la v1
    generalize gK ((nms as).map fun x => (x, f x)) = G at la ⊢
    generalize rowD ((nms as).map f) = R at la ⊢
    generalize viewD hd as = V at la v1 ⊢
    simp [v1, la]
  have lg := lc_all (gm := tgN 9) (te := mGetPr w (mVar 2) (mVar 9) (mC (.int 1))) (r0 := AE (some (viewD hd as)) (some (rowD ((nms as).map f))) (some (.dpr w (tbD T))) (some (.dct (gK ((nms as).map fun x => (x, f x))))) (some (.lst (as.map fun a => pairD (a.w, a.ts.map (ev f))))) none none none none none none) (S := S) (fun a : At => pairD (a.w, a.ts.map (ev f))) (fun a => D.int (lkT T (a.w, a.ts.map (ev f)))) as fun a ha => ⟨AE (some (viewD hd as)) (some (rowD ((nms as).map f))) (some (.dpr w (tbD T))) (some (.dct (gK ((nms as).map fun x => (x, f x))))) (some (.lst (as.map fun a => pairD (a.w, a.ts.map (ev f))))) none none none none (some (pairD (a.w, a.ts.map (ev f)))) none, rfl, by
    have hp := prOf_pair (a.w, a.ts.map (ev f))
    have hl := val_tb T (a.w, a.ts.map (ev f))
    have hd2 := dprAt_dpr w (tbD T) S
    unfold AE
    generalize pairD (a.w, a.ts.map (ev f)) = P at hp ⊢
    generalize tbD T = TT at hl hd2 ⊢
    exact getPr_ok rfl rfl hd2 hp hl⟩
  have hfr : frame 11 [viewD hd as, rowD ((nms as).map f), .dpr w (tbD T)] = AE (some (viewD hd as)) (some (rowD ((nms as).map f))) (some (.dpr w (tbD T))) none none none none none none none none := rfl
  refine fn_ret (show clo _ (.lst _) = true from cloL_ints _ _) ?_
  rw [hfr]
  unfold mAm
  rw [seq_ok s1, seq_ok s2]
  rw [show (as.map fun a => D.int (lkT T (a.w, a.ts.map (ev f)))) = (amF T as f).map D.int from by unfold amF; rw [List.map_map]; rfl] at lg
  unfold AE at lg ⊢
  generalize (amF T as f).map D.int = O at lg ⊢
  generalize (as.map fun a => pairD (a.w, a.ts.map (ev f))) = W at lg ⊢
  generalize gK ((nms as).map fun x => (x, f x)) = G at lg ⊢
  generalize rowD ((nms as).map f) = R at lg ⊢
  generalize viewD hd as = V at lg ⊢
  exact ⟨_, by simp [lg]; rfl⟩
end
end Aw
namespace Sx
open PySem L2 Dv
section
variable {S S' S1 S2 : Store} {r : Dv.Env} {v w d : D} {m m' : EM} {ms : AM} {ds zs : List D} {i j k n : Nat} {F : List D → Store → R D}
theorem set_of {m : EM} (e : m r S = .ok v S') : sSet j m r S = .ok .next (r.set j (some v)) S' := by
  rw [sSet_ap, e]
  rfl
theorem drop_of {m : EM} (e : m r S = .ok v S') : sDrop m r S = .ok .next r S' := by
  rw [sDrop_ap, e]
  rfl
theorem run_app (ea : ms r S = .ok ds S1) (hl : ds.length = n) (e : F ds S1 = .ok v S') : mApp n F ms r S = .ok v S' := by
  rw [mApp_ap, ea]
  show (if ds.length = n then F ds S1 else .bad) = _
  rw [if_pos hl, e]
theorem if_no {t : BM} {a b : SM} (e : t r S = .ok false S') : sIf t a b r S = b r S' := by
  rw [sIf_ap, e]
  rfl
theorem if_yes {t : BM} {a b : SM} (e : t r S = .ok true S') : sIf t a b r S = a r S' := by
  rw [sIf_ap, e]
  rfl
theorem not_of {t : BM} {b : Bool} (e : t r S = .ok b S') : mNotT t r S = .ok (!b) S' := by
  rw [mNotT_ap, e]
  rfl
theorem tru_of {m : EM} {b : Bool} (e : m r S = .ok v S') (q : truD v S' = some b) : mTru m r S = .ok b S' := by
  rw [mTru_ap, e]
  show ofO (truD v S') S' = _
  rw [q]
  rfl
theorem cons_of {m : EM} {S2 : Store} (e : m r S = .ok v S') (e' : ms r S' = .ok ds S2) : mCons m ms r S = .ok (v :: ds) S2 := by
  rw [mCons_ap, e]
  show (ms r S').bind _ = _
  rw [e']
  rfl
theorem bin_of {f : D → D → Store → Option D} {a b : EM} {x y z : D} {S2 : Store} (e : a r S = .ok x S') (e' : b r S' = .ok y S2) (q : f x y S2 = some z) : mBin f a b r S = .ok z S2 := by
  rw [mBin_ap, e]
  show (b r S').bind _ = _
  rw [e']
  show ofO (f x y S2) S2 = _
  rw [q]
  rfl
theorem t_of {m : EM} {b : Bool} (e : m r S = .ok (.bl b) S') : mT m r S = .ok b S' := by
  rw [mT_ap, e]
  rfl
theorem call_of {f : List D → Store → Option D} (ea : ms r S = .ok ds S') (q : f ds S' = some v) : mCall f ms r S = .ok v S' := by
  rw [mCall_ap, ea]
  show ofO (f ds S') S' = _
  rw [q]
  rfl
theorem ret_of (e : m r S = .ok v S') : sRet m r S = .ok (.ret v) r S' := by
  rw [sRet_ap, e]
  rfl
theorem iter_of (e : m r S = .ok d S') (q : seqD d = some ds) : mIter m r S = .ok ds S' := by
  rw [mIter_ap, e]
  show ofO (seqD d) S' = _
  rw [q]
  rfl
theorem lc_of {im : IM} {vs : List Nat} {gm : D → Dv.Env → Option Dv.Env} {tt : BM} {te : EM} (e : im r S = .ok ds S1) (q : lcL gm tt te (wipeE r vs) ds S1 = .ok zs S2) : mLc im vs gm tt te r S = .ok (.lst zs) S2 := by
  rw [mLc_ap, e]
  show (lcL gm tt te (wipeE r vs) ds S1).bind _ = _
  rw [q]
  rfl
theorem for_of {im : IM} {gm : D → Dv.Env → Option Dv.Env} {b : SM} (e : im r S = .ok ds S1) : sFor im gm b r S = sLoop gm b ds r S1 := by
  rw [sFor_ap, e]
  rfl
theorem or_t {t t' : BM} (e : t r S = .ok true S') : mOrT t t' r S = .ok true S' := by
  rw [mOrT_ap, e]
  rfl
theorem or_f {t t' : BM} {b : Bool} (e : t r S = .ok false S') (e' : t' r S' = .ok b S2) : mOrT t t' r S = .ok b S2 := by
  rw [mOrT_ap, e]
  show (if false = true then R.ok true S' else t' r S') = _
  rw [if_neg Bool.false_ne_true, e']
theorem ife_t {t : BM} (e : t r S = .ok true S') (e' : m r S' = .ok v S2) : mIf t m m' r S = .ok v S2 := by
  rw [mIf_ap, e]
  show (if true = true then m r S' else m' r S') = _
  rw [if_pos rfl, e']
theorem ife_f {t : BM} (e : t r S = .ok false S') (e' : m' r S' = .ok v S2) : mIf t m m' r S = .ok v S2 := by
  rw [mIf_ap, e]
  show (if false = true then m r S' else m' r S') = _
  rw [if_neg Bool.false_ne_true, e']
theorem tup_of {ms : AM} (e : ms r S = .ok ds S') (hl : ds.length ≤ 100000) : mTup ms r S = .ok (.tup ds) S' := by
  rw [mTup_ap, e]
  show (if ds.length ≤ 100000 then _ else _) = _
  rw [if_pos hl]
theorem asg_of {gm : D → Dv.Env → Option Dv.Env} {r1 : Dv.Env} (e : m r S = .ok d S1) (q : gm d r = some r1) : sAsg m gm r S = .ok .next r1 S1 := by
  rw [sAsg_ap, e]
  simp [q]
theorem par_of {i j : Nat} {ms : AM} (e : ms r S = .ok [v, w] S1) : sPar i j ms r S = .ok .next ((r.set i (some v)).set j (some w)) S1 := by
  rw [sPar_ap, e]
  rfl
theorem nil_of : mNil r S = .ok [] S := rfl
theorem var_of (h : r[k]? = some (some v)) : mVar k r S = .ok v S := by
  simp [h]
theorem par3_of {l : Nat} {x : D} (e : ms r S = .ok [v, w, x] S1) : sPar3 i j l ms r S = .ok .next (((r.set i (some v)).set j (some w)).set l (some x)) S1 := by
  rw [sPar3_ap, e]
  rfl
theorem seq_next {a b : SM} {r1 : Dv.Env} (h : a r S = .ok .next r1 S1) : sSeq a b r S = b r1 S1 := by
  rw [sSeq_ap, h]
end
end Sx
namespace Aw
open PySem L2 Dv Fv
def mHdB (w : World) : SM := (sSeq (sSet 10 (mApp 2 FLPut (mCons (mBin ixD (mVar 1) (mC (.int 0))) (mCons (mDc false (mZip (mCons (mVar 8) (mCons (mVar 4) mNil))) [11, 12] (tgT 2 (tgsCons (tgN 11) (tgsCons (tgN 12) tgsNil))) mYes (mVar 11) (mVar 12)) mNil))))
    (sDrop (mAppend (mSetDefT (mVar 9) (mVar 10) (mNewL mNil)) (mApp 3 (FAm w) (mCons (mVar 1) (mCons (mVar 4) (mCons (mVar 3) mNil)))))))
def mHd (w : World) : SM := (sSeq (sSet 3 (mDcP w false (mIter (mVar 2)) [5, 6, 7] (tgT 3 (tgsCons (tgN 5) (tgsCons (tgN 6) (tgsCons (tgN 7) tgsNil)))) mYes (mTup (mCons (mVar 5) (mCons (mVar 6) mNil))) (mVar 7)))
    (sSeq (sPar 8 9 (mCons (mApp 1 FNamesOf (mCons (mApp 1 Ld.FAskOf (mCons (mVar 1) mNil)) mNil)) (mCons mNewDT0 mNil)))
    (sSeq (sFor (mIter (mApp 2 FAnswers (mCons (mVar 0) (mCons (mApp 1 Ld.FAskOf (mCons (mVar 1) mNil)) mNil)))) (tgN 4) (mHdB w))
    (sRet (mVar 9)))))
def FHd (w : World) : List D → Store → R D := runT 13 (mHd w)
abbrev En := List Int × List (List Int) × Nat
abbrev Gp := List Int × List (List Int)
def lD (a : List Int) : D := .lst (a.map D.int)
def kd (L : List En) : List (List Key × D) := L.map fun e => (e.1.map Sum.inl, .loc e.2.2)
def gAdd (G : List Gp) (h a : List Int) : List Gp := if (G.any fun p => decide (p.1 = h)) = true then G.map fun p => if p.1 = h then (p.1, p.2 ++ [a]) else p else G ++ [(h, [a])]
def updL (L : List En) (h a : List Int) (n : Nat) : List En := if (L.any fun p => decide (p.1 = h)) = true then L.map fun p => if p.1 = h then (p.1, p.2.1 ++ [a], p.2.2) else p else L ++ [(h, [a], n)]
def toG (e : En) : Gp := (e.1, e.2.1)
theorem updL_G (L : List En) (h a : List Int) (n : Nat) : (updL L h a n).map toG = gAdd (L.map toG) h a := by
  unfold updL gAdd
  have e : ((L.map toG).any fun p => decide (p.1 = h)) = L.any fun p => decide (p.1 = h) := by
    rw [List.any_map]
    rfl
  rw [e]
  split
  · rw [List.map_map, List.map_map]
    refine List.map_congr_left fun p _ => ?_
    show toG (if p.1 = h then (p.1, p.2.1 ++ [a], p.2.2) else p) = if p.1 = h then (p.1, p.2.1 ++ [a]) else toG p
    split <;> rfl
  · rw [List.map_append]
    rfl
theorem inj_map {α β : Type} {f : α → β} : ∀ {l : List α}, (l.map f).Nodup → ∀ {x y : α}, x ∈ l → y ∈ l → f x = f y → x = y
  | [], _, _, _, hx, _, _ => nomatch hx
  | a :: l, h, x, y, hx, hy, e => by
    rw [List.map_cons, List.nodup_cons] at h
    rcases List.mem_cons.mp hx with hx1 | hx1 <;> rcases List.mem_cons.mp hy with hy1 | hy1
    · rw [hx1, hy1]
    · subst hx1
      exact absurd (List.mem_map.mpr ⟨y, hy1, e.symm⟩) h.1
    · subst hy1
      exact absurd (List.mem_map.mpr ⟨x, hx1, e⟩) h.1
    · exact inj_map h.2 hx1 hy1 e
section
variable {S W : Store} {L : List En} {h : List Int}
structure Hs (S W : Store) (L : List En) : Prop where
  keep : ∀ i, i < S.length → W[i]? = S[i]?
  lt : S.length < W.length
  dct : W[S.length]? = some (.dtt (kd L))
  nd : (L.map (·.1)).Nodup
  ndM : (L.map (·.2.2)).Nodup
  gt : ∀ e ∈ L, S.length < e.2.2
  at_ : ∀ e ∈ L, W[e.2.2]? = some (.lst (e.2.1.map lD))
theorem find_kd (L : List En) (h : List Int) : valTD (kd L) (h.map Sum.inl) = (L.find? fun e => decide (e.1 = h)).map fun e => D.loc e.2.2 := by
  unfold valTD kd
  induction L with
  | nil => rfl
  | cons e L ih =>
    rw [List.map_cons, List.find?_cons, List.find?_cons]
    by_cases q : e.1 = h
    · rw [decide_eq_true q, decide_eq_true (show (List.map Sum.inl e.1 : List Key) = List.map Sum.inl h by rw [q])]
      rfl
    · rw [decide_eq_false q, decide_eq_false (show ¬ (List.map Sum.inl e.1 : List Key) = List.map Sum.inl h from fun z => q (Ld.inl_inj z))]
      exact ih
theorem kd_new {L : List En} {h : List Int} (hn : ∀ e ∈ L, e.1 ≠ h) (d : D) : putTD (kd L) (h.map Sum.inl) d = kd L ++ [(h.map Sum.inl, d)] := by
  unfold putTD
  rw [if_neg]
  intro z
  obtain ⟨p, hp, hq⟩ := List.any_eq_true.mp z
  obtain ⟨e, he, rfl⟩ := List.mem_map.mp hp
  exact hn e he (Ld.inl_inj (of_decide_eq_true hq))
theorem sd_ok (H : Hs S W L) (hl : L.length ≤ 1000) {r : Dv.Env} (h9 : r[9]? = some (some (.loc S.length))) (h10 : r[10]? = some (some (rowD h))) :
    ∃ (M : Nat) (cur : List (List Int)) (W1 : Store), mSetDefT (mVar 9) (mVar 10) (mNewL mNil) r W = .ok (.loc M) W1 ∧ W1[M]? = some (.lst (cur.map lD)) ∧ (∀ i, i < S.length → W1[i]? = S[i]?) ∧ S.length < M ∧ (cur = [] ∨ ∃ e ∈ L, cur = e.2.1) ∧
      ∀ a, Hs S (W1.set M (.lst ((cur ++ [a]).map lD))) (updL L h a W.length) := by
  have hlt := H.lt
  have gl : ∀ {i : Nat} {o : O}, W[i]? = some o → (W ++ [O.lst []])[i]? = some o := fun {i o} e => by
    rw [List.getElem?_append_left (List.getElem?_eq_some_iff.mp e).1]
    exact e
  have nl : mNewL mNil r W = .ok (.loc W.length) (W ++ [O.lst []]) := rfl
  have da : dttAt (.loc S.length) W = some (kd L) := by
    show (match W[S.length]? with
      | some (.dtt kds) => some kds
      | _ => none) = _
    rw [H.dct]
  have tk : tkeyOf (rowD h) = some (h.map Sum.inl) := Ld.keysL_ints h
  have kl : (kd L).length < 90000 := by
    unfold kd
    rw [List.length_map]
    omega
  cases hf : L.find? fun e => decide (e.1 = h) with
  | some e =>
    have he := List.mem_of_find?_eq_some hf
    have hk : e.1 = h := of_decide_eq_true (List.find?_some (p := fun e : En => decide (e.1 = h)) hf)
    have ha := H.at_ e he
    refine ⟨e.2.2, e.2.1, W ++ [O.lst []], ?_, gl ha, fun i hi => ?_, H.gt e he, ?_, fun a => ?_⟩
    · unfold mSetDefT
      simp only [mVar_ap, h9, h10, rb_ok, da, Option.isSome_some, if_true, nl, gl H.dct, tk, kl, find_kd, hf, Option.map_some]
    · rw [List.getElem?_append_left (by omega), H.keep i hi]
    · exact .inr ⟨e, he, rfl⟩
    · have any : (L.any fun p => decide (p.1 = h)) = true := List.any_eq_true.mpr ⟨e, he, decide_eq_true hk⟩
      have eu : updL L h a W.length = L.map fun p => if p.1 = h then (p.1, p.2.1 ++ [a], p.2.2) else p := by
        unfold updL
        rw [if_pos any]
      have e1 : ((L.map fun p => if p.1 = h then (p.1, p.2.1 ++ [a], p.2.2) else p).map fun e : En => e.1) = L.map (·.1) := by
        rw [List.map_map]
        refine List.map_congr_left fun p _ => ?_
        show (if p.1 = h then (p.1, p.2.1 ++ [a], p.2.2) else p).1 = p.1
        split <;> rfl
      have e2 : ((L.map fun p => if p.1 = h then (p.1, p.2.1 ++ [a], p.2.2) else p).map fun e : En => e.2.2) = L.map (·.2.2) := by
        rw [List.map_map]
        refine List.map_congr_left fun p _ => ?_
        show (if p.1 = h then (p.1, p.2.1 ++ [a], p.2.2) else p).2.2 = p.2.2
        split <;> rfl
      have ek : kd (L.map fun p => if p.1 = h then (p.1, p.2.1 ++ [a], p.2.2) else p) = kd L := by
        unfold kd
        rw [List.map_map]
        refine List.map_congr_left fun p _ => ?_
        show ((if p.1 = h then (p.1, p.2.1 ++ [a], p.2.2) else p).1.map Sum.inl, D.loc (if p.1 = h then (p.1, p.2.1 ++ [a], p.2.2) else p).2.2) = (p.1.map Sum.inl, D.loc p.2.2)
        split <;> rfl
      have hne : S.length ≠ e.2.2 := Nat.ne_of_lt (H.gt e he)
      rw [eu]
      refine ⟨fun i hi => ?_, ?_, ?_, by rw [e1]; exact H.nd, by rw [e2]; exact H.ndM, fun p hp => ?_, fun p hp => ?_⟩
      · rw [List.getElem?_set_ne (by have := H.gt e he; omega), List.getElem?_append_left (by omega), H.keep i hi]
      · rw [List.length_set, List.length_append]
        omega
      · rw [List.getElem?_set_ne hne.symm, ek]
        exact gl H.dct
      · obtain ⟨p0, h0, rfl⟩ := List.mem_map.mp hp
        have := H.gt p0 h0
        by_cases q : p0.1 = h
        · rw [if_pos q]
          exact this
        · rw [if_neg q]
          exact this
      · obtain ⟨p0, h0, rfl⟩ := List.mem_map.mp hp
        by_cases q : p0.1 = h
        · have : p0 = e := by
            have nd := H.nd
            exact inj_map nd h0 he (q.trans hk.symm)
          subst this
          rw [if_pos q]
          rw [List.getElem?_set_self (List.getElem?_eq_some_iff.mp (gl ha)).1]
        · rw [if_neg q]
          have : p0.2.2 ≠ e.2.2 := fun z => q (by
            have : p0 = e := inj_map H.ndM h0 he z
            rw [this]
            exact hk)
          rw [List.getElem?_set_ne this.symm]
          exact gl (H.at_ p0 h0)
  | none =>
    have hn : ∀ e ∈ L, e.1 ≠ h := fun e he z => by
      have := List.find?_eq_none.mp hf e he
      simp [z] at this
    have any : (L.any fun p => decide (p.1 = h)) = false := by
      cases c : L.any fun p => decide (p.1 = h) with
      | false => rfl
      | true =>
        obtain ⟨p, hp, hq⟩ := List.any_eq_true.mp c
        exact absurd (of_decide_eq_true hq) (hn p hp)
    refine ⟨W.length, [], (W ++ [O.lst []]).set S.length (.dtt (kd L ++ [(h.map Sum.inl, .loc W.length)])), ?_, ?_, fun i hi => ?_, hlt, .inl rfl, fun a => ?_⟩
    · unfold mSetDefT
      simp only [mVar_ap, h9, h10, rb_ok, da, Option.isSome_some, if_true, nl, gl H.dct, tk, kl, find_kd, hf, Option.map_none, kd_new hn]
    · rw [List.getElem?_set_ne (Nat.ne_of_lt hlt), List.getElem?_append_right (Nat.le_refl _), Nat.sub_self]
      rfl
    · rw [List.getElem?_set_ne (by omega), List.getElem?_append_left (by omega), H.keep i hi]
    · have eu : updL L h a W.length = L ++ [(h, [a], W.length)] := by
        unfold updL
        rw [any]
        rfl
      have lt2 : ∀ e ∈ L, e.2.2 < W.length := fun e he => (List.getElem?_eq_some_iff.mp (H.at_ e he)).1
      rw [eu]
      refine ⟨fun i hi => ?_, ?_, ?_, ?_, ?_, fun p hp => ?_, fun p hp => ?_⟩
      · rw [List.getElem?_set_ne (by omega), List.getElem?_set_ne (by omega), List.getElem?_append_left (by omega), H.keep i hi]
      · rw [List.length_set, List.length_set, List.length_append]
        omega
      · rw [List.getElem?_set_ne (by omega), List.getElem?_set_self (by rw [List.length_append]; omega)]
        unfold kd
        rw [List.map_append]
        rfl
      · rw [List.map_append]
        refine List.nodup_append.mpr ⟨H.nd, by simp, fun x hx y hy z => ?_⟩
        obtain ⟨e, he, rfl⟩ := List.mem_map.mp hx
        have hy : y = h := by simpa using hy
        exact hn e he (z.trans hy)
      · rw [List.map_append]
        refine List.nodup_append.mpr ⟨H.ndM, by simp, fun x hx y hy z => ?_⟩
        obtain ⟨e, he, rfl⟩ := List.mem_map.mp hx
        have hy : y = W.length := by simpa using hy
        have := lt2 e he
        omega
      · rcases List.mem_append.mp hp with hp | hp
        · exact H.gt p hp
        · rw [List.mem_singleton.mp hp]
          exact hlt
      · rcases List.mem_append.mp hp with hp | hp
        · have l1 := lt2 p hp
          have l2 := H.gt p hp
          rw [List.getElem?_set_ne (by omega), List.getElem?_set_ne (by omega)]
          exact gl (H.at_ p hp)
        · rw [List.mem_singleton.mp hp]
          show ((W ++ [O.lst []]).set S.length _ |>.set W.length _)[W.length]? = _
          rw [List.getElem?_set_self (by rw [List.length_set, List.length_append]; simp)]
          rfl
theorem updL_len (L : List En) (h a : List Int) (n : Nat) : (updL L h a n).length ≤ L.length + 1 := by
  unfold updL
  split
  · rw [List.length_map]
    omega
  · rw [List.length_append, List.length_singleton]
    exact Nat.le_refl _
theorem updL_each {L : List En} {j : Nat} (hj : ∀ e ∈ L, e.2.1.length ≤ j) (h a : List Int) (n : Nat) : ∀ e ∈ updL L h a n, e.2.1.length ≤ j + 1 := by
  unfold updL
  intro e he
  split at he
  · obtain ⟨p, hp, rfl⟩ := List.mem_map.mp he
    have := hj p hp
    split
    · show (p.2.1 ++ [a]).length ≤ _
      rw [List.length_append, List.length_singleton]
      omega
    · omega
  · rcases List.mem_append.mp he with he | he
    · have := hj e he
      omega
    · rw [List.mem_singleton.mp he]
      show [a].length ≤ _
      rw [List.length_singleton]
      omega
end
end Aw
namespace Aw
open PySem L2 Dv Fv Sx
section
variable {tb : List Bt} {as : List At} {hd : List Tm} {S W : Store} {w : World} {L : List En} {am : D} {T : List (Pr × Int)}
abbrev HE (w : World) (tb : List Bt) (hd : List Tm) (as : List At) (am : D) (T : List (Pr × Int)) (N : Nat) (y4 y10 : Option D) : Dv.Env := [some (.tup (tb.map tabD)), some (viewD hd as), some am, some (.dpr w (tbD T)), y4, none, none, none, some (.tup ((nms as).map D.str)), some (.loc N), y10, none, none]
theorem hdB_ok (v : Ld.Vw hd as) (f : Str → Int) (H : Hs S W L) {j : Nat} (hl : L.length ≤ j) (hj : j ≤ 1000) (he : ∀ e ∈ L, e.2.1.length ≤ j) {y10 : Option D} :
    ∃ W' n, mHdB w (HE w tb hd as am T S.length (some (rowD ((nms as).map f))) y10) W = .ok .next (HE w tb hd as am T S.length (some (rowD ((nms as).map f))) (some (rowD (hd.map (ev f))))) W' ∧ Hs S W' (updL L (hd.map (ev f)) (amF T as f) n) := by
  have nl := nms_len v.tok
  have hr : ((nms as).map f).length = (nms as).length := List.length_map ..
  have pu := Ld.put_row (S := W) v hr
  rw [Ld.hv_map v f] at pu
  have dc := dc_kZ2 (S := W) (y0 := some (.tup (tb.map tabD))) (y1 := some (viewD hd as)) (y2 := some am) (y3 := some (.dpr w (tbD T))) (y4 := some (rowD ((nms as).map f))) (y5 := none) (y6 := none) (y7 := none) (y8 := some (.tup ((nms as).map D.str))) (y9 := some (.loc S.length)) (y10 := y10) (nms as) (((nms as).map f).map D.int) [] (by simpa using Ld.nodup_inr (nodup_nms as)) (by simp; omega)
  rw [List.nil_append] at dc
  have zz := Ld.zip_row (as := as) ((nms as).map f)
  have v0 : ixD (viewD hd as) (.int 0) W = some (.tup (hd.map trD)) := Ld.view_ix0
  have md : mDc false (mZip (mCons (mVar 8) (mCons (mVar 4) mNil))) [11, 12] (tgT 2 (tgsCons (tgN 11) (tgsCons (tgN 12) tgsNil))) mYes (mVar 11) (mVar 12) (HE w tb hd as am T S.length (some (rowD ((nms as).map f))) y10) W = .ok (.dct (Ld.kZ (nms as) (((nms as).map f).map D.int))) W := by
    unfold HE
    generalize List.zipWith (fun a b => D.tup [a, b]) ((nms as).map D.str) (((nms as).map f).map D.int) = Z at zz dc
    generalize Ld.kZ (nms as) (((nms as).map f).map D.int) = G at dc
    generalize rowD ((nms as).map f) = R at zz dc ⊢
    generalize viewD hd as = V at dc ⊢
    generalize (nms as).map D.str = N at zz dc ⊢
    generalize tb.map tabD = B at dc ⊢
    simp [zz, dc]
  have s1 : (sSet 10 (mApp 2 FLPut (mCons (mBin ixD (mVar 1) (mC (.int 0))) (mCons (mDc false (mZip (mCons (mVar 8) (mCons (mVar 4) mNil))) [11, 12] (tgT 2 (tgsCons (tgN 11) (tgsCons (tgN 12) tgsNil))) mYes (mVar 11) (mVar 12)) mNil)))) (HE w tb hd as am T S.length (some (rowD ((nms as).map f))) y10) W = .ok .next (HE w tb hd as am T S.length (some (rowD ((nms as).map f))) (some (rowD (hd.map (ev f))))) W :=
    set_of (run_app (cons_of (bin_of (var_of rfl) rfl v0) (cons_of md rfl)) rfl pu)
  obtain ⟨M, cur, W1, e1, e2, k1, hM, hc, hs⟩ := sd_ok H (by omega) (r := HE w tb hd as am T S.length (some (rowD ((nms as).map f))) (some (rowD (hd.map (ev f))))) rfl rfl
  have amo := am_ok (S := W1) (w := w) v f T
  have hcl : cur.length ≤ 1000 := by
    rcases hc with rfl | ⟨e, h1, rfl⟩
    · exact Nat.zero_le _
    · have := he e h1
      omega
  have il : isLoc (.loc M) W1 = true := by rw [isLoc_ap, e2]
  have ap : appD (.loc M) (lD (amF T as f)) W1 = .ok .non (W1.set M (.lst ((cur ++ [amF T as f]).map lD))) := by
    rw [appD_ap, e2]
    simp only [if_pos (show (cur.map lD).length < 100000 by rw [List.length_map]; omega)]
    rw [List.map_append]
    rfl
  refine ⟨_, W.length, ?_, hs (amF T as f)⟩
  unfold mHdB
  rw [seq_next s1]
  have am' : (mApp 3 (FAm w) (mCons (mVar 1) (mCons (mVar 4) (mCons (mVar 3) mNil)))) (HE w tb hd as am T S.length (some (rowD ((nms as).map f))) (some (rowD (hd.map (ev f))))) W1 = .ok (lD (amF T as f)) W1 :=
    run_app (cons_of (var_of rfl) (cons_of (var_of rfl) (cons_of (var_of rfl) rfl))) rfl amo
  generalize lD (amF T as f) = V at am' ap
  simp [e1, il, am', ap, -mApp_ap, -appD_ap, -isLoc_ap]
def gF (T : List (Pr × Int)) (hd : List Tm) (as : List At) (fs : List (Str → Int)) (G : List Gp) : List Gp := fs.foldl (fun G f => gAdd G (hd.map (ev f)) (amF T as f)) G
theorem hd_loop (v : Ld.Vw hd as) : ∀ (fs : List (Str → Int)) (j : Nat) (W : Store) (L : List En) (y4 y10 : Option D), j + fs.length ≤ 1000 → L.length ≤ j → (∀ e ∈ L, e.2.1.length ≤ j) → Hs S W L →
    ∃ y4' y10' W' L', sLoop (tgN 4) (mHdB w) (fs.map fun f => rowD ((nms as).map f)) (HE w tb hd as am T S.length y4 y10) W = .ok .next (HE w tb hd as am T S.length y4' y10') W' ∧ Hs S W' L' ∧ L'.map toG = gF T hd as fs (L.map toG)
  | [], j, W, L, y4, y10, _, _, _, h => ⟨y4, y10, W, L, rfl, h, rfl⟩
  | f :: fs, j, W, L, y4, y10, hl, h1, h2, h => by
    rw [List.length_cons] at hl
    obtain ⟨W1, n, e1, h3⟩ := hdB_ok (tb := tb) (w := w) (am := am) (T := T) v f h h1 (by omega) h2 (y10 := y10)
    have l1 := updL_len L (hd.map (ev f)) (amF T as f) n
    obtain ⟨y4', y10', W2, L2, e2, h4, h5⟩ := hd_loop v fs (j + 1) W1 (updL L (hd.map (ev f)) (amF T as f) n) (some (rowD ((nms as).map f))) (some (rowD (hd.map (ev f)))) (by omega) (by omega) (updL_each h2 _ _ _) h3
    refine ⟨y4', y10', W2, L2, ?_, h4, ?_⟩
    · rw [List.map_cons, loop_step (r1 := HE w tb hd as am T S.length (some (rowD ((nms as).map f))) y10) rfl e1]
      exact e2
    · rw [h5, updL_G]
      rfl
def lsD (l : List (List Int)) : D := .lst (l.map lD)
def gK (G : List Gp) : List (List Key × D) := G.map fun p => (p.1.map Sum.inl, lsD p.2)
theorem fz_lD (n : Nat) (W : Store) (k : Nat) (a : List Int) : fzN (k + 2) n W (lD a) = some (lD a) := by
  show (fzL (fzN (k + 1) n W) (a.map D.int)).map D.lst = _
  rw [fzL_all fun x hx => by
    obtain ⟨i, _, rfl⟩ := List.mem_map.mp hx
    rfl]
  rfl
theorem fzL_map {α : Type} {g : D → Option D} {a b : α → D} : ∀ {l : List α}, (∀ x ∈ l, g (a x) = some (b x)) → fzL g (l.map a) = some (l.map b)
  | [], _ => rfl
  | x :: l, h => by
    show fzL g (a x :: l.map a) = some (b x :: l.map b)
    unfold fzL
    rw [h x List.mem_cons_self, fzL_map fun y hy => h y (List.mem_cons_of_mem _ hy)]
theorem hd_freeze (H : Hs S W L) : fzE S.length W (.loc S.length) = some (.dtt (gK (L.map toG))) := by
  have e0 : fzD S.length W (.loc S.length) = if cloT S.length (kd L) = true then some (.dtt (kd L)) else none := by
    show (if S.length < S.length then _ else match W[S.length]? with
      | some (.lst ds) => if cloL S.length ds = true then some (D.lst ds) else none
      | some (.dct kvs) => if cloK S.length kvs = true then some (D.dct kvs) else none
      | some (.dtt kvs) => if cloT S.length kvs = true then some (D.dtt kvs) else none
      | _ => none) = _
    rw [if_neg (Nat.lt_irrefl _), H.dct]
  cases L with
  | nil =>
    unfold fzE
    rw [e0]
    rfl
  | cons e L =>
    have hc : cloT S.length (kd (e :: L)) = false := by
      have := H.gt e List.mem_cons_self
      show (decide (e.2.2 < S.length) && _) = false
      rw [decide_eq_false (by omega)]
      rfl
    rw [hc] at e0
    have f8 : ∀ x ∈ e :: L, fzN 8 S.length W (.loc x.2.2) = some (lsD x.2.1) := fun x hx => by
      have h1 := H.gt x hx
      have h2 := H.at_ x hx
      show (if x.2.2 < S.length then some (D.loc x.2.2) else match W[x.2.2]? with
          | some (.lst ds) => (fzL (fzN 7 S.length W) ds).map .lst
          | some (.dct kvs) => (fzL (fzN 7 S.length W) (kvs.map (·.2))).map fun vs => .dct ((kvs.map (·.1)).zip vs)
          | some (.dtt kvs) => (fzL (fzN 7 S.length W) (kvs.map (·.2))).map fun vs => .dtt ((kvs.map (·.1)).zip vs)
          | _ => none) = _
      rw [if_neg (by omega), h2]
      show (fzL (fzN 7 S.length W) _).map D.lst = _
      rw [fzL_map (b := lD) fun a _ => fz_lD _ _ _ _]
      rfl
    have f9 : fzN 9 S.length W (.loc S.length) = some (.dtt (gK ((e :: L).map toG))) := by
      show (if S.length < S.length then some (D.loc S.length) else match W[S.length]? with
          | some (.lst ds) => (fzL (fzN 8 S.length W) ds).map .lst
          | some (.dct kvs) => (fzL (fzN 8 S.length W) (kvs.map (·.2))).map fun vs => .dct ((kvs.map (·.1)).zip vs)
          | some (.dtt kvs) => (fzL (fzN 8 S.length W) (kvs.map (·.2))).map fun vs => .dtt ((kvs.map (·.1)).zip vs)
          | _ => none) = _
      rw [if_neg (Nat.lt_irrefl _), H.dct]
      show (fzL (fzN 8 S.length W) ((kd (e :: L)).map (·.2))).map (fun vs => D.dtt (((kd (e :: L)).map (·.1)).zip vs)) = _
      have e1 : (kd (e :: L)).map (·.2) = (e :: L).map fun x => D.loc x.2.2 := by
        unfold kd
        rw [List.map_map]
        rfl
      have e2 : (kd (e :: L)).map (·.1) = (e :: L).map fun x => x.1.map Sum.inl := by
        unfold kd
        rw [List.map_map]
        rfl
      rw [e1, e2, fzL_map (b := fun x => lsD x.2.1) f8]
      show some (D.dtt (((e :: L).map fun x => x.1.map Sum.inl).zip ((e :: L).map fun x => lsD x.2.1))) = _
      rw [List.zip_map']
      unfold gK
      rw [List.map_map]
      rfl
    unfold fzE
    rw [e0, if_neg (by decide)]
    exact f9
end
end Aw
namespace Aw
open PySem L2 Dv Fv Sx
def mSum (w : World) : SM := (sSeq (sSet 3 (mApp 3 (FHd w) (mCons (mVar 0) (mCons (mVar 1) (mCons (mVar 2) mNil)))))
    (sRet (mCall tupD (mCons (mLc (mIter (mCall sortDtD (mCons (mVar 3) mNil))) [4] (tgN 4) mYes (mTup (mCons (mVar 4) (mCons (mCall sumD (mCons (mLc (mIter (mBin dgetTD (mVar 3) (mVar 4))) [5] (tgN 5) mYes (mApp 1 FPr (mCons (mVar 5) mNil))) mNil)) mNil)))) mNil))))
def FSum (w : World) : List D → Store → R D := runT 6 (mSum w)
def mGrt (w : World) : SM := (sSeq (sSet 3 (mApp 3 (FHd w) (mCons (mVar 0) (mCons (mVar 1) (mCons (mVar 2) mNil)))))
    (sRet (mCall tupD (mCons (mLc (mIter (mCall sortDtD (mCons (mVar 3) mNil))) [4] (tgN 4) mYes (mTup (mCons (mVar 4) (mCons (mCall maxD (mCons (mLc (mIter (mBin dgetTD (mVar 3) (mVar 4))) [5] (tgN 5) mYes (mCall sumD (mCons (mVar 5) mNil))) mNil)) mNil)))) mNil))))
def FGrt (w : World) : List D → Store → R D := runT 6 (mGrt w)
def mBest (w : World) : SM := (sSeq (sSet 3 (mApp 3 (FGrt w) (mCons (mVar 0) (mCons (mVar 1) (mCons (mVar 2) mNil)))))
    (sRet (mIf (mTru (mVar 3)) (mMaxLam "best" "best.<locals>.<lambda>" 0 (mCons (mVar 3) mNil)) (mC .non))))
def FBest (w : World) : List D → Store → R D := runT 4 (mBest w)
def triD (p : Pr × Int) : D := .tup [.str p.1.1, rowD p.1.2, .int p.2]
def amD (am : List (Pr × Int)) : D := .tup (am.map triD)
section
variable {tb : List Bt} {as : List At} {hd : List Tm} {S W : Store} {w : World} {T : List (Pr × Int)} {am : List (Pr × Int)}
theorem tbl_loop {y0 y1 y2 y3 y4 : Option D} {tl : Dv.Env} : ∀ (am T : List (Pr × Int)), T.length + am.length ≤ 1000 →
    dcPL (tgT 3 (tgsCons (tgN 5) (tgsCons (tgN 6) (tgsCons (tgN 7) tgsNil)))) mYes (mTup (mCons (mVar 5) (mCons (mVar 6) mNil))) (mVar 7) (y0 :: y1 :: y2 :: y3 :: y4 :: none :: none :: none :: tl) (am.map triD) (tbD T) S = .ok (tbD (am.foldl (fun T a => putT T a.1 a.2) T)) S
  | [], T, _ => rfl
  | a :: am, T, h => by
    rw [List.length_cons] at h
    have hl : (tbD T).length < 90000 := by
      rw [tbD_len]
      omega
    have pl := putT_len T a.1 a.2
    have ih := tbl_loop (y0 := y0) (y1 := y1) (y2 := y2) (y3 := y3) (y4 := y4) (tl := tl) am (putT T a.1 a.2) (by omega)
    rw [List.map_cons, dcPL_cons, List.foldl_cons]
    have ek : (mTup (mCons (mVar 5) (mCons (mVar 6) mNil))) (y0 :: y1 :: y2 :: y3 :: y4 :: some (.str a.1.1) :: some (rowD a.1.2) :: some (.int a.2) :: tl) S = .ok (pairD a.1) S := rfl
    have eg : (tgT 3 (tgsCons (tgN 5) (tgsCons (tgN 6) (tgsCons (tgN 7) tgsNil)))) (triD a) (y0 :: y1 :: y2 :: y3 :: y4 :: none :: none :: none :: tl) = some (y0 :: y1 :: y2 :: y3 :: y4 :: some (.str a.1.1) :: some (rowD a.1.2) :: some (.int a.2) :: tl) := rfl
    have e7 : (mVar 7) (y0 :: y1 :: y2 :: y3 :: y4 :: some (.str a.1.1) :: some (rowD a.1.2) :: some (.int a.2) :: tl) S = .ok (.int a.2) S := rfl
    rw [eg]
    show (match prOf (pairD a.1) with
        | some key => if (tbD T).length < 90000 then dcPL _ _ _ _ _ (am.map triD) (putPD (tbD T) key (.int a.2)) S else .bad
        | none => .bad) = _
    rw [prOf_pair]
    simp only [if_pos hl]
    rw [put_tb]
    exact ih
theorem hd_ok (v : Ld.Vw hd as) {fs : List (Str → Int)} (hfs : ∀ S, FAnswers [.tup (tb.map tabD), askD as []] S = .ok (.tup (fs.map fun f => rowD ((nms as).map f))) S) (hl : fs.length ≤ 900) (ha : am.length ≤ 900) :
    FHd w [.tup (tb.map tabD), viewD hd as, amD am] S = .ok (.dtt (gK (gF (tblA am) hd as fs []))) S := by
  have H0 : Hs S (S ++ [.dtt []]) [] := ⟨fun i hi => List.getElem?_append_left hi, by simp, by simp [kd], List.nodup_nil, List.nodup_nil, (fun e h => nomatch h), (fun e h => nomatch h)⟩
  obtain ⟨y4, y10, W, L, e, h, hG⟩ := hd_loop (S := S) (tb := tb) (w := w) (am := amD am) (T := tblA am) v fs 0 (S ++ [.dtt []]) [] none none (by omega) (Nat.le_refl _) (fun e h => nomatch h) H0
  have an := hfs (S ++ [.dtt []])
  have ak := Ld.askOf_ok (S := S) (hd := hd) (as := as)
  have ak2 := Ld.askOf_ok (S := S ++ [.dtt []]) (hd := hd) (as := as)
  have nm : FNamesOf [askD as []] S = .ok (.tup ((nms as).map D.str)) S := namesOf_ok v.tok v.tml
  have tl := tbl_loop (S := S) (y0 := some (.tup (tb.map tabD))) (y1 := some (viewD hd as)) (y2 := some (amD am)) (y3 := none) (y4 := none) (tl := [none, none, none, none, none]) am [] (by simpa using Nat.le_trans ha (by decide))
  have s1 : (sSet 3 (mDcP w false (mIter (mVar 2)) [5, 6, 7] (tgT 3 (tgsCons (tgN 5) (tgsCons (tgN 6) (tgsCons (tgN 7) tgsNil)))) mYes (mTup (mCons (mVar 5) (mCons (mVar 6) mNil))) (mVar 7))) [some (.tup (tb.map tabD)), some (viewD hd as), some (amD am), none, none, none, none, none, none, none, none, none, none] S = .ok .next [some (.tup (tb.map tabD)), some (viewD hd as), some (amD am), some (.dpr w (tbD (tblA am))), none, none, none, none, none, none, none, none, none] S := by
    refine set_of (v := .dpr w (tbD (tblA am))) ?_
    rw [mDcP_ap]
    have it : mIter (mVar 2) [some (.tup (tb.map tabD)), some (viewD hd as), some (amD am), none, none, none, none, none, none, none, none, none, none] S = .ok (am.map triD) S := iter_of (var_of rfl) rfl
    rw [it]
    show (dcPL _ _ _ _ [some (.tup (tb.map tabD)), some (viewD hd as), some (amD am), none, none, none, none, none, none, none, none, none, none] (am.map triD) [] S).bind _ = _
    rw [show ([] : List (Pr × D)) = tbD [] from rfl, tl]
    rfl
  have s2 : (sPar 8 9 (mCons (mApp 1 FNamesOf (mCons (mApp 1 Ld.FAskOf (mCons (mVar 1) mNil)) mNil)) (mCons mNewDT0 mNil))) [some (.tup (tb.map tabD)), some (viewD hd as), some (amD am), some (.dpr w (tbD (tblA am))), none, none, none, none, none, none, none, none, none] S = .ok .next (HE w tb hd as (amD am) (tblA am) S.length none none) (S ++ [.dtt []]) :=
    par_of (cons_of (run_app (cons_of (run_app (cons_of (var_of rfl) rfl) rfl ak) rfl) rfl nm) (cons_of rfl rfl))
  have s3 : (sFor (mIter (mApp 2 FAnswers (mCons (mVar 0) (mCons (mApp 1 Ld.FAskOf (mCons (mVar 1) mNil)) mNil)))) (tgN 4) (mHdB w)) (HE w tb hd as (amD am) (tblA am) S.length none none) (S ++ [.dtt []]) = .ok .next (HE w tb hd as (amD am) (tblA am) S.length y4 y10) W := by
    have it : mIter (mApp 2 FAnswers (mCons (mVar 0) (mCons (mApp 1 Ld.FAskOf (mCons (mVar 1) mNil)) mNil))) (HE w tb hd as (amD am) (tblA am) S.length none none) (S ++ [.dtt []]) = .ok (fs.map fun f => rowD ((nms as).map f)) (S ++ [.dtt []]) :=
      iter_of (run_app (cons_of (var_of rfl) (cons_of (run_app (cons_of (var_of rfl) rfl) rfl ak2) rfl)) rfl an) rfl
    rw [for_of it]
    exact e
  have tr : Tr S W := ⟨Nat.le_of_lt h.lt, fun i o hi ho => .inl (by rw [← h.keep i hi]; exact ho)⟩
  have tk : W.take S.length = S := by
    refine List.ext_getElem? fun i => ?_
    rw [List.getElem?_take]
    by_cases hi : i < S.length
    · rw [if_pos hi, h.keep i hi]
    · rw [if_neg hi, List.getElem?_eq_none (by omega)]
  have fz := hd_freeze h
  rw [hG] at fz
  show finT S (mHd w [some (.tup (tb.map tabD)), some (viewD hd as), some (amD am), none, none, none, none, none, none, none, none, none, none] S) = _
  unfold mHd
  rw [seq_ok s1, seq_ok s2, seq_ok s3]
  have := finT_retE (rho := HE w tb hd as (amD am) (tblA am) S.length y4 y10) tr fz
  rw [tk] at this
  exact this
theorem gAdd_nd {G : List Gp} (h : (G.map (·.1)).Nodup) (k a : List Int) : ((gAdd G k a).map (·.1)).Nodup := by
  unfold gAdd
  split
  · rw [List.map_map]
    rw [show ((fun x : Gp => x.1) ∘ fun p : Gp => if p.1 = k then (p.1, p.2 ++ [a]) else p) = fun p => p.1 from by
      funext p
      show (if p.1 = k then (p.1, p.2 ++ [a]) else p).1 = p.1
      split <;> rfl]
    exact h
  · rename_i hn
    rw [List.map_append]
    refine List.nodup_append.mpr ⟨h, by simp, fun x hx y hy z => ?_⟩
    obtain ⟨p, hp, rfl⟩ := List.mem_map.mp hx
    have hy : y = k := by simpa using hy
    exact hn (List.any_eq_true.mpr ⟨p, hp, decide_eq_true (z.trans hy)⟩)
theorem gF_nd : ∀ (fs : List (Str → Int)) {G : List Gp}, (G.map (·.1)).Nodup → ((gF T hd as fs G).map (·.1)).Nodup
  | [], _, h => h
  | f :: fs, G, h => gF_nd fs (gAdd_nd h _ _)
structure GpOk (hd : List Tm) (k : Nat) (G : List Gp) : Prop where
  wd : ∀ p ∈ G, p.1.length = hd.length
  ne : ∀ p ∈ G, p.2 ≠ []
  sm : ∀ p ∈ G, ∀ a ∈ p.2, ∀ n ∈ a, -100 ≤ n ∧ n ≤ 100
  len : G.length ≤ k
def Sml (T : List (Pr × Int)) : Prop := ∀ k, -100 ≤ lkT T k ∧ lkT T k ≤ 100
theorem gF_ok (sm : Sml T) : ∀ (fs : List (Str → Int)) {G : List Gp} {k : Nat}, GpOk hd k G → GpOk hd (k + fs.length) (gF T hd as fs G)
  | [], _, _, h => h
  | f :: fs, G, k, h => by
    have ha : ∀ n ∈ amF T as f, -100 ≤ n ∧ n ≤ 100 := fun n hn => by
      obtain ⟨a, _, rfl⟩ := List.mem_map.mp hn
      exact sm _
    have h1 : GpOk hd (k + 1) (gAdd G (hd.map (ev f)) (amF T as f)) := by
      unfold gAdd
      split
      · refine ⟨fun p hp => ?_, fun p hp => ?_, fun p hp => ?_, by rw [List.length_map]; have := h.len; omega⟩
        · obtain ⟨q, hq, rfl⟩ := List.mem_map.mp hp
          have := h.wd q hq
          split <;> exact this
        · obtain ⟨q, hq, rfl⟩ := List.mem_map.mp hp
          split
          · exact fun z => by simp at z
          · exact h.ne q hq
        · obtain ⟨q, hq, rfl⟩ := List.mem_map.mp hp
          split
          · intro a hm
            rcases List.mem_append.mp hm with hm | hm
            · exact h.sm q hq a hm
            · rw [List.mem_singleton.mp hm]
              exact ha
          · exact h.sm q hq
      · refine ⟨fun p hp => ?_, fun p hp => ?_, fun p hp => ?_, by rw [List.length_append, List.length_singleton]; have := h.len; omega⟩
        · rcases List.mem_append.mp hp with hp | hp
          · exact h.wd p hp
          · rw [List.mem_singleton.mp hp]
            exact List.length_map ..
        · rcases List.mem_append.mp hp with hp | hp
          · exact h.ne p hp
          · rw [List.mem_singleton.mp hp]
            exact fun z => by simp at z
        · rcases List.mem_append.mp hp with hp | hp
          · exact h.sm p hp
          · rw [List.mem_singleton.mp hp]
            intro a hm
            rw [List.mem_singleton.mp hm]
            exact ha
    have := gF_ok sm fs h1
    rw [List.length_cons, show k + (fs.length + 1) = k + 1 + fs.length by omega]
    exact this
def gsrt (G : List Gp) : List (List Int) := sortL ltR (G.map (·.1))
theorem rowsK_gK : ∀ G : List Gp, rowsK (gK G) = some (G.map (·.1))
  | [] => rfl
  | p :: G => by
    show rowsK ((p.1.map Sum.inl, lsD p.2) :: gK G) = _
    unfold rowsK
    rw [rowsK_gK G, Ld.rowK_inl]
    rfl
theorem many_keys {G : List Gp} {k : Nat} (h : GpOk hd k G) (nd : (G.map (·.1)).Nodup) : 2 ≤ (G.map (·.1)).length → ∀ r ∈ G.map (·.1), r ≠ [] := by
  intro h2 r hr e
  subst e
  have h0 : hd.length = 0 := by
    obtain ⟨p, hp, e⟩ := List.mem_map.mp hr
    rw [← h.wd p hp, e]
    rfl
  have all : ∀ x ∈ G.map (·.1), x = [] := fun x hx => by
    obtain ⟨p, hp, rfl⟩ := List.mem_map.mp hx
    have := h.wd p hp
    exact List.eq_nil_of_length_eq_zero (by omega)
  cases hG : G.map (·.1) with
  | nil => rw [hG] at h2; simp at h2
  | cons x l =>
    cases l with
    | nil => rw [hG] at h2; simp at h2
    | cons y l =>
      rw [hG] at nd all
      have e1 := all x (by simp)
      have e2 := all y (by simp)
      rw [e1, e2] at nd
      simp at nd
theorem srt_gK {G : List Gp} {k : Nat} (h : GpOk hd k G) (nd : (G.map (·.1)).Nodup) (hk : k ≤ 4000) : sortDtD [.dtt (gK G)] S = some (.lst ((gsrt G).map rowD)) := by
  show (match dttAt (.dtt (gK G)) S with
    | some kds => match rowsK kds with
      | some rows => if rows.length ≤ 4000 ∧ (2 ≤ rows.length → ∀ r ∈ rows, r ≠ []) then some (D.lst ((sortL ltR rows).map rowD)) else none
      | none => none
    | none => none) = _
  simp only [dttAt_dtt, rowsK_gK]
  rw [if_pos ⟨by rw [List.length_map]; have := h.len; omega, many_keys h nd⟩]
  rfl
def lkG (G : List Gp) (h : List Int) : List (List Int) := ((G.find? fun p => decide (p.1 = h)).map (·.2)).getD []
theorem mem_gsrt {G : List Gp} {h : List Int} (hh : h ∈ gsrt G) : ∃ p ∈ G, p.1 = h ∧ G.find? (fun p => decide (p.1 = h)) = some p := by
  have hm : h ∈ G.map (·.1) := by
    unfold gsrt at hh
    exact (sortL_perm _).mem_iff.mp hh
  obtain ⟨p, hp, e⟩ := List.mem_map.mp hm
  cases hf : G.find? fun p => decide (p.1 = h) with
  | none =>
    have := List.find?_eq_none.mp hf p hp
    simp [e] at this
  | some q => exact ⟨q, List.mem_of_find?_eq_some hf, of_decide_eq_true (List.find?_some (p := fun p : Gp => decide (p.1 = h)) hf), rfl⟩
theorem val_map (G : List Gp) (g : List (List Int) → D) (h : List Int) : valTD (G.map fun p => (p.1.map Sum.inl, g p.2)) (h.map Sum.inl) = (G.find? fun p => decide (p.1 = h)).map fun p => g p.2 := by
  unfold valTD
  induction G with
  | nil => rfl
  | cons p G ih =>
    rw [List.map_cons, List.find?_cons, List.find?_cons]
    by_cases e : p.1 = h
    · rw [decide_eq_true e, decide_eq_true (show (List.map Sum.inl p.1 : List Key) = List.map Sum.inl h by rw [e])]
      rfl
    · rw [decide_eq_false e, decide_eq_false (show ¬ (List.map Sum.inl p.1 : List Key) = List.map Sum.inl h from fun z => e (Ld.inl_inj z))]
      exact ih
theorem get_gK {G : List Gp} {h : List Int} (hh : h ∈ gsrt G) : dgetTD (.dtt (gK G)) (rowD h) S = some (lsD (lkG G h)) := by
  obtain ⟨p, hp, e1, e2⟩ := mem_gsrt hh
  show (match dttAt (.dtt (gK G)) S, tkeyOf (rowD h) with
    | some kds, some k => valTD kds k
    | _, _ => none) = _
  rw [show tkeyOf (rowD h) = some (h.map Sum.inl) from Ld.keysL_ints h]
  show valTD (gK G) (h.map Sum.inl) = _
  unfold gK lkG
  rw [val_map, e2]
  rfl
theorem lk_mem {G : List Gp} {h : List Int} (hh : h ∈ gsrt G) : ∃ p ∈ G, p.1 = h ∧ lkG G h = p.2 := by
  obtain ⟨p, hp, e1, e2⟩ := mem_gsrt hh
  refine ⟨p, hp, e1, ?_⟩
  unfold lkG
  rw [e2]
  rfl
def prL (a : List Int) : Int := a.foldl (fun t n => t * n) 1
theorem pr_loop {y0 : Option D} : ∀ (a : List Int) (t : Int) (y2 : Option D), (∀ n ∈ a, -100 ≤ n ∧ n ≤ 100) → ∃ y2', sLoop (tgN 2) (sSet 1 (mBin mulD (mVar 1) (mVar 2))) (a.map D.int) [y0, some (.int t), y2] S = .ok .next [y0, some (.int (a.foldl (fun t n => t * n) t)), y2'] S
  | [], t, y2, _ => ⟨y2, rfl⟩
  | n :: a, t, y2, h => by
    have hn := h n List.mem_cons_self
    obtain ⟨y2', e⟩ := pr_loop (y0 := y0) a (t * n) (some (.int n)) fun x hx => h x (List.mem_cons_of_mem _ hx)
    refine ⟨y2', ?_⟩
    have c : (-(2 ^ 64 : Int) < t ∧ t < 2 ^ 64) ∨ (-(2 ^ 64 : Int) < n ∧ n < 2 ^ 64) := .inr ⟨by omega, by omega⟩
    have q : mulD (.int t) (.int n) S = some (.int (t * n)) := by
      show (if _ then _ else _) = _
      rw [if_pos c]
    rw [List.map_cons, loop_step (r1 := [y0, some (.int t), some (.int n)]) (S2 := S) (r2 := [y0, some (.int (t * n)), some (.int n)]) rfl (set_of (bin_of (var_of rfl) (var_of rfl) q))]
    exact e
theorem pr_ok {a : List Int} (h : ∀ n ∈ a, -100 ≤ n ∧ n ≤ 100) : FPr [lD a] S = .ok (.int (prL a)) S := by
  obtain ⟨y2, e⟩ := pr_loop (S := S) (y0 := some (lD a)) a 1 none h
  refine fn_ret rfl ⟨[some (lD a), some (.int (prL a)), y2], ?_⟩
  show mPr [some (lD a), none, none] S = _
  unfold mPr
  rw [seq_next (r1 := [some (lD a), some (.int 1), none]) (S1 := S) (set_of rfl)]
  have s2 : (sFor (mIter (mVar 0)) (tgN 2) (sSet 1 (mBin mulD (mVar 1) (mVar 2)))) [some (lD a), some (.int 1), none] S = .ok .next [some (lD a), some (.int (prL a)), y2] S := by
    rw [for_of (ds := a.map D.int) (iter_of (var_of rfl) rfl)]
    exact e
  rw [seq_next s2]
  exact ret_of (var_of rfl)
def smL (a : List Int) : Int := a.sum
def sumG (l : List (List Int)) : Int := (l.map prL).sum
def mxL (l : List Int) : Int := (maxI l).getD 0
def maxG (l : List (List Int)) : Int := mxL (l.map smL)
theorem maxI_some : ∀ {l : List Int}, l ≠ [] → maxI l = some (mxL l)
  | [], h => absurd rfl h
  | [x], _ => rfl
  | x :: y :: l, _ => by
    have := maxI_some (l := y :: l) (by simp)
    unfold mxL
    show (maxI (y :: l)).map _ = some (((maxI (y :: l)).map _).getD 0)
    rw [this]
    rfl
def outD (G : List Gp) (g : List (List Int) → Int) : D := .tup ((gsrt G).map fun h => .tup [rowD h, .int (g (lkG G h))])
theorem clo_out (m : Nat) (G : List Gp) (g : List (List Int) → Int) : clo m (outD G g) = true := by
  show cloL m _ = true
  refine (cloL_iff m _).mpr fun d hd => ?_
  obtain ⟨h, _, rfl⟩ := List.mem_map.mp hd
  show (clo m (rowD h) && (true && true)) = true
  rw [show clo m (rowD h) = true from cloL_ints m h]
  rfl
theorem sum_ok {G : List Gp} {k : Nat} (h : GpOk hd k G) (nd : (G.map (·.1)).Nodup) (hk : k ≤ 4000) {d : D} (e : FHd w [.tup (tb.map tabD), viewD hd as, d] S = .ok (.dtt (gK G)) S) : FSum w [.tup (tb.map tabD), viewD hd as, d] S = .ok (outD G sumG) S := by
  refine fn_ret (clo_out _ _ _) ⟨[some (.tup (tb.map tabD)), some (viewD hd as), some d, some (.dtt (gK G)), none, none], ?_⟩
  show mSum w [some (.tup (tb.map tabD)), some (viewD hd as), some d, none, none, none] S = _
  unfold mSum
  rw [seq_next (r1 := [some (.tup (tb.map tabD)), some (viewD hd as), some d, some (.dtt (gK G)), none, none]) (S1 := S) (set_of (run_app (cons_of (var_of rfl) (cons_of (var_of rfl) (cons_of (var_of rfl) rfl))) rfl e))]
  refine ret_of (call_of (ds := [.lst ((gsrt G).map fun h => .tup [rowD h, .int (sumG (lkG G h))])]) (cons_of (lc_of (iter_of (call_of (cons_of (var_of rfl) rfl) (srt_gK h nd hk)) rfl) ?_) rfl) rfl)
  refine lc_all (gm := tgN 4) rowD (fun h => D.tup [rowD h, .int (sumG (lkG G h))]) (gsrt G) fun r hr => ⟨[some (.tup (tb.map tabD)), some (viewD hd as), some d, some (.dtt (gK G)), some (rowD r), none], rfl, ?_⟩
  obtain ⟨p, hp, e1, e2⟩ := lk_mem hr
  refine tup_of (cons_of (var_of rfl) (cons_of (call_of (ds := [.lst (((lkG G r).map prL).map D.int)]) (cons_of (lc_of (iter_of (bin_of (var_of rfl) (var_of rfl) (get_gK hr)) rfl) ?_) rfl) (sumD_ints _)) rfl)) (show 2 ≤ 100000 by decide)
  rw [List.map_map]
  refine lc_all (gm := tgN 5) lD (D.int ∘ prL) (lkG G r) fun a ha => ⟨[some (.tup (tb.map tabD)), some (viewD hd as), some d, some (.dtt (gK G)), some (rowD r), some (lD a)], rfl, ?_⟩
  exact run_app (cons_of (var_of rfl) rfl) rfl (pr_ok (h.sm p hp a (by rw [← e2]; exact ha)))
theorem grt_ok {G : List Gp} {k : Nat} (h : GpOk hd k G) (nd : (G.map (·.1)).Nodup) (hk : k ≤ 4000) {d : D} (e : FHd w [.tup (tb.map tabD), viewD hd as, d] S = .ok (.dtt (gK G)) S) : FGrt w [.tup (tb.map tabD), viewD hd as, d] S = .ok (outD G maxG) S := by
  refine fn_ret (clo_out _ _ _) ⟨[some (.tup (tb.map tabD)), some (viewD hd as), some d, some (.dtt (gK G)), none, none], ?_⟩
  show mGrt w [some (.tup (tb.map tabD)), some (viewD hd as), some d, none, none, none] S = _
  unfold mGrt
  rw [seq_next (r1 := [some (.tup (tb.map tabD)), some (viewD hd as), some d, some (.dtt (gK G)), none, none]) (S1 := S) (set_of (run_app (cons_of (var_of rfl) (cons_of (var_of rfl) (cons_of (var_of rfl) rfl))) rfl e))]
  refine ret_of (call_of (ds := [.lst ((gsrt G).map fun h => .tup [rowD h, .int (maxG (lkG G h))])]) (cons_of (lc_of (iter_of (call_of (cons_of (var_of rfl) rfl) (srt_gK h nd hk)) rfl) ?_) rfl) rfl)
  refine lc_all (gm := tgN 4) rowD (fun h => D.tup [rowD h, .int (maxG (lkG G h))]) (gsrt G) fun r hr => ⟨[some (.tup (tb.map tabD)), some (viewD hd as), some d, some (.dtt (gK G)), some (rowD r), none], rfl, ?_⟩
  obtain ⟨p, hp, e1, e2⟩ := lk_mem hr
  have mx : maxD [.lst (((lkG G r).map smL).map D.int)] S = some (.int (maxG (lkG G r))) := by
    rw [maxD_ints, maxI_some (by
      rw [e2]
      exact fun z => h.ne p hp (List.map_eq_nil_iff.mp z))]
    rfl
  refine tup_of (cons_of (var_of rfl) (cons_of (call_of (ds := [.lst (((lkG G r).map smL).map D.int)]) (cons_of (lc_of (iter_of (bin_of (var_of rfl) (var_of rfl) (get_gK hr)) rfl) ?_) rfl) mx) rfl)) (show 2 ≤ 100000 by decide)
  rw [List.map_map]
  refine lc_all (gm := tgN 5) lD (D.int ∘ smL) (lkG G r) fun a ha => ⟨[some (.tup (tb.map tabD)), some (viewD hd as), some d, some (.dtt (gK G)), some (rowD r), some (lD a)], rfl, ?_⟩
  exact call_of (cons_of (var_of rfl) rfl) (sumD_ints _)
def pick (acc : Option (List Int × Int)) (p : List Int × Int) : Option (List Int × Int) := match acc with
  | none => some p
  | some q => if q.2 < p.2 then some p else some q
theorem argBest_le (bt : Nat → Nat → Bool) : ∀ k, argBest bt k ≤ k
  | 0 => Nat.le_refl _
  | k + 1 => by
    unfold argBest
    have := argBest_le bt k
    split <;> omega
theorem pick_best (ps : List (List Int × Int)) : ∀ k, k < ps.length → (ps.take (k + 1)).foldl pick none = ps[argBest (btG (ps.map (·.2))) k]?
  | 0, h => by
    cases ps with
    | nil => simp at h
    | cons p ps => rfl
  | k + 1, h => by
    have ih := pick_best ps k (by omega)
    have le := argBest_le (btG (ps.map (·.2))) k
    rw [List.take_succ, List.foldl_append, ih, List.getElem?_eq_getElem h]
    have hb : argBest (btG (ps.map (·.2))) k < ps.length := by omega
    rw [List.getElem?_eq_getElem hb]
    show pick (some _) _ = _
    have e1 : (ps.map (·.2)).getD (argBest (btG (ps.map (·.2))) k) 0 = (ps[argBest (btG (ps.map (·.2))) k]).2 := by
      rw [List.getD_eq_getElem?_getD, List.getElem?_map, List.getElem?_eq_getElem hb]
      rfl
    have e2 : (ps.map (·.2)).getD (k + 1) 0 = (ps[k + 1]).2 := by
      rw [List.getD_eq_getElem?_getD, List.getElem?_map, List.getElem?_eq_getElem h]
      rfl
    have eb : btG (ps.map (·.2)) (k + 1) (argBest (btG (ps.map (·.2))) k) = decide ((ps[argBest (btG (ps.map (·.2))) k]).2 < (ps[k + 1]).2) := by
      show decide ((ps.map (·.2)).getD (argBest (btG (ps.map (·.2))) k) 0 < (ps.map (·.2)).getD (k + 1) 0) = _
      rw [e1, e2]
    have ea : argBest (btG (ps.map (·.2))) (k + 1) = if btG (ps.map (·.2)) (k + 1) (argBest (btG (ps.map (·.2))) k) then k + 1 else argBest (btG (ps.map (·.2))) k := rfl
    rw [ea, eb]
    unfold pick
    by_cases c : (ps[argBest (btG (ps.map (·.2))) k]).2 < (ps[k + 1]).2
    · simp only [c, if_true, decide_true]
      rw [List.getElem?_eq_getElem h]
    · simp only [c, if_false, decide_false, Bool.false_eq_true]
      rw [List.getElem?_eq_getElem hb]
def psG (G : List Gp) (g : List (List Int) → Int) : List (List Int × Int) := (gsrt G).map fun h => (h, g (lkG G h))
def pairD2 (p : List Int × Int) : D := .tup [rowD p.1, .int p.2]
def bestO (G : List Gp) : Option (List Int × Int) := (psG G maxG).foldl pick none
def optD : Option (List Int × Int) → D
  | none => .non
  | some p => pairD2 p
theorem out_ps (G : List Gp) (g : List (List Int) → Int) : outD G g = .tup ((psG G g).map pairD2) := by
  unfold outD psG
  rw [List.map_map]
  rfl
theorem keys1_ps : ∀ ps : List (List Int × Int), keys1 (ps.map pairD2) = some (ps.map (·.2))
  | [] => rfl
  | p :: ps => by
    show (match key1 (pairD2 p), keys1 (ps.map pairD2) with
      | some z, some zs => some (z :: zs)
      | _, _ => none) = _
    rw [keys1_ps ps]
    rfl
theorem best_ok {G : List Gp} {d : D} (e : FGrt w [.tup (tb.map tabD), viewD hd as, d] S = .ok (outD G maxG) S) (h0 : S[0]? = some (.tbl "best" "best.<locals>.<lambda>")) : FBest w [.tup (tb.map tabD), viewD hd as, d] S = .ok (optD (bestO G)) S := by
  have cl : clo S.length (optD (bestO G)) = true := by
    cases bestO G with
    | none => rfl
    | some p =>
      show (clo _ (rowD p.1) && (true && true)) = true
      rw [show clo S.length (rowD p.1) = true from cloL_ints _ _]
      rfl
  refine fn_ret cl ⟨[some (.tup (tb.map tabD)), some (viewD hd as), some d, some (outD G maxG)], ?_⟩
  show mBest w [some (.tup (tb.map tabD)), some (viewD hd as), some d, none] S = _
  unfold mBest
  rw [seq_next (r1 := [some (.tup (tb.map tabD)), some (viewD hd as), some d, some (outD G maxG)]) (S1 := S) (set_of (run_app (cons_of (var_of rfl) (cons_of (var_of rfl) (cons_of (var_of rfl) rfl))) rfl e))]
  refine ret_of ?_
  rw [out_ps]
  cases hp : psG G maxG with
  | nil =>
    have : bestO G = none := by
      unfold bestO
      rw [hp]
      rfl
    rw [this]
    exact ife_f (tru_of (v := .tup []) (var_of rfl) rfl) rfl
  | cons p ps =>
    have hb : bestO G = (p :: ps)[argBest (btG ((p :: ps).map (·.2))) ps.length]? := by
      unfold bestO
      rw [hp, ← pick_best (p :: ps) ps.length (by simp)]
      rw [List.take_of_length_le (by simp)]
    have lt : argBest (btG ((p :: ps).map (·.2))) ps.length < (p :: ps).length := Nat.lt_of_le_of_lt (argBest_le _ _) (Nat.lt_succ_self _)
    rw [List.getElem?_eq_getElem lt] at hb
    refine ife_t (tru_of (v := .tup ((p :: ps).map pairD2)) (var_of rfl) rfl) ?_
    rw [mMaxLam_ap]
    have ea : (mCons (mVar 3) mNil) [some (.tup (tb.map tabD)), some (viewD hd as), some d, some (.tup ((p :: ps).map pairD2))] S = .ok [.tup ((p :: ps).map pairD2)] S := rfl
    rw [ea]
    show ofO (maxLamD "best" "best.<locals>.<lambda>" 0 [.tup ((p :: ps).map pairD2)] S) S = _
    have em : maxLamD "best" "best.<locals>.<lambda>" 0 [.tup ((p :: ps).map pairD2)] S = some (optD (bestO G)) := by
      unfold maxLamD
      simp only [h0]
      rw [keys1_ps]
      simp only [true_and]
      rw [if_pos (by simp), List.length_map]
      show ((p :: ps).map pairD2)[argBest (btG ((p :: ps).map (·.2))) ((p :: ps).length - 1)]? = _
      rw [show (p :: ps).length - 1 = ps.length from rfl, List.getElem?_map, List.getElem?_eq_getElem lt, hb]
      rfl
    rw [em]
    rfl
end
end Aw
namespace Aw
open PySem L2 Dv Fv Sx
def tbI (w : World) : SM := (sSeq (sSet 14 (mGetPr w (mVar 2) (mTup (mCons (mVar 12) (mCons (mApp 2 FLPut (mCons (mVar 13) (mCons (mVar 9) mNil))) mNil))) (mC (.int 1))))
    (sPar 10 11 (mCons (mBin mulD (mVar 10) (mVar 14)) (mCons (mBin addD (mVar 11) (mVar 14)) mNil))))
def tbP : SM := sDPutT (mVar 6) (mVar 8) (mBin addD (mDGet2T (mVar 6) (mVar 8) (mC (.int 0))) (mVar 10))
def tbQ : SM := sDPutT (mVar 7) (mVar 8) (mCall max2D (mCons (mDGet2T (mVar 7) (mVar 8) (mVar 11)) (mCons (mVar 11) mNil)))
def tbB (w : World) : SM := (sSeq (sPar3 9 10 11 (mCons (mCall dictZipD (mCons (mVar 5) (mCons (mVar 3) mNil))) (mCons (mC (.int 1)) (mCons (mC (.int 0)) mNil))))
    (sSeq (sFor (mIter (mBin ixD (mVar 1) (mC (.int 1)))) (tgT 2 (tgsCons (tgN 12) (tgsCons (tgN 13) tgsNil))) (tbI w))
    (sSeq (sSet 8 (mApp 2 FLPut (mCons (mBin ixD (mVar 1) (mC (.int 0))) (mCons (mVar 9) mNil))))
    (sSeq tbP tbQ))))
def mTab (w : World) : SM :=
    (sSeq (sAsg (mTup (mCons (mApp 1 FLNames (mCons (mTup (mCons (mBin ixD (mVar 1) (mC (.int 1))) (mCons (mTup mNil) mNil))) mNil)) (mCons mNewDT0 (mCons mNewDT0 mNil)))) (tgT 3 (tgsCons (tgN 5) (tgsCons (tgN 6) (tgsCons (tgN 7) tgsNil)))))
    (sSeq (sFor (mIter (mApp 2 FLAns (mCons (mVar 0) (mCons (mTup (mCons (mBin ixD (mVar 1) (mC (.int 1))) (mCons (mTup mNil) mNil))) mNil)))) (tgN 3) (tbB w))
    (sSeq (sSet 4 (mCall tupD (mCons (mLc (mIter (mCall sortDtD (mCons (mVar 6) mNil))) [3] (tgN 3) mYes (mTup (mCons (mVar 3) (mCons (mBin dgetTD (mVar 6) (mVar 3)) mNil)))) mNil)))
    (sRet (mTup (mCons (mVar 4) (mCons (mCall tupD (mCons (mLc (mIter (mCall sortDtD (mCons (mVar 7) mNil))) [3] (tgN 3) mYes (mTup (mCons (mVar 3) (mCons (mBin dgetTD (mVar 7) (mVar 3)) mNil)))) mNil)) mNil)))))))
def FTab (w : World) : List D → Store → R D := runT 15 (mTab w)
section
variable {tb : List Bt} {as : List At} {hd : List Tm} {S W : Store} {w : World} {T : List (Pr × Int)}
theorem put_ev (f : Str → Int) {ts : List Tm} (h : ∀ x, Tm.nm x ∈ ts → x ∈ nms as) : FLPut [.tup (ts.map trD), .dct (Ld.kZ (nms as) (((nms as).map f).map D.int))] S = .ok (rowD (ts.map (ev f))) S := by
  have hr : ((nms as).map f).length = (nms as).length := List.length_map ..
  have g := Ld.gvn (as := as) hr
  have e := Ld.putG_ok (S := S) (kds := Ld.kZ (nms as) (((nms as).map f).map D.int)) (f := fun x => D.int (f x)) (ts := ts) fun x hx => by
    have v := g.val (S := S) (mem_nms.mp (h x hx))
    have ef : Ld.fK (nms as) (((nms as).map f).map D.int) x = D.int (f x) := by
      have := Ld.fK_map (f := f) (nodup_nms as) (h x hx)
      rw [List.map_map]
      exact this
    rw [ef] at v
    exact ⟨v.1, rfl⟩
  rw [e]
  have : ts.map (Ld.pt fun x => D.int (f x)) = (ts.map (ev f)).map D.int := by
    rw [List.map_map]
    refine List.map_congr_left fun t _ => ?_
    cases t <;> rfl
  rw [this]
  rfl
abbrev TE (w : World) (tb : List Bt) (hd : List Tm) (as : List At) (t p q : Nat) (y3 y8 y9 y10 y11 y12 y13 y14 : Option D) : Dv.Env := [some (.tup (tb.map tabD)), some (viewD hd as), some (.loc t), y3, none, some (.lst ((nms as).map D.str)), some (.loc p), some (.loc q), y8, y9, y10, y11, y12, y13, y14]
theorem tbI_ok (f : Str → Int) {t p q : Nat} (ht : W[t]? = some (.dpr w (tbD T))) (sm : Sml T) {a : At} (ha : a ∈ as) {x z : Int} {y3 y8 y14 : Option D} :
    ∃ v14, tbI w (TE w tb hd as t p q y3 y8 (some (.dct (Ld.kZ (nms as) (((nms as).map f).map D.int)))) (some (.int x)) (some (.int z)) (some (.str a.w)) (some (.tup (a.ts.map trD))) y14) W = .ok .next (TE w tb hd as t p q y3 y8 (some (.dct (Ld.kZ (nms as) (((nms as).map f).map D.int)))) (some (.int (x * lkT T (a.w, a.ts.map (ev f))))) (some (.int (z + lkT T (a.w, a.ts.map (ev f))))) (some (.str a.w)) (some (.tup (a.ts.map trD))) v14) W := by
  have pu := put_ev (S := W) (as := as) f (ts := a.ts) fun x hx => mem_nms.mpr (mem_usd.mpr ⟨a, ha, hx⟩)
  have sm1 := sm (a.w, a.ts.map (ev f))
  refine ⟨some (.int (lkT T (a.w, a.ts.map (ev f)))), ?_⟩
  unfold tbI
  have s1 : (sSet 14 (mGetPr w (mVar 2) (mTup (mCons (mVar 12) (mCons (mApp 2 FLPut (mCons (mVar 13) (mCons (mVar 9) mNil))) mNil))) (mC (.int 1)))) (TE w tb hd as t p q y3 y8 (some (.dct (Ld.kZ (nms as) (((nms as).map f).map D.int)))) (some (.int x)) (some (.int z)) (some (.str a.w)) (some (.tup (a.ts.map trD))) y14) W = .ok .next (TE w tb hd as t p q y3 y8 (some (.dct (Ld.kZ (nms as) (((nms as).map f).map D.int)))) (some (.int x)) (some (.int z)) (some (.str a.w)) (some (.tup (a.ts.map trD))) (some (.int (lkT T (a.w, a.ts.map (ev f)))))) W := by
    refine set_of ?_
    have mk : (mTup (mCons (mVar 12) (mCons (mApp 2 FLPut (mCons (mVar 13) (mCons (mVar 9) mNil))) mNil))) (TE w tb hd as t p q y3 y8 (some (.dct (Ld.kZ (nms as) (((nms as).map f).map D.int)))) (some (.int x)) (some (.int z)) (some (.str a.w)) (some (.tup (a.ts.map trD))) y14) W = .ok (pairD (a.w, a.ts.map (ev f))) W :=
      tup_of (cons_of (var_of rfl) (cons_of (run_app (cons_of (var_of rfl) (cons_of (var_of rfl) rfl)) rfl pu) rfl)) (show 2 ≤ 100000 by decide)
    have hdp := dprAt_loc (w := w) ht
    unfold mGetPr
    simp only [mVar_ap]
    show (R.ok (D.loc t) W).bind _ = _
    rw [R.bind_ok, hdp]
    simp only [Option.isSome_some, if_true]
    rw [mk, R.bind_ok]
    show (R.ok (D.int 1) W).bind _ = _
    rw [R.bind_ok, hdp, prOf_pair]
    simp only [val_tb]
  rw [seq_next s1]
  have q1 : mulD (.int x) (.int (lkT T (a.w, a.ts.map (ev f)))) W = some (.int (x * lkT T (a.w, a.ts.map (ev f)))) := by
    show (if _ then _ else _) = _
    rw [if_pos (.inr ⟨by omega, by omega⟩)]
  exact par_of (cons_of (bin_of (var_of rfl) (var_of rfl) q1) (cons_of (bin_of (var_of rfl) (var_of rfl) rfl) rfl))
theorem tbI_loop (f : Str → Int) {t p q : Nat} (ht : W[t]? = some (.dpr w (tbD T))) (sm : Sml T) {y3 y8 : Option D} : ∀ (bs : List At) (x z : Int) (y12 y13 y14 : Option D), (∀ a ∈ bs, a ∈ as) →
    ∃ v12 v13 v14, sLoop (tgT 2 (tgsCons (tgN 12) (tgsCons (tgN 13) tgsNil))) (tbI w) (bs.map atD) (TE w tb hd as t p q y3 y8 (some (.dct (Ld.kZ (nms as) (((nms as).map f).map D.int)))) (some (.int x)) (some (.int z)) y12 y13 y14) W = .ok .next (TE w tb hd as t p q y3 y8 (some (.dct (Ld.kZ (nms as) (((nms as).map f).map D.int)))) (some (.int ((bs.map fun a => lkT T (a.w, a.ts.map (ev f))).foldl (fun t n => t * n) x))) (some (.int ((bs.map fun a => lkT T (a.w, a.ts.map (ev f))).foldl (fun t n => t + n) z))) v12 v13 v14) W
  | [], x, z, y12, y13, y14, _ => ⟨y12, y13, y14, rfl⟩
  | a :: bs, x, z, y12, y13, y14, h => by
    obtain ⟨v14, e⟩ := tbI_ok (tb := tb) (hd := hd) (p := p) (q := q) f ht sm (h a List.mem_cons_self) (x := x) (z := z) (y3 := y3) (y8 := y8) (y14 := y14)
    obtain ⟨u12, u13, u14, e2⟩ := tbI_loop f ht sm (y3 := y3) (y8 := y8) bs (x * lkT T (a.w, a.ts.map (ev f))) (z + lkT T (a.w, a.ts.map (ev f))) (some (.str a.w)) (some (.tup (a.ts.map trD))) v14 fun b hb => h b (List.mem_cons_of_mem _ hb)
    refine ⟨u12, u13, u14, ?_⟩
    rw [List.map_cons, loop_step (r1 := TE w tb hd as t p q y3 y8 (some (.dct (Ld.kZ (nms as) (((nms as).map f).map D.int)))) (some (.int x)) (some (.int z)) (some (.str a.w)) (some (.tup (a.ts.map trD))) y14) rfl e, e2]
    rfl
def iK (G : List Gp) (g : List (List Int) → Int) : List (List Key × D) := G.map fun p => (p.1.map Sum.inl, .int (g p.2))
theorem any_iK (G : List Gp) (g : List (List Int) → Int) (h : List Int) : ((iK G g).any fun kv => decide (kv.1 = h.map Sum.inl)) = G.any fun p => decide (p.1 = h) := by
  unfold iK
  rw [List.any_map]
  congr 1
  funext p
  show decide ((p.1.map Sum.inl : List Key) = h.map Sum.inl) = decide (p.1 = h)
  by_cases e : p.1 = h
  · rw [decide_eq_true e, decide_eq_true (by rw [e])]
  · rw [decide_eq_false e, decide_eq_false fun z => e (Ld.inl_inj z)]
theorem put_iK {G : List Gp} (nd : (G.map (·.1)).Nodup) {g : List (List Int) → Int} {h a : List Int} {x : Int} (hx : x = g (lkG G h ++ [a])) : putTD (iK G g) (h.map Sum.inl) (.int x) = iK (gAdd G h a) g := by
  unfold putTD gAdd
  rw [any_iK]
  split
  · rename_i hany
    unfold iK
    rw [List.map_map, List.map_map]
    refine List.map_congr_left fun p hp => ?_
    show (if (p.1.map Sum.inl : List Key) = h.map Sum.inl then (p.1.map Sum.inl, D.int x) else (p.1.map Sum.inl, D.int (g p.2))) = ((if p.1 = h then (p.1, p.2 ++ [a]) else p).1.map Sum.inl, D.int (g (if p.1 = h then (p.1, p.2 ++ [a]) else p).2))
    by_cases e : p.1 = h
    · rw [if_pos (by rw [e]), if_pos e, hx]
      have : lkG G h = p.2 := by
        unfold lkG
        cases hf : G.find? fun p => decide (p.1 = h) with
        | none =>
          have := List.find?_eq_none.mp hf p hp
          simp [e] at this
        | some p' =>
          have h1 := List.mem_of_find?_eq_some hf
          have h2 : p'.1 = h := of_decide_eq_true (List.find?_some (p := fun p : Gp => decide (p.1 = h)) hf)
          rw [inj_map nd h1 hp (h2.trans e.symm)]
          rfl
      rw [this]
    · rw [if_neg fun z => e (Ld.inl_inj z), if_neg e]
  · rename_i hany
    unfold iK
    rw [List.map_append]
    have : lkG G h = [] := by
      unfold lkG
      cases hf : G.find? fun p => decide (p.1 = h) with
      | none => rfl
      | some p' =>
        exact absurd (List.any_eq_true.mpr ⟨p', List.mem_of_find?_eq_some hf, decide_eq_true (of_decide_eq_true (List.find?_some (p := fun p : Gp => decide (p.1 = h)) hf))⟩) hany
    rw [this] at hx
    rw [hx]
    rfl
theorem iK_len (G : List Gp) (g : List (List Int) → Int) : (iK G g).length = G.length := List.length_map ..
theorem dtt_at {S : Store} {n : Nat} {kds : List (List Key × D)} (h : S[n]? = some (.dtt kds)) : dttAt (.loc n) S = some kds := by
  rw [dttAt_loc, h]
theorem get2_ok {r : Dv.Env} {i j n : Nat} {h : List Int} {kds : List (List Key × D)} {m : EM} {d z : D} (hi : r[i]? = some (some (.loc n))) (hj : r[j]? = some (some (rowD h))) (hS : W[n]? = some (.dtt kds)) (hm : m r W = .ok z W) (hv : (valTD kds (h.map Sum.inl)).getD z = d) : mDGet2T (mVar i) (mVar j) m r W = .ok d W := by
  unfold mDGet2T
  have tk : tkeyOf (rowD h) = some (h.map Sum.inl) := Ld.keysL_ints h
  simp only [mVar_ap, hi, hj, rb_ok, dtt_at hS, Option.isSome_some, if_true, hm, tk, hv]
theorem putT_ok {r : Dv.Env} {i j n : Nat} {h : List Int} {kds : List (List Key × D)} {m : EM} {z : D} (hi : r[i]? = some (some (.loc n))) (hj : r[j]? = some (some (rowD h))) (hS : W[n]? = some (.dtt kds)) (hm : m r W = .ok z W) (hl : kds.length < 90000) : sDPutT (mVar i) (mVar j) m r W = .ok .next r (W.set n (.dtt (putTD kds (h.map Sum.inl) z))) := by
  have tk : tkeyOf (rowD h) = some (h.map Sum.inl) := Ld.keysL_ints h
  rw [sDPutT_ap, hm]
  simp only [mVar_ap, hi, hj]
  show dputTD (.loc n) (rowD h) z r W = _
  unfold dputTD
  simp only [hS, tk, hl, if_true]
theorem mx_snoc {l : List Int} (h : l ≠ []) (x : Int) : mxL (l ++ [x]) = if x > mxL l then x else mxL l := by
  have e1 := maxI_some h
  have e2 := maxI_some (l := l ++ [x]) (by simp)
  obtain ⟨a1, a2⟩ := maxI_ok e1
  obtain ⟨b1, b2⟩ := maxI_ok e2
  have c1 := b2 x (by simp)
  have c2 := b2 (mxL l) (List.mem_append_left _ a1)
  rcases List.mem_append.mp b1 with hb | hb
  · have := a2 _ hb
    split <;> omega
  · have hb : mxL (l ++ [x]) = x := by simpa using hb
    split <;> omega
theorem max_snoc {l : List (List Int)} (h : l ≠ []) (a : List Int) : maxG (l ++ [a]) = if a.sum > maxG l then a.sum else maxG l := by
  unfold maxG
  rw [List.map_append]
  exact mx_snoc (fun z => h (List.map_eq_nil_iff.mp z)) a.sum
theorem sum_snoc (l : List (List Int)) (a : List Int) : sumG (l ++ [a]) = sumG l + prL a := by
  unfold sumG
  rw [List.map_append, List.sum_append]
  simp
theorem add_fold (a : List Int) : ∀ z, a.foldl (fun t n => t + n) z = z + a.sum := by
  induction a with
  | nil => intro z; simp
  | cons n a ih =>
    intro z
    rw [List.foldl_cons, ih, List.sum_cons]
    omega
structure Ts (S W : Store) (t : Nat) (w : World) (T : List (Pr × Int)) (G : List Gp) : Prop where
  len : W.length = S.length + 2
  keep : ∀ i, i < S.length → W[i]? = S[i]?
  P : W[S.length]? = some (.dtt (iK G sumG))
  Q : W[S.length + 1]? = some (.dtt (iK G maxG))
theorem tbB_ok (v : Ld.Vw hd as) (f : Str → Int) {t : Nat} (ht : S[t]? = some (.dpr w (tbD T))) (sm : Sml T) {G : List Gp} (nd : (G.map (·.1)).Nodup) {k : Nat} (ok : GpOk hd k G) (hk : k ≤ 1000) (h : Ts S W t w T G) {y8 y9 y10 y11 y12 y13 y14 : Option D} :
    ∃ W' v9 v10 v11 v12 v13 v14, tbB w (TE w tb hd as t S.length (S.length + 1) (some (rowD ((nms as).map f))) y8 y9 y10 y11 y12 y13 y14) W = .ok .next (TE w tb hd as t S.length (S.length + 1) (some (rowD ((nms as).map f))) (some (rowD (hd.map (ev f)))) v9 v10 v11 v12 v13 v14) W' ∧ Ts S W' t w T (gAdd G (hd.map (ev f)) (amF T as f)) := by
  have htl := (List.getElem?_eq_some_iff.mp ht).1
  have htW : W[t]? = some (.dpr w (tbD T)) := (h.keep t htl).trans ht
  have dz : dictZipD [.lst ((nms as).map D.str), rowD ((nms as).map f)] W = some (.dct (Ld.kZ (nms as) (((nms as).map f).map D.int))) := by
    show dictZipD [.lst ((nms as).map D.str), .tup (((nms as).map f).map D.int)] W = _
    rw [dictZipD_ap, keysOf_strs]
    show some (D.dct (mergeKD [] (((nms as).map Sum.inr).zip (((nms as).map f).map D.int)))) = _
    rw [Ld.merge_kZ (nodup_nms as)]
  have v0 : ixD (viewD hd as) (.int 0) W = some (.tup (hd.map trD)) := Ld.view_ix0
  have v1 : ixD (viewD hd as) (.int 1) W = some (.tup (as.map atD)) := Ld.view_ix1
  have s1 : (sPar3 9 10 11 (mCons (mCall dictZipD (mCons (mVar 5) (mCons (mVar 3) mNil))) (mCons (mC (.int 1)) (mCons (mC (.int 0)) mNil)))) (TE w tb hd as t S.length (S.length + 1) (some (rowD ((nms as).map f))) y8 y9 y10 y11 y12 y13 y14) W = .ok .next (TE w tb hd as t S.length (S.length + 1) (some (rowD ((nms as).map f))) y8 (some (.dct (Ld.kZ (nms as) (((nms as).map f).map D.int)))) (some (.int 1)) (some (.int 0)) y12 y13 y14) W :=
    par3_of (cons_of (call_of (cons_of (var_of rfl) (cons_of (var_of rfl) rfl)) dz) (cons_of rfl (cons_of rfl rfl)))
  obtain ⟨u12, u13, u14, e2⟩ := tbI_loop (tb := tb) (hd := hd) (p := S.length) (q := S.length + 1) f htW sm (y3 := some (rowD ((nms as).map f))) (y8 := y8) as 1 0 y12 y13 y14 fun a ha => ha
  have s2 : (sFor (mIter (mBin ixD (mVar 1) (mC (.int 1)))) (tgT 2 (tgsCons (tgN 12) (tgsCons (tgN 13) tgsNil))) (tbI w)) (TE w tb hd as t S.length (S.length + 1) (some (rowD ((nms as).map f))) y8 (some (.dct (Ld.kZ (nms as) (((nms as).map f).map D.int)))) (some (.int 1)) (some (.int 0)) y12 y13 y14) W = .ok .next (TE w tb hd as t S.length (S.length + 1) (some (rowD ((nms as).map f))) y8 (some (.dct (Ld.kZ (nms as) (((nms as).map f).map D.int)))) (some (.int (prL (amF T as f)))) (some (.int (amF T as f).sum)) u12 u13 u14) W := by
    have it : mIter (mBin ixD (mVar 1) (mC (.int 1))) (TE w tb hd as t S.length (S.length + 1) (some (rowD ((nms as).map f))) y8 (some (.dct (Ld.kZ (nms as) (((nms as).map f).map D.int)))) (some (.int 1)) (some (.int 0)) y12 y13 y14) W = .ok (as.map atD) W := iter_of (bin_of (var_of rfl) rfl v1) rfl
    rw [for_of it, e2]
    rw [add_fold, Int.zero_add]
    rfl
  have pu := put_ev (S := W) (as := as) f (ts := hd) fun x hx => by
    rcases v.hd _ hx with ⟨_, e, _⟩ | ⟨y, hy, e⟩
    · cases e
    · cases e
      exact mem_nms.mpr hy
  have s3 : (sSet 8 (mApp 2 FLPut (mCons (mBin ixD (mVar 1) (mC (.int 0))) (mCons (mVar 9) mNil)))) (TE w tb hd as t S.length (S.length + 1) (some (rowD ((nms as).map f))) y8 (some (.dct (Ld.kZ (nms as) (((nms as).map f).map D.int)))) (some (.int (prL (amF T as f)))) (some (.int (amF T as f).sum)) u12 u13 u14) W = .ok .next (TE w tb hd as t S.length (S.length + 1) (some (rowD ((nms as).map f))) (some (rowD (hd.map (ev f)))) (some (.dct (Ld.kZ (nms as) (((nms as).map f).map D.int)))) (some (.int (prL (amF T as f)))) (some (.int (amF T as f).sum)) u12 u13 u14) W :=
    set_of (run_app (cons_of (bin_of (var_of rfl) rfl v0) (cons_of (var_of rfl) rfl)) rfl pu)
  have gl : (iK G sumG).length < 90000 := by rw [iK_len]; have := ok.len; omega
  have gl2 : (iK G maxG).length < 90000 := by rw [iK_len]; have := ok.len; omega
  generalize hr : (TE w tb hd as t S.length (S.length + 1) (some (rowD ((nms as).map f))) (some (rowD (hd.map (ev f)))) (some (.dct (Ld.kZ (nms as) (((nms as).map f).map D.int)))) (some (.int (prL (amF T as f)))) (some (.int (amF T as f).sum)) u12 u13 u14) = r at s3
  have r6 : r[6]? = some (some (.loc S.length)) := by rw [← hr]; rfl
  have r7 : r[7]? = some (some (.loc (S.length + 1))) := by rw [← hr]; rfl
  have r8 : r[8]? = some (some (rowD (hd.map (ev f)))) := by rw [← hr]; rfl
  have r10 : r[10]? = some (some (.int (prL (amF T as f)))) := by rw [← hr]; rfl
  have r11 : r[11]? = some (some (.int (amF T as f).sum)) := by rw [← hr]; rfl
  have find : ∀ g : List (List Int) → Int, valTD (iK G g) ((hd.map (ev f)).map Sum.inl) = (G.find? fun p => decide (p.1 = hd.map (ev f))).map fun p => D.int (g p.2) := fun g => val_map G (fun l => D.int (g l)) _
  have s4 : tbP r W = .ok .next r (W.set S.length (.dtt (iK (gAdd G (hd.map (ev f)) (amF T as f)) sumG))) := by
    have hv : (valTD (iK G sumG) ((hd.map (ev f)).map Sum.inl)).getD (.int 0) = .int (sumG (lkG G (hd.map (ev f)))) := by
      rw [find]
      unfold lkG
      cases G.find? fun p => decide (p.1 = hd.map (ev f)) <;> rfl
    have := putT_ok (W := W) (m := mBin addD (mDGet2T (mVar 6) (mVar 8) (mC (.int 0))) (mVar 10)) r6 r8 h.P (bin_of (z := .int (sumG (lkG G (hd.map (ev f))) + prL (amF T as f))) (get2_ok r6 r8 h.P rfl hv) (var_of r10) rfl) gl
    unfold tbP
    rw [this, put_iK nd (a := amF T as f) (sum_snoc _ _).symm]
  generalize hW1 : W.set S.length (.dtt (iK (gAdd G (hd.map (ev f)) (amF T as f)) sumG)) = W1 at s4
  have hQ1 : W1[S.length + 1]? = some (.dtt (iK G maxG)) := by
    rw [← hW1, List.getElem?_set_ne (by omega)]
    exact h.Q
  have s5 : tbQ r W1 = .ok .next r (W1.set (S.length + 1) (.dtt (iK (gAdd G (hd.map (ev f)) (amF T as f)) maxG))) := by
    have hv : (valTD (iK G maxG) ((hd.map (ev f)).map Sum.inl)).getD (.int (amF T as f).sum) = .int (if lkG G (hd.map (ev f)) = [] then (amF T as f).sum else maxG (lkG G (hd.map (ev f)))) := by
      rw [find]
      unfold lkG
      cases hf : G.find? fun p => decide (p.1 = hd.map (ev f)) with
      | none => rfl
      | some p =>
        have := ok.ne p (List.mem_of_find?_eq_some hf)
        show D.int (maxG p.2) = D.int (if p.2 = [] then _ else maxG p.2)
        rw [if_neg this]
    have mx : max2D [.int (if lkG G (hd.map (ev f)) = [] then (amF T as f).sum else maxG (lkG G (hd.map (ev f)))), .int (amF T as f).sum] W1 = some (.int (maxG (lkG G (hd.map (ev f)) ++ [amF T as f]))) := by
      show some (D.int (if (amF T as f).sum > _ then _ else _)) = _
      by_cases c : lkG G (hd.map (ev f)) = []
      · rw [if_pos c, c, if_neg (by omega)]
        rfl
      · rw [if_neg c, max_snoc c]
    have := putT_ok (W := W1) (m := mCall max2D (mCons (mDGet2T (mVar 7) (mVar 8) (mVar 11)) (mCons (mVar 11) mNil))) r7 r8 hQ1 (call_of (cons_of (get2_ok r7 r8 hQ1 (var_of r11) hv) (cons_of (var_of r11) rfl)) mx) gl2
    unfold tbQ
    rw [this, put_iK nd (a := amF T as f) rfl]
  refine ⟨W1.set (S.length + 1) (.dtt (iK (gAdd G (hd.map (ev f)) (amF T as f)) maxG)), some (.dct (Ld.kZ (nms as) (((nms as).map f).map D.int))), some (.int (prL (amF T as f))), some (.int (amF T as f).sum), u12, u13, u14, ?_, ?_⟩
  · unfold tbB
    rw [seq_next s1, seq_next s2, seq_next s3, seq_next s4, s5, ← hr]
  · have lW1 : W1.length = S.length + 2 := by rw [← hW1, List.length_set, h.len]
    refine ⟨by rw [List.length_set, lW1], fun i hi => ?_, ?_, ?_⟩
    · rw [List.getElem?_set_ne (by omega), ← hW1, List.getElem?_set_ne (by omega)]
      exact h.keep i hi
    · rw [List.getElem?_set_ne (by omega), ← hW1, List.getElem?_set_self (by have := h.len; omega)]
    · rw [List.getElem?_set_self (by omega)]
theorem tb_loop (v : Ld.Vw hd as) {t : Nat} (ht : S[t]? = some (.dpr w (tbD T))) (sm : Sml T) : ∀ (fs : List (Str → Int)) (W : Store) (G : List Gp) (k : Nat) (y3 y8 y9 y10 y11 y12 y13 y14 : Option D), (G.map (·.1)).Nodup → GpOk hd k G → k + fs.length ≤ 1000 → Ts S W t w T G →
    ∃ W' v3 v8 v9 v10 v11 v12 v13 v14, sLoop (tgN 3) (tbB w) (fs.map fun f => rowD ((nms as).map f)) (TE w tb hd as t S.length (S.length + 1) y3 y8 y9 y10 y11 y12 y13 y14) W = .ok .next (TE w tb hd as t S.length (S.length + 1) v3 v8 v9 v10 v11 v12 v13 v14) W' ∧ Ts S W' t w T (gF T hd as fs G)
  | [], W, G, k, y3, y8, y9, y10, y11, y12, y13, y14, _, _, _, h => ⟨W, y3, y8, y9, y10, y11, y12, y13, y14, rfl, h⟩
  | f :: fs, W, G, k, y3, y8, y9, y10, y11, y12, y13, y14, nd, ok, hl, h => by
    rw [List.length_cons] at hl
    obtain ⟨W1, v9, v10, v11, v12, v13, v14, e1, h1⟩ := tbB_ok (tb := tb) v f ht sm nd ok (by omega) h (y8 := y8) (y9 := y9) (y10 := y10) (y11 := y11) (y12 := y12) (y13 := y13) (y14 := y14)
    have ok1 : GpOk hd (k + 1) (gAdd G (hd.map (ev f)) (amF T as f)) := by
      have := gF_ok (as := as) sm [f] ok
      exact this
    obtain ⟨W2, u3, u8, u9, u10, u11, u12, u13, u14, e2, h2⟩ := tb_loop v ht sm fs W1 _ (k + 1) (some (rowD ((nms as).map f))) (some (rowD (hd.map (ev f)))) v9 v10 v11 v12 v13 v14 (gAdd_nd nd _ _) ok1 (by omega) h1
    refine ⟨W2, u3, u8, u9, u10, u11, u12, u13, u14, ?_, h2⟩
    rw [List.map_cons, loop_step (r1 := TE w tb hd as t S.length (S.length + 1) (some (rowD ((nms as).map f))) y8 y9 y10 y11 y12 y13 y14) rfl e1]
    exact e2
theorem srt_iK {G : List Gp} {k : Nat} {n : Nat} {g : List (List Int) → Int} (hS : W[n]? = some (.dtt (iK G g))) (h : GpOk hd k G) (nd : (G.map (·.1)).Nodup) (hk : k ≤ 4000) : sortDtD [.loc n] W = some (.lst ((gsrt G).map rowD)) := by
  have hr : ∀ G : List Gp, rowsK (iK G g) = some (G.map (·.1)) := fun G => by
    induction G with
    | nil => rfl
    | cons p G ih =>
      show rowsK ((p.1.map Sum.inl, D.int (g p.2)) :: iK G g) = _
      unfold rowsK
      rw [ih, Ld.rowK_inl]
      rfl
  show (match dttAt (.loc n) W with
    | some kds => match rowsK kds with
      | some rows => if rows.length ≤ 4000 ∧ (2 ≤ rows.length → ∀ r ∈ rows, r ≠ []) then some (D.lst ((sortL ltR rows).map rowD)) else none
      | none => none
    | none => none) = _
  simp only [dtt_at hS, hr]
  rw [if_pos ⟨by rw [List.length_map]; have := h.len; omega, many_keys h nd⟩]
  rfl
theorem get_iK {G : List Gp} {n : Nat} {g : List (List Int) → Int} (hS : W[n]? = some (.dtt (iK G g))) {h : List Int} (hh : h ∈ gsrt G) : dgetTD (.loc n) (rowD h) W = some (.int (g (lkG G h))) := by
  obtain ⟨p, hp, e1, e2⟩ := mem_gsrt hh
  show (match dttAt (.loc n) W, tkeyOf (rowD h) with
    | some kds, some k => valTD kds k
    | _, _ => none) = _
  rw [show tkeyOf (rowD h) = some (h.map Sum.inl) from Ld.keysL_ints h, dtt_at hS]
  show valTD (iK G g) (h.map Sum.inl) = _
  have := val_map G (fun l => D.int (g l)) h
  unfold iK lkG
  rw [this, e2]
  rfl
theorem out_of {G : List Gp} {k : Nat} {n i : Nat} {g : List (List Int) → Int} {r : Dv.Env} (hr : r[i]? = some (some (.loc n))) (h3 : 3 < r.length) (hi : i ≠ 3) (hS : W[n]? = some (.dtt (iK G g))) (h : GpOk hd k G) (nd : (G.map (·.1)).Nodup) (hk : k ≤ 4000) :
    (mCall tupD (mCons (mLc (mIter (mCall sortDtD (mCons (mVar i) mNil))) [3] (tgN 3) mYes (mTup (mCons (mVar 3) (mCons (mBin dgetTD (mVar i) (mVar 3)) mNil)))) mNil)) r W = .ok (outD G g) W := by
  refine call_of (ds := [.lst ((gsrt G).map fun h => .tup [rowD h, .int (g (lkG G h))])]) (cons_of (lc_of (iter_of (call_of (cons_of (var_of hr) rfl) (srt_iK hS h nd hk)) rfl) ?_) rfl) rfl
  refine lc_all (gm := tgN 3) rowD (fun h => D.tup [rowD h, .int (g (lkG G h))]) (gsrt G) fun q hq => ⟨(wipeE r [3]).set 3 (some (rowD q)), rfl, ?_⟩
  have w3 : (wipeE r [3]) = r.set 3 none := rfl
  have e3 : ((wipeE r [3]).set 3 (some (rowD q)))[3]? = some (some (rowD q)) := by
    rw [w3, List.getElem?_set_self (by rw [List.length_set]; exact h3)]
  have ei : ((wipeE r [3]).set 3 (some (rowD q)))[i]? = some (some (.loc n)) := by
    rw [w3, List.getElem?_set_ne hi.symm, List.getElem?_set_ne hi.symm]
    exact hr
  exact tup_of (cons_of (var_of e3) (cons_of (bin_of (var_of ei) (var_of e3) (get_iK hS hq)) rfl)) (show 2 ≤ 100000 by decide)
theorem tab_ok (v : Ld.Vw hd as) {fs : List (Str → Int)} (hfs : ∀ S, FLAns [.tup (tb.map tabD), askD as []] S = .ok (.lst (fs.map fun f => rowD ((nms as).map f))) S) (hl : fs.length ≤ 900) (h3 : ∀ a ∈ as, a.ts.length ≤ 3) {t : Nat} (ht : S[t]? = some (.dpr w (tbD T))) (sm : Sml T) :
    FTab w [.tup (tb.map tabD), viewD hd as, .loc t] S = .ok (.tup [outD (gF T hd as fs []) sumG, outD (gF T hd as fs []) maxG]) S := by
  have nm : FLNames [.tup [.tup (as.map atD), .tup []]] S = .ok (.lst ((nms as).map D.str)) S := lnames_ok v.tok h3 (by have := v.len; omega)
  have v1 : ∀ S, ixD (viewD hd as) (.int 1) S = some (.tup (as.map atD)) := fun S => Ld.view_ix1
  have s1 : (sAsg (mTup (mCons (mApp 1 FLNames (mCons (mTup (mCons (mBin ixD (mVar 1) (mC (.int 1))) (mCons (mTup mNil) mNil))) mNil)) (mCons mNewDT0 (mCons mNewDT0 mNil)))) (tgT 3 (tgsCons (tgN 5) (tgsCons (tgN 6) (tgsCons (tgN 7) tgsNil))))) [some (.tup (tb.map tabD)), some (viewD hd as), some (.loc t), none, none, none, none, none, none, none, none, none, none, none, none] S = .ok .next (TE w tb hd as t S.length (S.length + 1) none none none none none none none none) (S ++ [.dtt []] ++ [.dtt []]) := by
    refine asg_of (d := .tup [.lst ((nms as).map D.str), .loc S.length, .loc (S.length + 1)]) (tup_of (cons_of (run_app (cons_of (tup_of (cons_of (bin_of (var_of rfl) rfl (v1 S)) (cons_of (tup_of rfl (show 0 ≤ 100000 by decide)) rfl)) (show 2 ≤ 100000 by decide)) rfl) rfl nm) (cons_of (v := .loc S.length) rfl (cons_of (v := .loc (S.length + 1)) (by rw [mNewDT0_ap, List.length_append]; rfl) rfl))) (show 3 ≤ 100000 by decide)) rfl
  have h0 : Ts S (S ++ [.dtt []] ++ [.dtt []]) t w T [] := by
    refine ⟨by simp, fun i hi => ?_, ?_, ?_⟩
    · rw [List.append_assoc, List.getElem?_append_left hi]
    · rw [List.append_assoc, List.getElem?_append_right (Nat.le_refl _), Nat.sub_self]
      rfl
    · rw [List.append_assoc, List.getElem?_append_right (by omega), show S.length + 1 - S.length = 1 by omega]
      rfl
  obtain ⟨W, u3, u8, u9, u10, u11, u12, u13, u14, e2, h2⟩ := tb_loop (tb := tb) v ht sm fs _ [] 0 none none none none none none none none List.nodup_nil ⟨fun p h => (nomatch h), fun p h => (nomatch h), fun p h => (nomatch h), Nat.le_refl _⟩ (by omega) h0
  have nd : ((gF T hd as fs []).map (·.1)).Nodup := gF_nd fs List.nodup_nil
  have ok : GpOk hd (0 + fs.length) (gF T hd as fs []) := gF_ok sm fs ⟨fun p h => (nomatch h), fun p h => (nomatch h), fun p h => (nomatch h), Nat.le_refl _⟩
  have s2 : (sFor (mIter (mApp 2 FLAns (mCons (mVar 0) (mCons (mTup (mCons (mBin ixD (mVar 1) (mC (.int 1))) (mCons (mTup mNil) mNil))) mNil)))) (tgN 3) (tbB w)) (TE w tb hd as t S.length (S.length + 1) none none none none none none none none) (S ++ [.dtt []] ++ [.dtt []]) = .ok .next (TE w tb hd as t S.length (S.length + 1) u3 u8 u9 u10 u11 u12 u13 u14) W := by
    have it : mIter (mApp 2 FLAns (mCons (mVar 0) (mCons (mTup (mCons (mBin ixD (mVar 1) (mC (.int 1))) (mCons (mTup mNil) mNil))) mNil))) (TE w tb hd as t S.length (S.length + 1) none none none none none none none none) (S ++ [.dtt []] ++ [.dtt []]) = .ok (fs.map fun f => rowD ((nms as).map f)) (S ++ [.dtt []] ++ [.dtt []]) :=
      iter_of (run_app (cons_of (var_of rfl) (cons_of (tup_of (cons_of (bin_of (var_of rfl) rfl (v1 _)) (cons_of (tup_of rfl (show 0 ≤ 100000 by decide)) rfl)) (show 2 ≤ 100000 by decide)) rfl)) rfl (hfs _)) rfl
    rw [for_of it]
    exact e2
  have s3 : (sSet 4 (mCall tupD (mCons (mLc (mIter (mCall sortDtD (mCons (mVar 6) mNil))) [3] (tgN 3) mYes (mTup (mCons (mVar 3) (mCons (mBin dgetTD (mVar 6) (mVar 3)) mNil)))) mNil))) (TE w tb hd as t S.length (S.length + 1) u3 u8 u9 u10 u11 u12 u13 u14) W = .ok .next ((TE w tb hd as t S.length (S.length + 1) u3 u8 u9 u10 u11 u12 u13 u14).set 4 (some (outD (gF T hd as fs []) sumG))) W :=
    set_of (out_of (i := 6) rfl (show 3 < 15 by decide) (by decide) h2.P ok nd (by omega))
  have tr : Tr S W := ⟨by have := h2.len; omega, fun i o hi ho => .inl (by rw [← h2.keep i hi]; exact ho)⟩
  have tk : W.take S.length = S := by
    refine List.ext_getElem? fun i => ?_
    rw [List.getElem?_take]
    by_cases hi : i < S.length
    · rw [if_pos hi, h2.keep i hi]
    · rw [if_neg hi, List.getElem?_eq_none (by omega)]
  have cl : clo S.length (.tup [outD (gF T hd as fs []) sumG, outD (gF T hd as fs []) maxG]) = true := by
    show (clo _ (outD _ _) && (clo _ (outD _ _) && true)) = true
    rw [clo_out, clo_out]
    rfl
  show finT S (mTab w [some (.tup (tb.map tabD)), some (viewD hd as), some (.loc t), none, none, none, none, none, none, none, none, none, none, none, none] S) = _
  unfold mTab
  rw [seq_ok s1, seq_ok s2, seq_ok s3]
  have s4 := ret_of (tup_of (cons_of (v := outD (gF T hd as fs []) sumG) (r := (TE w tb hd as t S.length (S.length + 1) u3 u8 u9 u10 u11 u12 u13 u14).set 4 (some (outD (gF T hd as fs []) sumG))) (S := W) (m := mVar 4) (var_of rfl) (cons_of (out_of (i := 7) rfl (show 3 < 15 by decide) (by decide) h2.Q ok nd (by omega)) nil_of)) (show 2 ≤ 100000 by decide))
  rw [s4]
  have := finT_ret (rho := (TE w tb hd as t S.length (S.length + 1) u3 u8 u9 u10 u11 u12 u13 u14).set 4 (some (outD (gF T hd as fs []) sumG))) tr (fz_clo cl)
  rw [tk] at this
  exact this
end
end Aw
namespace Aw
open PySem L2 Dv Fv Sx
def daR : SM := (sIf (mT (mBin gtD (mApp 3 FDraw (mCons (mVar 0) (mCons (mVar 1) (mCons (mC (.int 3)) mNil)))) (mC (.int 0)))) (sDrop (mAppend (mVar 3) (mTup (mCons (mVar 4) (mCons (mVar 7) (mCons (mBin subD (mApp 3 FDraw (mCons (mVar 0) (mCons (mVar 1) (mCons (mC (.int 9)) mNil)))) (mC (.int 3))) mNil)))))) sNil)
def daT : SM := (sFor (mIter (mVar 6)) (tgN 7) daR)
def mDa : SM :=
    (sSeq (sSet 3 (mNewL mNil))
    (sSeq (sFor (mIter (mVar 2)) (tgT 3 (tgsCons (tgN 4) (tgsCons (tgN 5) (tgsCons (tgN 6) tgsNil)))) daT)
    (sRet (mCall tupD (mCons (mVar 3) mNil)))))
def FDa : List D → Store → R D := runT 8 mDa
section
variable {S : Store} {ns : List Int} {n t : Nat}
abbrev Amt (am : List (Pr × Int)) : Prop := ∀ a ∈ am, -3 ≤ a.2 ∧ a.2 ≤ 5
abbrev DE (ns : List Int) (t : Nat) (B : D) (L : Nat) (y4 y5 y6 y7 : Option D) : Dv.Env := [some (.scr ns), some (.loc t), some B, some (.loc L), y4, y5, y6, y7]
theorem daR_ok (h63 : ns.length ≤ 63) {L : Nat} (hL : L ≠ t) {am : List (Pr × Int)} (tw : Twn t n S) (hn : n ≤ 20000) (hS : S[L]? = some (.lst (am.map triD))) (hl : am.length ≤ 1000) (ha : Amt am) {B : D} {x : Str} {r : List Int} {y5 y6 : Option D} :
    ∃ S' am', daR (DE ns t B L (some (.str x)) y5 y6 (some (rowD r))) S = .ok .next (DE ns t B L (some (.str x)) y5 y6 (some (rowD r))) S' ∧ Amt am' ∧ am'.length ≤ am.length + 1 ∧ Twn t (n + 4) S' ∧ S'[L]? = some (.lst (am'.map triD)) ∧ S'.length = S.length ∧ ∀ i, i ≠ t → i ≠ L → S'[i]? = S[i]? := by
  obtain ⟨i, S1, hi, tw1, d1, e1⟩ := draw_tw (many := 3) h63 tw (by omega) (by omega)
  have et : (mT (mBin gtD (mApp 3 FDraw (mCons (mVar 0) (mCons (mVar 1) (mCons (mC (.int 3)) mNil)))) (mC (.int 0)))) (DE ns t B L (some (.str x)) y5 y6 (some (rowD r))) S = .ok (decide ((0 : Int) < (i : Nat))) S1 :=
    t_of (bin_of (run_app (cons_of (var_of rfl) (cons_of (var_of rfl) (cons_of rfl rfl))) rfl e1) rfl rfl)
  by_cases c : 0 < i
  · obtain ⟨j, S2, hj, tw2, d2, e2⟩ := draw_tw (many := 9) h63 tw1 (by omega) (by omega)
    have d12 := d1.trans d2
    have hS2 : S2[L]? = some (.lst (am.map triD)) := by rw [d12.other hL]; exact hS
    have ap : (mAppend (mVar 3) (mTup (mCons (mVar 4) (mCons (mVar 7) (mCons (mBin subD (mApp 3 FDraw (mCons (mVar 0) (mCons (mVar 1) (mCons (mC (.int 9)) mNil)))) (mC (.int 3))) mNil))))) (DE ns t B L (some (.str x)) y5 y6 (some (rowD r))) S1 = .ok .non (S2.set L (.lst ((am ++ [((x, r), (j : Int) - 3)]).map triD))) := by
      have ev : (mTup (mCons (mVar 4) (mCons (mVar 7) (mCons (mBin subD (mApp 3 FDraw (mCons (mVar 0) (mCons (mVar 1) (mCons (mC (.int 9)) mNil)))) (mC (.int 3))) mNil)))) (DE ns t B L (some (.str x)) y5 y6 (some (rowD r))) S1 = .ok (triD ((x, r), (j : Int) - 3)) S2 :=
        tup_of (cons_of (var_of rfl) (cons_of (var_of rfl) (cons_of (bin_of (run_app (cons_of (var_of rfl) (cons_of (var_of rfl) (cons_of rfl rfl))) rfl e2) rfl rfl) rfl))) (show 3 ≤ 100000 by decide)
      have hS1 : S1[L]? = some (.lst (am.map triD)) := by rw [d1.other hL]; exact hS
      have il : isLoc (.loc L) S1 = true := by rw [isLoc_ap, hS1]
      have apd : appD (.loc L) (triD ((x, r), (j : Int) - 3)) S2 = .ok .non (S2.set L (.lst ((am ++ [((x, r), (j : Int) - 3)]).map triD))) := by
        rw [appD_ap, hS2]
        simp only [if_pos (show (am.map triD).length < 100000 by rw [List.length_map]; omega)]
        rw [List.map_append]
        rfl
      rw [mAppend_ap]
      have v3 : mVar 3 (DE ns t B L (some (.str x)) y5 y6 (some (rowD r))) S1 = .ok (.loc L) S1 := rfl
      rw [v3, R.bind_ok, if_pos il, ev, R.bind_ok]
      exact apd
    refine ⟨_, am ++ [((x, r), (j : Int) - 3)], ?_, fun a h => ?_, by rw [List.length_append, List.length_singleton]; exact Nat.le_refl _, twn_set hL (tw2.mono (by omega)), gs hS2 _, by rw [List.length_set, d12.len], fun k h1 h2 => ?_⟩
    · unfold daR
      rw [if_yes (by rw [et, decide_eq_true (by omega)])]
      exact drop_of ap
    · rcases List.mem_append.mp h with h | h
      · exact ha a h
      · rw [List.mem_singleton.mp h]
        show -3 ≤ (j : Int) - 3 ∧ (j : Int) - 3 ≤ 5
        omega
    · rw [List.getElem?_set_ne (fun q => h2 q.symm), d12.other h1]
  · refine ⟨S1, am, ?_, ha, Nat.le_succ _, tw1.mono (by omega), by rw [d1.other hL]; exact hS, d1.len, fun k h1 h2 => d1.other h1⟩
    unfold daR
    rw [if_no (by rw [et, decide_eq_false (by omega)])]
    rfl
theorem daR_loop (h63 : ns.length ≤ 63) {L : Nat} (hL : L ≠ t) {B : D} {x : Str} {y5 y6 : Option D} : ∀ (rs : List (List Int)) {n : Nat} {S : Store} (am : List (Pr × Int)) (y7 : Option D), Twn t n S → n + 4 * rs.length ≤ 20000 → S[L]? = some (.lst (am.map triD)) → am.length + rs.length ≤ 1000 → Amt am →
    ∃ S' am' y7', sLoop (tgN 7) daR (rs.map rowD) (DE ns t B L (some (.str x)) y5 y6 y7) S = .ok .next (DE ns t B L (some (.str x)) y5 y6 y7') S' ∧ Amt am' ∧ am'.length ≤ am.length + rs.length ∧ Twn t (n + 4 * rs.length) S' ∧ S'[L]? = some (.lst (am'.map triD)) ∧ S'.length = S.length ∧ ∀ i, i ≠ t → i ≠ L → S'[i]? = S[i]?
  | [], n, S, am, y7, tw, _, hS, _, ha => ⟨S, am, y7, rfl, ha, Nat.le_refl _, tw, hS, rfl, fun _ _ _ => rfl⟩
  | r :: rs, n, S, am, y7, tw, hn, hS, hl, ha => by
    rw [List.length_cons] at hn hl
    obtain ⟨S1, am1, e1, ha1, hl1, tw1, hS1, sl1, ot1⟩ := daR_ok h63 hL tw (by omega) hS (by omega) ha (B := B) (x := x) (r := r) (y5 := y5) (y6 := y6)
    obtain ⟨S2, am2, y7', e2, ha2, hl2, tw2, hS2, sl2, ot2⟩ := daR_loop h63 hL (B := B) (x := x) (y5 := y5) (y6 := y6) rs am1 (some (rowD r)) tw1 (by omega) hS1 (by omega) ha1
    refine ⟨S2, am2, y7', ?_, ha2, by rw [List.length_cons]; omega, tw2.mono (by rw [List.length_cons]; omega), hS2, by rw [sl2, sl1], fun i h1 h2 => by rw [ot2 i h1 h2, ot1 i h1 h2]⟩
    rw [List.map_cons, loop_step (r1 := DE ns t B L (some (.str x)) y5 y6 (some (rowD r))) rfl e1]
    exact e2
theorem da_loop (h63 : ns.length ≤ 63) {L : Nat} (hL : L ≠ t) {B : D} : ∀ (tb : List Bt) {n : Nat} {S : Store} (am : List (Pr × Int)) (y4 y5 y6 y7 : Option D), (∀ x ∈ tb, x.rows.length ≤ 20) → Twn t n S → n + 80 * tb.length ≤ 20000 → S[L]? = some (.lst (am.map triD)) → am.length + 20 * tb.length ≤ 1000 → Amt am →
    ∃ S' am' y4' y5' y6' y7', sLoop (tgT 3 (tgsCons (tgN 4) (tgsCons (tgN 5) (tgsCons (tgN 6) tgsNil)))) daT (tb.map tabD) (DE ns t B L y4 y5 y6 y7) S = .ok .next (DE ns t B L y4' y5' y6' y7') S' ∧ Amt am' ∧ am'.length ≤ am.length + 20 * tb.length ∧ Twn t (n + 80 * tb.length) S' ∧ S'[L]? = some (.lst (am'.map triD)) ∧ S'.length = S.length ∧ ∀ i, i ≠ t → i ≠ L → S'[i]? = S[i]?
  | [], n, S, am, y4, y5, y6, y7, _, tw, _, hS, _, ha => ⟨S, am, y4, y5, y6, y7, rfl, ha, Nat.le_refl _, tw, hS, rfl, fun _ _ _ => rfl⟩
  | x :: tb, n, S, am, y4, y5, y6, y7, hr, tw, hn, hS, hl, ha => by
    rw [List.length_cons] at hn hl
    have hx := hr x List.mem_cons_self
    obtain ⟨S1, am1, y7', e1, ha1, hl1, tw1, hS1, sl1, ot1⟩ := daR_loop h63 hL (B := B) (x := x.w) (y5 := some (.int x.n)) (y6 := some (.tup (x.rows.map rowD))) x.rows am y7 tw (by omega) hS (by omega) ha
    obtain ⟨S2, am2, z4, z5, z6, z7, e2, ha2, hl2, tw2, hS2, sl2, ot2⟩ := da_loop h63 hL (B := B) tb am1 (some (.str x.w)) (some (.int x.n)) (some (.tup (x.rows.map rowD))) y7' (fun y hy => hr y (List.mem_cons_of_mem _ hy)) (tw1.mono (m := n + 80) (by omega)) (by omega) hS1 (by omega) ha1
    refine ⟨S2, am2, z4, z5, z6, z7, ?_, ha2, by rw [List.length_cons]; omega, tw2.mono (by rw [List.length_cons]; omega), hS2, by rw [sl2, sl1], fun i h1 h2 => by rw [ot2 i h1 h2, ot1 i h1 h2]⟩
    have e3 : daT (DE ns t B L (some (.str x.w)) (some (.int x.n)) (some (.tup (x.rows.map rowD))) y7) S = .ok .next (DE ns t B L (some (.str x.w)) (some (.int x.n)) (some (.tup (x.rows.map rowD))) y7') S1 := by
      have it : mIter (mVar 6) (DE ns t B L (some (.str x.w)) (some (.int x.n)) (some (.tup (x.rows.map rowD))) y7) S = .ok (x.rows.map rowD) S := iter_of (var_of rfl) rfl
      unfold daT
      rw [for_of it]
      exact e1
    rw [List.map_cons, loop_step (r1 := DE ns t B L (some (.str x.w)) (some (.int x.n)) (some (.tup (x.rows.map rowD))) y7) rfl e3]
    exact e2
theorem clo_tris (m : Nat) (am : List (Pr × Int)) : clo m (amD am) = true := by
  show cloL m (am.map triD) = true
  refine (cloL_iff m _).mpr fun d hd => ?_
  obtain ⟨a, _, rfl⟩ := List.mem_map.mp hd
  show (true && (clo m (rowD a.1.2) && (true && true))) = true
  rw [show clo m (rowD a.1.2) = true from cloL_ints m _]
  rfl
theorem da_ok (h63 : ns.length ≤ 63) {tb : List Bt} (hr : ∀ x ∈ tb, x.rows.length ≤ 20) (hl : tb.length ≤ 4) (tw : Twn t n S) (hn : n ≤ 10000) :
    ∃ am S', FDa [.scr ns, .loc t, .tup (tb.map tabD)] S = .ok (amD am) S' ∧ Amt am ∧ am.length ≤ 80 ∧ Twn t (n + 320) S' ∧ Dif t S S' := by
  have ht := twn_lt tw
  obtain ⟨S1, am, y4, y5, y6, y7, e, ha, hal, tw1, hS1, sl, ot⟩ := da_loop h63 (L := S.length) (B := .tup (tb.map tabD)) (by omega) tb [] none none none none hr (twn_app (E := [.lst []]) tw) (by omega) (by simp) (by simp; omega) (fun a h => nomatch h)
  obtain ⟨S', e2, tw2, d2⟩ := fin_dif (rho := DE ns t (.tup (tb.map tabD)) S.length y4 y5 y6 y7) (d := amD am) ht (by rw [sl]; simp) (tw1.mono (m := n + 320) (by omega)) (fun i h1 h2 => by rw [ot i h2 (by omega), List.getElem?_append_left h1]) (clo_tris _ _)
  refine ⟨am, S', ?_, ha, by simp at hal; omega, tw2, d2⟩
  show finT S (mDa [some (.scr ns), some (.loc t), some (.tup (tb.map tabD)), none, none, none, none, none] S) = _
  have it : mIter (mVar 2) (DE ns t (.tup (tb.map tabD)) S.length none none none none) (S ++ [.lst []]) = .ok (tb.map tabD) (S ++ [.lst []]) := iter_of (var_of rfl) rfl
  have s1 : (sSet 3 (mNewL mNil)) [some (.scr ns), some (.loc t), some (.tup (tb.map tabD)), none, none, none, none, none] S = .ok .next (DE ns t (.tup (tb.map tabD)) S.length none none none none) (S ++ [.lst []]) := rfl
  have s2 : (sFor (mIter (mVar 2)) (tgT 3 (tgsCons (tgN 4) (tgsCons (tgN 5) (tgsCons (tgN 6) tgsNil)))) daT) (DE ns t (.tup (tb.map tabD)) S.length none none none none) (S ++ [.lst []]) = .ok .next (DE ns t (.tup (tb.map tabD)) S.length y4 y5 y6 y7) S1 := by
    rw [for_of it]
    exact e
  have s3 : (sRet (mCall tupD (mCons (mVar 3) mNil))) (DE ns t (.tup (tb.map tabD)) S.length y4 y5 y6 y7) S1 = .ok (.ret (amD am)) (DE ns t (.tup (tb.map tabD)) S.length y4 y5 y6 y7) S1 := by
    refine ret_of (call_of (cons_of (var_of rfl) rfl) ?_)
    show tupD [.loc S.length] S1 = some (.tup (am.map triD))
    simp [hS1]
  unfold mDa
  rw [seq_ok s1, seq_ok s2, s3]
  exact e2
theorem sml_of {am : List (Pr × Int)} (ha : Amt am) : Sml (tblA am) := by
  have key : ∀ (am T : List (Pr × Int)), Amt am → (∀ p ∈ T, -3 ≤ p.2 ∧ p.2 ≤ 5) → ∀ p ∈ am.foldl (fun T a => putT T a.1 a.2) T, -3 ≤ p.2 ∧ p.2 ≤ 5 := fun am => by
    induction am with
    | nil => intro T _ h; exact h
    | cons a am ih =>
      intro T ha h
      refine ih _ (fun b hb => ha b (List.mem_cons_of_mem _ hb)) fun p hp => ?_
      have h0 := ha a List.mem_cons_self
      have hp : p ∈ putT T a.1 a.2 := hp
      unfold putT at hp
      split at hp
      · obtain ⟨q, hq, rfl⟩ := List.mem_map.mp hp
        have := h q hq
        split <;> assumption
      · rcases List.mem_append.mp hp with hp | hp
        · exact h p hp
        · rw [List.mem_singleton.mp hp]
          exact h0
  intro k
  unfold lkT valT
  cases hf : (tblA am).find? fun kv => decide (kv.1 = k) with
  | none => exact ⟨by decide, by decide⟩
  | some p =>
    have := key am [] ha (fun p h => nomatch h) p (List.mem_of_find?_eq_some hf)
    show -100 ≤ p.2 ∧ p.2 ≤ 100
    omega
end
end Aw
namespace Law
open PySem L2 Dv Aw Sx
theorem fbook_eq (w : World) (fu : Nat) : F__law_drawn_book w fu = FBook := rfl
theorem fview_eq (w : World) (fu : Nat) : F__law_drawn_view w fu = FView := rfl
theorem fda_eq (w : World) (fu : Nat) : F__law_drawn_amounts w fu = FDa := rfl
theorem ftab_eq (w : World) (fu : Nat) : F__law_tables w fu = FTab w := rfl
theorem fsum_eq (w : World) (fu : Nat) : F_summed w fu = FSum w := rfl
theorem fgrt_eq (w : World) (fu : Nat) : F_greatest w fu = FGrt w := rfl
theorem fbest_eq (w : World) (fu : Nat) : F_best w fu = FBest w := rfl
theorem fsame_eq (w : World) (fu : Nat) : F__law_same w fu 6 = FSame 6 := rfl
def b1 : SM := (sSet 3 (mApp 4 FBook (mCons (mVar 0) (mCons (mVar 1) (mCons (mC (.int 6)) (mCons (mC (.int 3)) mNil))))))
def b2 : SM := (sSet 4 (mApp 4 FView (mCons (mVar 0) (mCons (mVar 1) (mCons (mC (.int 3)) (mCons (mLc (mIter (mVar 3)) [8, 14, 15] (tgT 3 (tgsCons (tgN 8) (tgsCons (tgN 14) (tgsCons (tgN 15) tgsNil)))) mYes (mTup (mCons (mVar 8) (mCons (mVar 14) mNil)))) mNil))))))
def b3 : SM := (sSet 5 (mApp 3 FDa (mCons (mVar 0) (mCons (mVar 1) (mCons (mVar 3) mNil)))))
def b4 (w : World) : SM := (sSet 6 (mNewPr0 w))
def b5I (w : World) : SM := (sDPutP w (mVar 6) (mTup (mCons (mVar 8) (mCons (mVar 9) mNil))) (mVar 10))
def b5 (w : World) : SM := (sFor (mIter (mVar 5)) (tgT 3 (tgsCons (tgN 8) (tgsCons (tgN 9) (tgsCons (tgN 10) tgsNil)))) (b5I w))
def b6 (w : World) : SM := (sAsg (mApp 3 (FTab w) (mCons (mVar 3) (mCons (mVar 4) (mCons (mVar 6) mNil)))) (tgT 2 (tgsCons (tgN 11) (tgsCons (tgN 12) tgsNil))))
def b7 (w : World) : SM := (sIf (mNotT (mTru (mApp 2 (FSame 6) (mCons (mApp 3 (FSum w) (mCons (mVar 3) (mCons (mVar 4) (mCons (mVar 5) mNil)))) (mCons (mVar 11) mNil))))) (sRet (mC (.bl false))) sNil)
def b8 (w : World) : SM := (sIf (mNotT (mTru (mApp 2 (FSame 6) (mCons (mApp 3 (FGrt w) (mCons (mVar 3) (mCons (mVar 4) (mCons (mVar 5) mNil)))) (mCons (mVar 12) mNil))))) (sRet (mC (.bl false))) sNil)
def b9 : SM := (sSet 7 (mC .non))
def b10I : SM := (sSet 7 (mIf (mOrT (mT (mBin isND (mVar 7) (mC .non))) (mT (mBin gtD (mVar 13) (mBin ixD (mVar 7) (mC (.int 1)))))) (mTup (mCons (mVar 9) (mCons (mVar 13) mNil))) (mVar 7)))
def b10 : SM := (sFor (mIter (mVar 12)) (tgT 2 (tgsCons (tgN 9) (tgsCons (tgN 13) tgsNil))) b10I)
def b11 (w : World) : SM := (sIf (mNotT (mTru (mApp 2 (FSame 6) (mCons (mApp 3 (FBest w) (mCons (mVar 3) (mCons (mVar 4) (mCons (mVar 5) mNil)))) (mCons (mVar 7) mNil))))) (sRet (mC (.bl false))) sNil)
def lawB (w : World) : SM := (sSeq b1 (sSeq b2 (sSeq b3 (sSeq (b4 w) (sSeq (b5 w) (sSeq (b6 w) (sSeq (b7 w) (sSeq (b8 w) (sSeq b9 (sSeq b10 (b11 w)))))))))))
theorem law_eq (w : World) (fu : Nat) : m_law w fu = (sSeq (sSet 1 (mNewL mNil)) (sSeq (sFor (mRng1 (mCons (mC (.int 4)) mNil)) (tgN 2) (lawB w)) (sRet (mC (.bl true))))) := by
  unfold m_law
  rw [fbook_eq, fview_eq, fda_eq, ftab_eq, fsum_eq, fgrt_eq, fbest_eq, fsame_eq]
  rfl
theorem vq_of {tb : List Bt} {hd : List Tm} {as : List At} (bk : BookOk 6 (3 : Nat) tb) {many : Nat} (hm : many ≤ 4) (h : ViewOk (tb.map fun x => (x.w, x.n)) many hd as) : Ld.Vq tb hd as := ⟨bk, fun a ha => by
  obtain ⟨⟨p, hp, e1, e2⟩, h2⟩ := h.at_ a ha
  obtain ⟨x, hx, rfl⟩ := List.mem_map.mp hp
  exact ⟨⟨x, hx, e1, e2⟩, h2⟩, by have := h.len; omega, h.ne, h.hl, h.hd⟩
theorem fn_of : ∀ {ns : List Str} {r : List Int}, ns.Nodup → r.length = ns.length → ∃ f : Str → Int, r = ns.map f
  | [], [], _, _ => ⟨fun _ => 0, rfl⟩
  | [], _ :: _, _, h => by cases h
  | _ :: _, [], _, h => by cases h
  | x :: ns, v :: r, nd, h => by
    rw [List.nodup_cons] at nd
    obtain ⟨f, e⟩ := fn_of (r := r) nd.2 (Nat.succ.inj h)
    refine ⟨fun y => if y = x then v else f y, ?_⟩
    rw [List.map_cons, if_pos rfl, e]
    congr 1
    refine List.map_congr_left fun y hy => ?_
    rw [if_neg fun z => nd.1 (by rw [← z]; exact hy)]
theorem fns_of {ns : List Str} (nd : ns.Nodup) : ∀ (l : List (List Int)), (∀ r ∈ l, r.length = ns.length) → ∃ fs : List (Str → Int), l = fs.map fun f => ns.map f
  | [], _ => ⟨[], rfl⟩
  | r :: l, h => by
    obtain ⟨f, e⟩ := fn_of nd (h r List.mem_cons_self)
    obtain ⟨fs, e2⟩ := fns_of nd l fun x hx => h x (List.mem_cons_of_mem _ hx)
    exact ⟨f :: fs, by rw [e, e2]; rfl⟩
theorem pt_row (k : Nat) (r : List Int) : pt (k + 1) (rowD r) = true := by
  show (r.map D.int).all (pt k) = true
  rw [List.all_map, List.all_eq_true]
  intro i _
  cases k <;> rfl
theorem pt_pair (p : List Int × Int) : pt 4 (pairD2 p) = true := by
  show (pt 3 (rowD p.1) && (pt 3 (.int p.2) && true)) = true
  rw [pt_row]
  rfl
theorem pt_out (G : List Gp) (g : List (List Int) → Int) : pt 5 (outD G g) = true := by
  rw [out_ps]
  show ((psG G g).map pairD2).all (pt 4) = true
  rw [List.all_map, List.all_eq_true]
  exact fun p _ => pt_pair p
theorem same6 {S : Store} {d : D} (h : pt 5 d = true) : FSame 6 [d, d] S = .ok (.bl true) S := by
  rw [same_ok 6 5 (by decide) d d h h, decide_eq_true rfl]
section
variable {S : Store} {ns : List Int} {n : Nat} {w : World}
abbrev tq : Str := "best.<locals>.<lambda>"
abbrev LL (ns : List Int) (y2 y3 y4 y5 y6 y7 y8 y9 y10 y11 y12 y13 : Option D) : Dv.Env := [some (.scr ns), some (.loc 1), y2, y3, y4, y5, y6, y7, y8, y9, y10, y11, y12, y13, none, none]
theorem b5_loop {t : Nat} {B V A : D} {y2 y7 y11 y12 y13 : Option D} : ∀ (am T : List (Pr × Int)) (S : Store) (y8 y9 y10 : Option D), S[t]? = some (.dpr w (tbD T)) → T.length + am.length ≤ 1000 →
    ∃ z8 z9 z10, sLoop (tgT 3 (tgsCons (tgN 8) (tgsCons (tgN 9) (tgsCons (tgN 10) tgsNil)))) (b5I w) (am.map triD) (LL ns y2 (some B) (some V) (some A) (some (.loc t)) y7 y8 y9 y10 y11 y12 y13) S = .ok .next (LL ns y2 (some B) (some V) (some A) (some (.loc t)) y7 z8 z9 z10 y11 y12 y13) (S.set t (.dpr w (tbD (am.foldl (fun T a => putT T a.1 a.2) T))))
  | [], T, S, y8, y9, y10, h, _ => ⟨y8, y9, y10, by
    obtain ⟨h1, h2⟩ := List.getElem?_eq_some_iff.mp h
    rw [List.foldl_nil, ← h2, List.set_getElem_self]
    rfl⟩
  | a :: am, T, S, y8, y9, y10, h, hl => by
    rw [List.length_cons] at hl
    have pl := putT_len T a.1 a.2
    have htl := (List.getElem?_eq_some_iff.mp h).1
    obtain ⟨z8, z9, z10, e⟩ := b5_loop (B := B) (V := V) (A := A) (y2 := y2) (y7 := y7) (y11 := y11) (y12 := y12) (y13 := y13) am (putT T a.1 a.2) (S.set t (.dpr w (tbD (putT T a.1 a.2)))) (some (.str a.1.1)) (some (rowD a.1.2)) (some (.int a.2)) (List.getElem?_set_self htl) (by omega)
    refine ⟨z8, z9, z10, ?_⟩
    have e1 : b5I w (LL ns y2 (some B) (some V) (some A) (some (.loc t)) y7 (some (.str a.1.1)) (some (rowD a.1.2)) (some (.int a.2)) y11 y12 y13) S = .ok .next (LL ns y2 (some B) (some V) (some A) (some (.loc t)) y7 (some (.str a.1.1)) (some (rowD a.1.2)) (some (.int a.2)) y11 y12 y13) (S.set t (.dpr w (tbD (putT T a.1 a.2)))) := by
      unfold b5I
      rw [sDPutP_ap]
      show dputPD w (.loc t) (pairD a.1) (.int a.2) _ S = _
      unfold dputPD
      have hl2 : (tbD T).length < 90000 := by
        rw [tbD_len]
        omega
      simp only [dprAt_loc h, prOf_pair, hl2, if_true, put_tb]
    rw [List.map_cons, loop_step (r1 := LL ns y2 (some B) (some V) (some A) (some (.loc t)) y7 (some (.str a.1.1)) (some (rowD a.1.2)) (some (.int a.2)) y11 y12 y13) rfl e1, e, List.set_set]
    rfl
theorem b10_loop {y2 y3 y4 y5 y6 y8 y10 y11 y12 : Option D} : ∀ (ps : List (List Int × Int)) (o : Option (List Int × Int)) (y9 y13 : Option D),
    ∃ z9 z13, sLoop (tgT 2 (tgsCons (tgN 9) (tgsCons (tgN 13) tgsNil))) b10I (ps.map pairD2) (LL ns y2 y3 y4 y5 y6 (some (optD o)) y8 y9 y10 y11 y12 y13) S = .ok .next (LL ns y2 y3 y4 y5 y6 (some (optD (ps.foldl pick o))) y8 z9 y10 y11 y12 z13) S
  | [], o, y9, y13 => ⟨y9, y13, rfl⟩
  | p :: ps, o, y9, y13 => by
    obtain ⟨z9, z13, e⟩ := b10_loop (y2 := y2) (y3 := y3) (y4 := y4) (y5 := y5) (y6 := y6) (y8 := y8) (y10 := y10) (y11 := y11) (y12 := y12) ps (pick o p) (some (rowD p.1)) (some (.int p.2))
    refine ⟨z9, z13, ?_⟩
    have e1 : b10I (LL ns y2 y3 y4 y5 y6 (some (optD o)) y8 (some (rowD p.1)) y10 y11 y12 (some (.int p.2))) S = .ok .next (LL ns y2 y3 y4 y5 y6 (some (optD (pick o p))) y8 (some (rowD p.1)) y10 y11 y12 (some (.int p.2))) S := by
      refine set_of ?_
      have et : (mTup (mCons (mVar 9) (mCons (mVar 13) mNil))) (LL ns y2 y3 y4 y5 y6 (some (optD o)) y8 (some (rowD p.1)) y10 y11 y12 (some (.int p.2))) S = .ok (pairD2 p) S := tup_of (cons_of (var_of rfl) (cons_of (var_of rfl) rfl)) (show 2 ≤ 100000 by decide)
      cases o with
      | none =>
        exact ife_t (or_t (t_of (bin_of (z := .bl true) (var_of rfl) rfl rfl))) et
      | some q =>
        have ix : ixD (pairD2 q) (.int 1) S = some (.int q.2) := atI_nat (j := 1) rfl
        have eo : (mOrT (mT (mBin isND (mVar 7) (mC .non))) (mT (mBin gtD (mVar 13) (mBin ixD (mVar 7) (mC (.int 1)))))) (LL ns y2 y3 y4 y5 y6 (some (optD (some q))) y8 (some (rowD p.1)) y10 y11 y12 (some (.int p.2))) S = .ok (decide (q.2 < p.2)) S :=
          or_f (t_of (bin_of (z := .bl false) (var_of rfl) rfl rfl)) (t_of (bin_of (var_of rfl) (bin_of (var_of (v := pairD2 q) rfl) rfl ix) rfl))
        by_cases c : q.2 < p.2
        · rw [decide_eq_true c] at eo
          have : pick (some q) p = some p := if_pos c
          rw [this]
          exact ife_t eo et
        · rw [decide_eq_false c] at eo
          have : pick (some q) p = some q := if_neg c
          rw [this]
          exact ife_f eo (var_of rfl)
    rw [List.map_cons, loop_step (r1 := LL ns y2 y3 y4 y5 y6 (some (optD o)) y8 (some (rowD p.1)) y10 y11 y12 (some (.int p.2))) rfl e1, e]
    rfl
theorem lawB_ok (h63 : ns.length ≤ 63) (h0 : S[0]? = some (.tbl "best" tq)) (tw : Twn 1 n S) (hn : n ≤ 6000) {y2 y3 y4 y5 y6 y7 y8 y9 y10 y11 y12 y13 : Option D} :
    ∃ S' z3 z4 z5 z6 z7 z8 z9 z10 z11 z12 z13, lawB w (LL ns y2 y3 y4 y5 y6 y7 y8 y9 y10 y11 y12 y13) S = .ok .next (LL ns y2 z3 z4 z5 z6 z7 z8 z9 z10 z11 z12 z13) S' ∧ S'[0]? = some (.tbl "best" tq) ∧ Twn 1 (n + 1000) S' := by
  obtain ⟨tb, S1, e1, bk, tw1, d1⟩ := book_ok (most := 6) (far := 3) h63 (by omega) (by omega) tw (by omega)
  have e1 : FBook [.scr ns, .loc 1, .int 6, .int 3] S = .ok (.tup (tb.map tabD)) S1 := e1
  have wk : WdOk (tb.map fun x => (x.w, x.n)) := ⟨by simpa using bk.ne, fun p hp => by
    obtain ⟨x, hx, rfl⟩ := List.mem_map.mp hp
    have := bk.tab x hx
    exact ⟨this.w, this.lo, this.hi⟩⟩
  obtain ⟨hd, as, S2, e2, vk, tw2, d2⟩ := Dv.view_ok (many := 3) h63 (by omega) (by omega) wk tw1 (by omega)
  have q := vq_of bk (by omega) vk
  have v := q.vw
  obtain ⟨am, S3, e3, ha, hal, tw3, d3⟩ := da_ok h63 (tb := tb) (fun x hx => by have := (bk.tab x hx).len; omega) bk.len tw2 (by omega)
  have sm := sml_of ha
  obtain ⟨fs, ef⟩ := fns_of (nodup_nms as) (du tb as []) q.rlen
  have fl : fs.length ≤ 81 := by
    have := q.dl
    rw [ef, List.length_map] at this
    exact this
  have em : (du tb as []).map rowD = fs.map fun f => rowD ((nms as).map f) := by
    rw [ef, List.map_map]
    rfl
  have hans : ∀ S, FAnswers [.tup (tb.map tabD), askD as []] S = .ok (.tup (fs.map fun f => rowD ((nms as).map f))) S := fun S => by
    rw [← em]
    exact q.ans
  have hlans : ∀ S, FLAns [.tup (tb.map tabD), askD as []] S = .ok (.lst (fs.map fun f => rowD ((nms as).map f))) S := fun S => by
    rw [← em]
    exact q.lans
  have h03 : S3[0]? = some (.tbl "best" tq) := by rw [d3.other (by decide), d2.other (by decide), d1.other (by decide)]; exact h0
  have l3 : 1 < S3.length := twn_lt tw3
  obtain ⟨S4, hS4⟩ : ∃ S4, S4 = S3 ++ [O.dpr w (tbD (tblA am))] := ⟨_, rfl⟩
  have h04 : S4[0]? = some (.tbl "best" tq) := by
    rw [hS4, List.getElem?_append_left (by omega)]
    exact h03
  have ht : S4[S3.length]? = some (.dpr w (tbD (tblA am))) := by rw [hS4]; simp
  have tw4 : Twn 1 (n + 1000) S4 := by
    rw [hS4]
    exact twn_app (tw3.mono (by omega))
  have nd : ((gF (tblA am) hd as fs []).map (·.1)).Nodup := gF_nd fs List.nodup_nil
  have ok : GpOk hd (0 + fs.length) (gF (tblA am) hd as fs []) := gF_ok sm fs ⟨fun p h => (nomatch h), fun p h => (nomatch h), fun p h => (nomatch h), Nat.le_refl _⟩
  have hh := Aw.hd_ok (S := S4) (w := w) v hans (by omega) (am := am) (by omega)
  have su := Aw.sum_ok (S := S4) ok nd (by omega) hh
  have gr := Aw.grt_ok (S := S4) ok nd (by omega) hh
  have be := Aw.best_ok (S := S4) gr h04
  have ta := Aw.tab_ok (S := S4) v hlans (by omega) (fun a h => (q.ha a h).2.2) ht sm
  generalize gF (tblA am) hd as fs [] = G at su gr be ta
  have w1 : b1 (LL ns y2 y3 y4 y5 y6 y7 y8 y9 y10 y11 y12 y13) S = .ok .next (LL ns y2 (some (.tup (tb.map tabD))) y4 y5 y6 y7 y8 y9 y10 y11 y12 y13) S1 :=
    set_of (run_app (cons_of (var_of rfl) (cons_of (var_of rfl) (cons_of rfl (cons_of rfl rfl)))) rfl e1)
  have wl : (tb.map fun x => (x.w, x.n)).map wpD = tb.map fun x => D.tup [.str x.w, .int x.n] := by rw [List.map_map]; rfl
  have w2 : b2 (LL ns y2 (some (.tup (tb.map tabD))) y4 y5 y6 y7 y8 y9 y10 y11 y12 y13) S1 = .ok .next (LL ns y2 (some (.tup (tb.map tabD))) (some (viewD hd as)) y5 y6 y7 y8 y9 y10 y11 y12 y13) S2 := by
    have lc := lc_all (gm := tgT 3 (tgsCons (tgN 8) (tgsCons (tgN 14) (tgsCons (tgN 15) tgsNil)))) (te := mTup (mCons (mVar 8) (mCons (mVar 14) mNil))) (r0 := LL ns y2 (some (.tup (tb.map tabD))) y4 y5 y6 y7 none y9 y10 y11 y12 y13) (S := S1) tabD (fun x => D.tup [.str x.w, .int x.n]) tb fun x _ => ⟨[some (.scr ns), some (.loc 1), y2, some (.tup (tb.map tabD)), y4, y5, y6, y7, some (.str x.w), y9, y10, y11, y12, y13, some (.int x.n), some (.tup (x.rows.map rowD))], rfl, rfl⟩
    rw [wl] at e2
    exact set_of (run_app (cons_of (var_of rfl) (cons_of (var_of rfl) (cons_of rfl (cons_of (lc_of (ds := tb.map tabD) (iter_of (var_of rfl) rfl) lc) rfl)))) rfl e2)
  have w3 : b3 (LL ns y2 (some (.tup (tb.map tabD))) (some (viewD hd as)) y5 y6 y7 y8 y9 y10 y11 y12 y13) S2 = .ok .next (LL ns y2 (some (.tup (tb.map tabD))) (some (viewD hd as)) (some (amD am)) y6 y7 y8 y9 y10 y11 y12 y13) S3 :=
    set_of (run_app (cons_of (var_of rfl) (cons_of (var_of rfl) (cons_of (var_of rfl) rfl))) rfl e3)
  have w4 : b4 w (LL ns y2 (some (.tup (tb.map tabD))) (some (viewD hd as)) (some (amD am)) y6 y7 y8 y9 y10 y11 y12 y13) S3 = .ok .next (LL ns y2 (some (.tup (tb.map tabD))) (some (viewD hd as)) (some (amD am)) (some (.loc S3.length)) y7 y8 y9 y10 y11 y12 y13) (S3 ++ [.dpr w []]) := rfl
  obtain ⟨z8, z9, z10, e5⟩ := b5_loop (w := w) (ns := ns) (t := S3.length) (B := .tup (tb.map tabD)) (V := viewD hd as) (A := amD am) (y2 := y2) (y7 := y7) (y11 := y11) (y12 := y12) (y13 := y13) am [] (S3 ++ [.dpr w []]) y8 y9 y10 (by simp [tbD]) (by simp; omega)
  have eS : (S3 ++ [O.dpr w []]).set S3.length (.dpr w (tbD (am.foldl (fun T a => putT T a.1 a.2) []))) = S4 := by
    rw [hS4]
    exact last_set _ _
  rw [eS] at e5
  have w5 : b5 w (LL ns y2 (some (.tup (tb.map tabD))) (some (viewD hd as)) (some (amD am)) (some (.loc S3.length)) y7 y8 y9 y10 y11 y12 y13) (S3 ++ [.dpr w []]) = .ok .next (LL ns y2 (some (.tup (tb.map tabD))) (some (viewD hd as)) (some (amD am)) (some (.loc S3.length)) y7 z8 z9 z10 y11 y12 y13) S4 := by
    have it : mIter (mVar 5) (LL ns y2 (some (.tup (tb.map tabD))) (some (viewD hd as)) (some (amD am)) (some (.loc S3.length)) y7 y8 y9 y10 y11 y12 y13) (S3 ++ [.dpr w []]) = .ok (am.map triD) (S3 ++ [.dpr w []]) := iter_of (var_of rfl) rfl
    unfold b5
    rw [for_of it]
    exact e5
  have w6 : b6 w (LL ns y2 (some (.tup (tb.map tabD))) (some (viewD hd as)) (some (amD am)) (some (.loc S3.length)) y7 z8 z9 z10 y11 y12 y13) S4 = .ok .next (LL ns y2 (some (.tup (tb.map tabD))) (some (viewD hd as)) (some (amD am)) (some (.loc S3.length)) y7 z8 z9 z10 (some (outD G sumG)) (some (outD G maxG)) y13) S4 :=
    asg_of (run_app (cons_of (var_of rfl) (cons_of (var_of rfl) (cons_of (var_of rfl) rfl))) rfl ta) rfl
  have w7 : b7 w (LL ns y2 (some (.tup (tb.map tabD))) (some (viewD hd as)) (some (amD am)) (some (.loc S3.length)) y7 z8 z9 z10 (some (outD G sumG)) (some (outD G maxG)) y13) S4 = .ok .next (LL ns y2 (some (.tup (tb.map tabD))) (some (viewD hd as)) (some (amD am)) (some (.loc S3.length)) y7 z8 z9 z10 (some (outD G sumG)) (some (outD G maxG)) y13) S4 :=
    if_no (not_of (b := true) (tru_of (v := .bl true) (run_app (cons_of (run_app (cons_of (var_of rfl) (cons_of (var_of rfl) (cons_of (var_of rfl) rfl))) rfl su) (cons_of (var_of rfl) rfl)) rfl (same6 (pt_out G sumG))) rfl))
  have w8 : b8 w (LL ns y2 (some (.tup (tb.map tabD))) (some (viewD hd as)) (some (amD am)) (some (.loc S3.length)) y7 z8 z9 z10 (some (outD G sumG)) (some (outD G maxG)) y13) S4 = .ok .next (LL ns y2 (some (.tup (tb.map tabD))) (some (viewD hd as)) (some (amD am)) (some (.loc S3.length)) y7 z8 z9 z10 (some (outD G sumG)) (some (outD G maxG)) y13) S4 :=
    if_no (not_of (b := true) (tru_of (v := .bl true) (run_app (cons_of (run_app (cons_of (var_of rfl) (cons_of (var_of rfl) (cons_of (var_of rfl) rfl))) rfl gr) (cons_of (var_of rfl) rfl)) rfl (same6 (pt_out G maxG))) rfl))
  have w9 : b9 (LL ns y2 (some (.tup (tb.map tabD))) (some (viewD hd as)) (some (amD am)) (some (.loc S3.length)) y7 z8 z9 z10 (some (outD G sumG)) (some (outD G maxG)) y13) S4 = .ok .next (LL ns y2 (some (.tup (tb.map tabD))) (some (viewD hd as)) (some (amD am)) (some (.loc S3.length)) (some .non) z8 z9 z10 (some (outD G sumG)) (some (outD G maxG)) y13) S4 := rfl
  obtain ⟨x9, x13, e10⟩ := b10_loop (S := S4) (ns := ns) (y2 := y2) (y3 := some (.tup (tb.map tabD))) (y4 := some (viewD hd as)) (y5 := some (amD am)) (y6 := some (.loc S3.length)) (y8 := z8) (y10 := z10) (y11 := some (outD G sumG)) (y12 := some (outD G maxG)) (psG G maxG) none z9 y13
  have w10 : b10 (LL ns y2 (some (.tup (tb.map tabD))) (some (viewD hd as)) (some (amD am)) (some (.loc S3.length)) (some .non) z8 z9 z10 (some (outD G sumG)) (some (outD G maxG)) y13) S4 = .ok .next (LL ns y2 (some (.tup (tb.map tabD))) (some (viewD hd as)) (some (amD am)) (some (.loc S3.length)) (some (optD (bestO G))) z8 x9 z10 (some (outD G sumG)) (some (outD G maxG)) x13) S4 := by
    have it : mIter (mVar 12) (LL ns y2 (some (.tup (tb.map tabD))) (some (viewD hd as)) (some (amD am)) (some (.loc S3.length)) (some .non) z8 z9 z10 (some (outD G sumG)) (some (outD G maxG)) y13) S4 = .ok ((psG G maxG).map pairD2) S4 := iter_of (var_of rfl) (by rw [out_ps]; rfl)
    unfold b10
    rw [for_of it]
    exact e10
  have pb : pt 5 (optD (bestO G)) = true := by
    cases bestO G with
    | none => rfl
    | some p =>
      show (pt 4 (rowD p.1) && (pt 4 (.int p.2) && true)) = true
      rw [pt_row]
      rfl
  have w11 : b11 w (LL ns y2 (some (.tup (tb.map tabD))) (some (viewD hd as)) (some (amD am)) (some (.loc S3.length)) (some (optD (bestO G))) z8 x9 z10 (some (outD G sumG)) (some (outD G maxG)) x13) S4 = .ok .next (LL ns y2 (some (.tup (tb.map tabD))) (some (viewD hd as)) (some (amD am)) (some (.loc S3.length)) (some (optD (bestO G))) z8 x9 z10 (some (outD G sumG)) (some (outD G maxG)) x13) S4 :=
    if_no (not_of (b := true) (tru_of (v := .bl true) (run_app (cons_of (run_app (cons_of (var_of rfl) (cons_of (var_of rfl) (cons_of (var_of rfl) rfl))) rfl be) (cons_of (var_of rfl) rfl)) rfl (same6 pb)) rfl))
  refine ⟨S4, some (.tup (tb.map tabD)), some (viewD hd as), some (amD am), some (.loc S3.length), some (optD (bestO G)), z8, x9, z10, some (outD G sumG), some (outD G maxG), x13, ?_, h04, tw4⟩
  unfold lawB
  rw [seq_ok w1, seq_ok w2, seq_ok w3, seq_ok w4, seq_ok w5, seq_ok w6, seq_ok w7, seq_ok w8, seq_ok w9, seq_ok w10]
  exact w11
end
theorem law_true (w : World) (ns : List Int) (h : ns.length ≤ 63) : ∃ fu S, F_law w fu [.scr ns] [.tbl "best" "best.<locals>.<lambda>"] = .ok (.bl true) S := by
  obtain ⟨r1, S1, ea, ⟨y2, y3, y4, y5, y6, y7, y8, y9, y10, y11, y12, y13, rfl⟩, h0, tw⟩ := loop_inv (gm := tgN 2) (b := lawB w)
    (fun i r S' => (∃ y2 y3 y4 y5 y6 y7 y8 y9 y10 y11 y12 y13, r = LL ns y2 y3 y4 y5 y6 y7 y8 y9 y10 y11 y12 y13) ∧ S'[0]? = some (.tbl "best" tq) ∧ Twn 1 (1000 * i) S') (rng 0 4) 0 (LL ns none none none none none none none none none none none none) [.tbl "best" tq, .lst []] (fun i d r S1 hd hi => by
      obtain ⟨hi2, rfl⟩ := rng0_get hd
      obtain ⟨⟨y2, y3, y4, y5, y6, y7, y8, y9, y10, y11, y12, y13, rfl⟩, h0, tw⟩ := hi
      obtain ⟨S', z3, z4, z5, z6, z7, z8, z9, z10, z11, z12, z13, e, h0', tw'⟩ := lawB_ok (w := w) h h0 tw (by omega) (y2 := some (.int i)) (y3 := y3) (y4 := y4) (y5 := y5) (y6 := y6) (y7 := y7) (y8 := y8) (y9 := y9) (y10 := y10) (y11 := y11) (y12 := y12) (y13 := y13)
      exact ⟨_, _, S', rfl, .inl e, ⟨_, _, _, _, _, _, _, _, _, _, _, _, rfl⟩, h0', tw'.mono (by omega)⟩) ⟨⟨_, _, _, _, _, _, _, _, _, _, _, _, rfl⟩, rfl, ⟨[], by simp, rfl⟩⟩
  have hb : m_law w 100 (frame 16 [.scr ns]) [.tbl "best" tq] = .ok (.ret (.bl true)) (LL ns y2 y3 y4 y5 y6 y7 y8 y9 y10 y11 y12 y13) S1 := by
    rw [law_eq]
    have ef : frame 16 [.scr ns] = [some (.scr ns), none, none, none, none, none, none, none, none, none, none, none, none, none, none, none] := rfl
    rw [ef]
    simp [ea]
  obtain ⟨S, e⟩ := fin_tbl (rho := LL ns y2 y3 y4 y5 y6 y7 y8 y9 y10 y11 y12 y13) (d := .bl true) h0 rfl
  refine ⟨100, S, ?_⟩
  show finT _ (m_law w 100 _ _) = _
  rw [hb]
  exact e
end Law
namespace Law
open PySem L2 Dv
set_option maxHeartbeats 0 in
theorem all_mk {l : PySem.W.OpenLaw} {w : World} {K : PySem.W.Frag} {h : Heap} {mg : Str → Option Value} {fa Q0 Q09 Qk Qi Qj Qg QX Q0y Qh Qp QH QM Q08 Q0z Q0v Q0K Q0M Q0w QN Q0N Q1z Q47 QW Q0A QR Q1t Q0x Q31 Q5F QP QG : Addr} (X : K.In h) (G : h.Ns mainGlobals mg) (hfa : mg "law" = some (.ref fa))
    {Qd Qa Qe Q9 Q5 Qb Q4J Q4C Q4B Q4s Q2r Q4E Q28 Q22 Q27 Q1Y Q0a Q1X Q29 Q1W Q1T Q1S Q0d Q2n Q2p Q2s Q21 Q1U Q0b Q2j Q1d Q1f Q1h Q1j QO Q1e Q3X Q3T Q3I Q44 Q1D Q3P Q5l Q4N Q5m Q5j Q2K Q5g Q1I Q1K Q1O Q1M QZ Q1J Q2z Q2D Q2B Q2F Q0u Q2G Q2Z Q36 Q32 Q3a Q0L Q2Y Q3h Q3d Q3k Q3w Q1n Q3A Q4d Q4i Q4v Q4l Q2e Q4c Q5f Q53 Q5v Q55 Q2N Q5t Q5r Q56 Q4W Q5p Q2P Q4Z Q5W Q5C Q5T Q5O Q3c Q5P Q5J Q66 Q5U Q5V Q2U Q5L Q5b Q5x Q4K Q4V Q2M Q5s Q3u Q3x Q3s Q3j Q1k Q3p Q5I Q5Z Q67 Q63 Q2X Q5E Q6i Q6w Q6x Q6b Q3E Q6u Q6S Q6X Q6O Q6Y Q69 Q6Z Q40 Q3N Q3U Q3H Q1F Q3R Q54 Q5i Q52 Q58 Q2I Q5q Q46 Q3J Q41 Q3W Q1E Q45 Q6c Q6s Q6m Q6d Q3F Q6j Q5w Q5e Q5c Q5n Q2O Q51 Q6F Q6L Q6I Q6E Q6H : Value} {Q7 Qc Q4A Q4k Q2k Q25 Q26 Q20 Q2b Q2q Q1i Q1g Q43 Q3M Q4S Q4L Q1N Q1L Q2x Q2y Q3b Q2W Q3v Q3f Q48 Q4w Q5y Q4Y Q5d Q4P Q64 Q5S Q5R Q5N Q4O Q5k Q3n Q3r Q62 Q61 Q6p Q6h Q6U Q6N Q3K Q3S Q5a Q4X Q3V Q3O Q6k Q6a Q59 Q57 Q6K Q6C : Option Addr} {Q8 Q4r Q23 Q2m Q2g Q1m Q42 Q4U Q1P Q2C Q33 Q3g Q4a Q4R Q5u Q65 Q5G Q5h Q3m Q5X Q6e Q6V Q3G Q4T Q3Y Q6r Q50 Q6J : Array (Option Value)}
    {Q6M : Value} {Q6G : Option Addr} {Q5A : Array Value} {Q6D : Array (Option Value)}
    {Q6W Q6o Q68 Q6l Q4b Q6v : Value} {Q6R Q6n : Option Addr} {Q6P : Array (Option Value)}
    (Q1 : PySem.W.nsIn K mainGlobals "_law_draw" = some (some (.ref Q0)))
    (Q4 : K.lookup Q0 = some ⟨Qd, Q7, .func (PySem.W.fnOf "_law_draw" "_law_draw" (defArgs s__law_draw) (defBody s__law_draw) (defScope s__law_draw) .none Qa Qe Q9 Qc Q5 Qb), Q8⟩)
    (Q2 : PySem.W.codeIn K Q5 "_law_draw" = true)
    (Q3 : PySem.W.keepIn K (.ref Q0) = true)
    (Q0F : PySem.W.nsIn K mainGlobals "_law_pick" = some (some (.ref Q09)))
    (Q0D : K.lookup Q09 = some ⟨Q4J, Q4A, .func (PySem.W.fnOf "_law_pick" "_law_pick" (defArgs s__law_pick) (defBody s__law_pick) (defScope s__law_pick) .none Q4C Q4B Q4s Q4k Q2r Q4E), Q4r⟩)
    (Q0H : PySem.W.codeIn K Q2r "_law_pick" = true)
    (Q0E : PySem.W.keepIn K (.ref Q09) = true)
    (QD : PySem.W.nsIn K mainGlobals "_law_drawn_rows" = some (some (.ref Qk)))
    (QE : K.lookup Qk = some ⟨Q28, Q2k, .func (PySem.W.fnOf "_law_drawn_rows" "_law_drawn_rows" (defArgs s__law_drawn_rows) (defBody s__law_drawn_rows) (defScope s__law_drawn_rows) .none Q22 Q27 Q1Y Q25 Q0a Q1X), Q23⟩)
    (Qu : PySem.W.codeIn K Q0a "_law_drawn_rows" = true)
    (QC : PySem.W.keepIn K (.ref Qk) = true)
    (QA : PySem.W.nsIn K mainGlobals "_law_drawn_book" = some (some (.ref Qi)))
    (QB : K.lookup Qi = some ⟨Q29, Q26, .func (PySem.W.fnOf "_law_drawn_book" "_law_drawn_book" (defArgs s__law_drawn_book) (defBody s__law_drawn_book) (defScope s__law_drawn_book) .none Q1W Q1T Q1S Q20 Q0d Q2n), Q2m⟩)
    (Qz : PySem.W.codeIn K Q0d "_law_drawn_book" = true)
    (Qy : PySem.W.keepIn K (.ref Qi) = true)
    (QF : PySem.W.nsIn K mainGlobals "_law_drawn_view" = some (some (.ref Qj)))
    (Qw : K.lookup Qj = some ⟨Q2p, Q2b, .func (PySem.W.fnOf "_law_drawn_view" "_law_drawn_view" (defArgs s__law_drawn_view) (defBody s__law_drawn_view) (defScope s__law_drawn_view) .none Q2s Q21 Q1U Q2q Q0b Q2j), Q2g⟩)
    (Qv : PySem.W.codeIn K Q0b "_law_drawn_view" = true)
    (Qx : PySem.W.keepIn K (.ref Qj) = true)
    (Qm : PySem.W.nsIn K mainGlobals "_law_drawn_amounts" = some (some (.ref Qg)))
    (Qn : K.lookup Qg = some ⟨Q1d, Q1i, .func (PySem.W.fnOf "_law_drawn_amounts" "_law_drawn_amounts" (defArgs s__law_drawn_amounts) (defBody s__law_drawn_amounts) (defScope s__law_drawn_amounts) .none Q1f Q1h Q1j Q1g QO Q1e), Q1m⟩)
    (Qo : PySem.W.codeIn K QO "_law_drawn_amounts" = true)
    (Ql : PySem.W.keepIn K (.ref Qg) = true)
    (Q0m : PySem.W.nsIn K mainGlobals "_law_names" = some (some (.ref QX)))
    (Q0e : K.lookup QX = some ⟨Q3X, Q43, .func (PySem.W.fnOf "_law_names" "_law_names" (defArgs s__law_names) (defBody s__law_names) (defScope s__law_names) .none Q3T Q3I Q44 Q3M Q1D Q3P), Q42⟩)
    (Q0k : PySem.W.codeIn K Q1D "_law_names" = true)
    (Q0o : PySem.W.keepIn K (.ref QX) = true)
    (Q18 : PySem.W.nsIn K mainGlobals "_law_put" = some (some (.ref Q0y)))
    (Q0W : K.lookup Q0y = some ⟨Q5l, Q4S, .func (PySem.W.fnOf "_law_put" "_law_put" (defArgs s__law_put) (defBody s__law_put) (defScope s__law_put) .none Q4N Q5m Q5j Q4L Q2K Q5g), Q4U⟩)
    (Q0R : PySem.W.codeIn K Q2K "_law_put" = true)
    (Q11 : PySem.W.keepIn K (.ref Q0y) = true)
    (Qs : PySem.W.nsIn K mainGlobals "_law_checks_hold" = some (some (.ref Qh)))
    (Qt : K.lookup Qh = some ⟨Q1I, Q1N, .func (PySem.W.fnOf "_law_checks_hold" "_law_checks_hold" (defArgs s__law_checks_hold) (defBody s__law_checks_hold) (defScope s__law_checks_hold) .none Q1K Q1O Q1M Q1L QZ Q1J), Q1P⟩)
    (Qr : PySem.W.codeIn K QZ "_law_checks_hold" = true)
    (Qq : PySem.W.keepIn K (.ref Qh) = true)
    (QL : PySem.W.nsIn K mainGlobals "_law_is_answer" = some (some (.ref Qp)))
    (QI : K.lookup Qp = some ⟨Q2z, Q2x, .func (PySem.W.fnOf "_law_is_answer" "_law_is_answer" (defArgs s__law_is_answer) (defBody s__law_is_answer) (defScope s__law_is_answer) .none Q2D Q2B Q2F Q2y Q0u Q2G), Q2C⟩)
    (QK : PySem.W.codeIn K Q0u "_law_is_answer" = true)
    (QJ : PySem.W.keepIn K (.ref Qp) = true)
    (QT : PySem.W.nsIn K mainGlobals "_law_answers" = some (some (.ref QH)))
    (QV : K.lookup QH = some ⟨Q2Z, Q3b, .func (PySem.W.fnOf "_law_answers" "_law_answers" (defArgs s__law_answers) (defBody s__law_answers) (defScope s__law_answers) .none Q36 Q32 Q3a Q2W Q0L Q2Y), Q33⟩)
    (QU : PySem.W.codeIn K Q0L "_law_answers" = true)
    (QS : PySem.W.keepIn K (.ref QH) = true)
    (Q06 : PySem.W.nsIn K mainGlobals "_law_tables" = some (some (.ref QM)))
    (Q01 : K.lookup QM = some ⟨Q3h, Q3v, .func (PySem.W.fnOf "_law_tables" "_law_tables" (defArgs s__law_tables) (defBody s__law_tables) (defScope s__law_tables) .none Q3d Q3k Q3w Q3f Q1n Q3A), Q3g⟩)
    (Q04 : PySem.W.codeIn K Q1n "_law_tables" = true)
    (Q03 : PySem.W.keepIn K (.ref QM) = true)
    (Q0I : PySem.W.nsIn K mainGlobals "_law_same" = some (some (.ref Q08)))
    (Q0J : K.lookup Q08 = some ⟨Q4d, Q48, .func (PySem.W.fnOf "_law_same" "_law_same" (defArgs s__law_same) (defBody s__law_same) (defScope s__law_same) .none Q4i Q4v Q4l Q4w Q2e Q4c), Q4a⟩)
    (Q0B : PySem.W.codeIn K Q2e "_law_same" = true)
    (Q0G : PySem.W.keepIn K (.ref Q08) = true)
    (Q0U : PySem.W.nsIn K mainGlobals "names_in" = some (some (.ref Q0z)))
    (Q14 : K.lookup Q0z = some ⟨Q5f, Q5y, .func (PySem.W.fnOf "names_in" "names_in" (defArgs s_names_in) (defBody s_names_in) (defScope s_names_in) .none Q53 Q5v Q55 Q4Y Q2N Q5t), Q4R⟩)
    (Q0X : PySem.W.codeIn K Q2N "names_in" = true)
    (Q10 : PySem.W.keepIn K (.ref Q0z) = true)
    (Q1c : PySem.W.nsIn K mainGlobals "names_of" = some (some (.ref Q0v)))
    (Q0S : K.lookup Q0v = some ⟨Q5r, Q5d, .func (PySem.W.fnOf "names_of" "names_of" (defArgs s_names_of) (defBody s_names_of) (defScope s_names_of) .none Q56 Q4W Q5p Q4P Q2P Q4Z), Q5u⟩)
    (Q17 : PySem.W.codeIn K Q2P "names_of" = true)
    (Q15 : PySem.W.keepIn K (.ref Q0v) = true)
    (Q1q : PySem.W.nsIn K mainGlobals "rows_of" = some (some (.ref Q0K)))
    (Q1C : K.lookup Q0K = some ⟨Q5W, Q64, .func (PySem.W.fnOf "rows_of" "rows_of" (defArgs s_rows_of) (defBody s_rows_of) (defScope s_rows_of) .none Q5C Q5T Q5O Q5S Q3c Q5P), Q65⟩)
    (Q1o : PySem.W.codeIn K Q3c "rows_of" = true)
    (Q1v : PySem.W.keepIn K (.ref Q0K) = true)
    (Q1x : PySem.W.nsIn K mainGlobals "matched" = some (some (.ref Q0M)))
    (Q1y : K.lookup Q0M = some ⟨Q5J, Q5R, .func (PySem.W.fnOf "matched" "matched" (defArgs s_matched) (defBody s_matched) (defScope s_matched) .none Q66 Q5U Q5V Q5N Q2U Q5L), Q5G⟩)
    (Q1s : PySem.W.codeIn K Q2U "matched" = true)
    (Q1p : PySem.W.keepIn K (.ref Q0M) = true)
    (Q0Z : PySem.W.nsIn K mainGlobals "value_of" = some (some (.ref Q0w)))
    (Q0V : K.lookup Q0w = some ⟨Q5b, Q4O, .func (PySem.W.fnOf "value_of" "value_of" (defArgs s_value_of) (defBody s_value_of) (defScope s_value_of) .none Q5x Q4K Q4V Q5k Q2M Q5s), Q5h⟩)
    (Q0T : PySem.W.codeIn K Q2M "value_of" = true)
    (Q1b : PySem.W.keepIn K (.ref Q0w) = true)
    (Q07 : PySem.W.nsIn K mainGlobals "check_holds" = some (some (.ref QN)))
    (Q00 : K.lookup QN = some ⟨Q3u, Q3n, .func (PySem.W.fnOf "check_holds" "check_holds" (defArgs s_check_holds) (defBody s_check_holds) (defScope s_check_holds) .none Q3x Q3s Q3j Q3r Q1k Q3p), Q3m⟩)
    (Q02 : PySem.W.codeIn K Q1k "check_holds" = true)
    (Q05 : PySem.W.keepIn K (.ref QN) = true)
    (Q1A : PySem.W.nsIn K mainGlobals "answers" = some (some (.ref Q0N)))
    (Q1w : K.lookup Q0N = some ⟨Q5I, Q62, .func (PySem.W.fnOf "answers" "answers" (defArgs s_answers) (defBody s_answers) (defScope s_answers) .none Q5Z Q67 Q63 Q61 Q2X Q5E), Q5X⟩)
    (Q1u : PySem.W.codeIn K Q2X "answers" = true)
    (Q1r : PySem.W.keepIn K (.ref Q0N) = true)
    (Q2t : PySem.W.nsIn K mainGlobals "ask_of" = some (some (.ref Q1z)))
    (Q1R : K.lookup Q1z = some ⟨Q6i, Q6p, .func (PySem.W.fnOf "ask_of" "ask_of" (defArgs s_ask_of) (defBody s_ask_of) (defScope s_ask_of) .none Q6w Q6x Q6b Q6h Q3E Q6u), Q6e⟩)
    (Q1V : PySem.W.codeIn K Q3E "ask_of" = true)
    (Q2a : PySem.W.keepIn K (.ref Q1z) = true)
    (Q4e : PySem.W.nsIn K mainGlobals "put" = some (some (.ref Q47)))
    (Q4D : K.lookup Q47 = some ⟨Q6S, Q6U, .func (PySem.W.fnOf "put" "put" (defArgs s_put) (defBody s_put) (defScope s_put) .none Q6X Q6O Q6Y Q6N Q69 Q6Z), Q6V⟩)
    (Q49 : PySem.W.codeIn K Q69 "put" = true)
    (Q4g : PySem.W.keepIn K (.ref Q47) = true)
    (Q0l : PySem.W.nsIn K mainGlobals "amounts_of" = some (some (.ref QW)))
    (Q0g : K.lookup QW = some ⟨Q40, Q3K, .func (PySem.W.fnOf "amounts_of" "amounts_of" (defArgs s_amounts_of) (defBody s_amounts_of) (defScope s_amounts_of) .none Q3N Q3U Q3H Q3S Q1F Q3R), Q3G⟩)
    (Q0p : PySem.W.codeIn K Q1F "amounts_of" = true)
    (Q0i : PySem.W.keepIn K (.ref QW) = true)
    (Q0P : PySem.W.nsIn K mainGlobals "heads_of" = some (some (.ref Q0A)))
    (Q13 : K.lookup Q0A = some ⟨Q54, Q5a, .func (PySem.W.fnOf "heads_of" "heads_of" (defArgs s_heads_of) (defBody s_heads_of) (defScope s_heads_of) .none Q5i Q52 Q58 Q4X Q2I Q5q), Q4T⟩)
    (Q19 : PySem.W.codeIn K Q2I "heads_of" = true)
    (Q16 : PySem.W.keepIn K (.ref Q0A) = true)
    (Q0j : PySem.W.nsIn K mainGlobals "product_of" = some (some (.ref QR)))
    (Q0q : K.lookup QR = some ⟨Q46, Q3V, .func (PySem.W.fnOf "product_of" "product_of" (defArgs s_product_of) (defBody s_product_of) (defScope s_product_of) .none Q3J Q41 Q3W Q3O Q1E Q45), Q3Y⟩)
    (Q0n : PySem.W.codeIn K Q1E "product_of" = true)
    (Q0f : PySem.W.keepIn K (.ref QR) = true)
    (Q2c : PySem.W.nsIn K mainGlobals "summed" = some (some (.ref Q1t)))
    (Q2l : K.lookup Q1t = some ⟨Q6c, Q6k, .func (PySem.W.fnOf "summed" "summed" (defArgs s_summed) (defBody s_summed) (defScope s_summed) .none Q6s Q6m Q6d Q6a Q3F Q6j), Q6r⟩)
    (Q2h : PySem.W.codeIn K Q3F "summed" = true)
    (Q24 : PySem.W.keepIn K (.ref Q1t) = true)
    (Q0O : PySem.W.nsIn K mainGlobals "greatest" = some (some (.ref Q0x)))
    (Q12 : K.lookup Q0x = some ⟨Q5w, Q59, .func (PySem.W.fnOf "greatest" "greatest" (defArgs s_greatest) (defBody s_greatest) (defScope s_greatest) .none Q5e Q5c Q5n Q57 Q2O Q51), Q50⟩)
    (Q1a : PySem.W.codeIn K Q2O "greatest" = true)
    (Q0Y : PySem.W.keepIn K (.ref Q0x) = true)
    (Q2v : PySem.W.nsIn K mainGlobals "best" = some (some (.ref Q31)))
    (Q2w : K.lookup Q31 = some ⟨Q6F, Q6K, .func (PySem.W.fnOf "best" "best" (defArgs s_best) (defBody s_best) (defScope s_best) .none Q6L Q6I Q6E Q6C (.ref QP) Q6H), Q6J⟩)
    (Q3z : PySem.W.codeIn K (.ref QP) "best" = true)
    (Q5z : K.lookup QP = some ⟨Q6M, Q6G, .fields Q5A, Q6D⟩)
    (Q5B : Q5A[11]? = some (.ref QG))
    (Q2u : PySem.W.codeHdIn K QP QG = true)
    (Q3i : K.lookup QG = none)
    (Q3q : h.get? QG = some (PySem.W.tabObj #[]))
    (Q3y : PySem.W.keepIn K (.ref Q31) = true)
    (Q38 : PySem.W.nsIn K mainGlobals "law" = some (some (.ref Q5F)))
    (Q4m : K.lookup Q5F = some ⟨Q6W, Q6R, .func (PySem.W.fnOf "law" "law" (defArgs s_law) (defBody s_law) (defScope s_law) .none Q6o Q68 Q6l Q6n Q4b Q6v), Q6P⟩)
    (Q4u : PySem.W.codeIn K Q4b "law" = true)
    (Q4p : PySem.W.keepIn K (.ref Q5F) = true)
    (Q4q : PySem.W.nsIn K mainGlobals "abs" = some none)
    (Q4F : PySem.W.nsIn K mainGlobals "all" = some none)
    (Q3t : PySem.W.nsIn K mainGlobals "bool" = some none)
    (Q3e : PySem.W.nsIn K mainGlobals "dict" = some none)
    (Q4H : PySem.W.nsIn K mainGlobals "int" = some none)
    (Q0h : PySem.W.nsIn K mainGlobals "isinstance" = some none)
    (Q4I : PySem.W.nsIn K mainGlobals "len" = some none)
    (Q3o : PySem.W.nsIn K mainGlobals "list" = some none)
    (Q4t : PySem.W.nsIn K mainGlobals "max" = some none)
    (Q2T : PySem.W.nsIn K mainGlobals "range" = some none)
    (Q4y : PySem.W.nsIn K mainGlobals "set" = some none)
    (Q2d : PySem.W.nsIn K mainGlobals "sorted" = some none)
    (Q4h : PySem.W.nsIn K mainGlobals "str" = some none)
    (Q4f : PySem.W.nsIn K mainGlobals "sum" = some none)
    (Q2R : PySem.W.nsIn K mainGlobals "tuple" = some none)
    (Q4z : PySem.W.nsIn K mainGlobals "zip" = some none)
    : LamX.LawAtS l w K (L2.CX l.prog w) 8 63 "script" mg fa h := by
  have e := hfa.symm.trans (PySem.W.mg_of X G Q38)
  cases e
  have Q6 := fun_mk (st := s__law_draw) Q4 Q2 Q3
  have Qf : Binds K _ P__law_draw [] := Q6.binds (ps := P__law_draw) fun _ _ _ _ _ _ us hl => match us, hl with | [_, _, _], _ => rfl
  have Q2J := fun_mk (st := s__law_pick) Q0D Q0H Q0E
  have Q4M : Binds K _ P__law_pick [] := Q2J.binds (ps := P__law_pick) fun _ _ _ _ _ _ us hl => match us, hl with | [_, _, _], _ => rfl
  have Q0t := fun_mk (st := s__law_drawn_rows) QE Qu QC
  have Q2A : Binds K _ P__law_drawn_rows [] := Q0t.binds (ps := P__law_drawn_rows) fun _ _ _ _ _ _ us hl => match us, hl with | [_, _, _, _, _], _ => rfl
  have Q0r := fun_mk (st := s__law_drawn_book) QB Qz Qy
  have Q2E : Binds K _ P__law_drawn_book [] := Q0r.binds (ps := P__law_drawn_book) fun _ _ _ _ _ _ us hl => match us, hl with | [_, _, _, _], _ => rfl
  have Q0s := fun_mk (st := s__law_drawn_view) Qw Qv Qx
  have Q2H : Binds K _ P__law_drawn_view [] := Q0s.binds (ps := P__law_drawn_view) fun _ _ _ _ _ _ us hl => match us, hl with | [_, _, _, _], _ => rfl
  have QY := fun_mk (st := s__law_drawn_amounts) Qn Qo Ql
  have Q1B : Binds K _ P__law_drawn_amounts [] := QY.binds (ps := P__law_drawn_amounts) fun _ _ _ _ _ _ us hl => match us, hl with | [_, _, _], _ => rfl
  have Q1Z := fun_mk (st := s__law_names) Q0e Q0k Q0o
  have Q4n : Binds K _ P__law_names [] := Q1Z.binds (ps := P__law_names) fun _ _ _ _ _ _ us hl => match us, hl with | [_], _ => rfl
  have Q2V := fun_mk (st := s__law_put) Q0W Q0R Q11
  have Q5M : Binds K _ P__law_put [] := Q2V.binds (ps := P__law_put) fun _ _ _ _ _ _ us hl => match us, hl with | [_, _], _ => rfl
  have Q0c := fun_mk (st := s__law_checks_hold) Qt Qr Qq
  have Q2i : Binds K _ P__law_checks_hold [] := Q0c.binds (ps := P__law_checks_hold) fun _ _ _ _ _ _ us hl => match us, hl with | [_, _], _ => rfl
  have Q0C := fun_mk (st := s__law_is_answer) QI QK QJ
  have Q2S : Binds K _ P__law_is_answer [] := Q0C.binds (ps := P__law_is_answer) fun _ _ _ _ _ _ us hl => match us, hl with | [_, _, _], _ => rfl
  have Q1l := fun_mk (st := s__law_answers) QV QU QS
  have Q3l : Binds K _ P__law_answers [] := Q1l.binds (ps := P__law_answers) fun _ _ _ _ _ _ us hl => match us, hl with | [_, _], _ => rfl
  have Q1H := fun_mk (st := s__law_tables) Q01 Q04 Q03
  have Q3Z : Binds K _ P__law_tables [] := Q1H.binds (ps := P__law_tables) fun _ _ _ _ _ _ us hl => match us, hl with | [_, _, _], _ => rfl
  have Q2L := fun_mk (st := s__law_same) Q0J Q0B Q0G
  have Q5o : Binds K _ P__law_same [] := Q2L.binds (ps := P__law_same) fun _ _ _ _ _ _ us hl => match us, hl with | [_, _], _ => rfl
  have Q39 := fun_mk (st := s_names_in) Q14 Q0X Q10
  have Q60 : Binds K _ P_names_in [] := Q39.binds (ps := P_names_in) fun _ _ _ _ _ _ us hl => match us, hl with | [_], _ => rfl
  have Q37 := fun_mk (st := s_names_of) Q0S Q17 Q15
  have Q5D : Binds K _ P_names_of [] := Q37.binds (ps := P_names_of) fun _ _ _ _ _ _ us hl => match us, hl with | [_], _ => rfl
  have Q3C := fun_mk (st := s_rows_of) Q1C Q1o Q1v
  have Q6g : Binds K _ P_rows_of [] := Q3C.binds (ps := P_rows_of) fun _ _ _ _ _ _ us hl => match us, hl with | [_, _], _ => rfl
  have Q3B := fun_mk (st := s_matched) Q1y Q1s Q1p
  have Q6q : Binds K _ P_matched [] := Q3B.binds (ps := P_matched) fun _ _ _ _ _ _ us hl => match us, hl with | [_, _, _], _ => rfl
  have Q34 := fun_mk (st := s_value_of) Q0V Q0T Q1b
  have Q5H : Binds K _ P_value_of [] := Q34.binds (ps := P_value_of) fun _ _ _ _ _ _ us hl => match us, hl with | [_, _], _ => rfl
  have Q1G := fun_mk (st := s_check_holds) Q00 Q02 Q05
  have Q3L : Binds K _ P_check_holds [] := Q1G.binds (ps := P_check_holds) fun _ _ _ _ _ _ us hl => match us, hl with | [_, _], _ => rfl
  have Q3D := fun_mk (st := s_answers) Q1w Q1u Q1r
  have Q6t : Binds K _ P_answers [] := Q3D.binds (ps := P_answers) fun _ _ _ _ _ _ us hl => match us, hl with | [_, _], _ => rfl
  have Q4x := fun_mk (st := s_ask_of) Q1R Q1V Q2a
  have Q6z : Binds K _ P_ask_of [] := Q4x.binds (ps := P_ask_of) fun _ _ _ _ _ _ us hl => match us, hl with | [_], _ => rfl
  have Q6A := fun_mk (st := s_put) Q4D Q49 Q4g
  have Q71 : Binds K _ P_put [] := Q6A.binds (ps := P_put) fun _ _ _ _ _ _ us hl => match us, hl with | [_, _], _ => rfl
  have Q2o := fun_mk (st := s_amounts_of) Q0g Q0p Q0i
  have Q4j : Binds K _ P_amounts_of [] := Q2o.binds (ps := P_amounts_of) fun _ _ _ _ _ _ us hl => match us, hl with | [_, _, _], _ => rfl
  have Q30 := fun_mk (st := s_heads_of) Q13 Q19 Q16
  have Q5Y : Binds K _ P_heads_of [] := Q30.binds (ps := P_heads_of) fun _ _ _ _ _ _ us hl => match us, hl with | [_, _, _], _ => rfl
  have Q2f := fun_mk (st := s_product_of) Q0q Q0n Q0f
  have Q4o : Binds K _ P_product_of [] := Q2f.binds (ps := P_product_of) fun _ _ _ _ _ _ us hl => match us, hl with | [_], _ => rfl
  have Q4G := fun_mk (st := s_summed) Q2l Q2h Q24
  have Q6y : Binds K _ P_summed [] := Q4G.binds (ps := P_summed) fun _ _ _ _ _ _ us hl => match us, hl with | [_, _, _], _ => rfl
  have Q35 := fun_mk (st := s_greatest) Q12 Q1a Q0Y
  have Q5K : Binds K _ P_greatest [] := Q35.binds (ps := P_greatest) fun _ _ _ _ _ _ us hl => match us, hl with | [_, _, _], _ => rfl
  have Q6f := fun_mk (st := s_best) Q2w Q3z Q3y
  have Q6T : Binds K _ P_best [] := Q6f.binds (ps := P_best) fun _ _ _ _ _ _ us hl => match us, hl with | [_, _, _], _ => rfl
  have Q6B := fun_mk (st := s_law) Q4m Q4u Q4p
  have Q70 : Binds K _ P_law [] := Q6B.binds (ps := P_law) fun _ _ _ _ _ _ us hl => match us, hl with | [_], _ => rfl
  refine ⟨PySem.W.fnOf "law" "law" (defArgs s_law) (defBody s_law) (defScope s_law) .none Q6o Q68 Q6l Q6n Q4b Q6v, [(QP, QG)], (fun vs H Q E => H QG = some (.tbl #[]) ∧ spLaw K vs H Q E), ?_, ?_, ?_, fun s v => .of_eq rfl, ?_, fun base _ _ TBs => ?_⟩
  · intro p hp; rw [List.mem_singleton.mp hp]; exact Q3q
  · intro p hp; rw [List.mem_singleton.mp hp]; exact Q3i
  · intro p hp; rw [List.mem_singleton.mp hp]; exact PySem.W.codeHd_of_K X Q2u
  · intro H a ns hl _ hH hS; exact ⟨hH (QP, QG) List.mem_cons_self, sp_start hl hS⟩
  · have TB_best := TBs (QP, QG) List.mem_cons_self
    have T : Tx K mg base Q0 Q09 Qk Qi Qj Qg QX Q0y Qh Qp QH QM Q08 Q0z Q0v Q0K Q0M Q0w QN Q0N Q1z Q47 QW Q0A QR Q1t Q0x Q31 fa QP QG _ _ _ _ _ _ _ _ _ _ _ _ _ _ _ _ _ _ _ _ _ _ _ _ _ _ _ _ _ := ⟨TB_best,
    tblAt_mk (PySem.W.mg_of X G Q2v) Q2w rfl Q2u,
    rfl,
    PySem.W.mg_none_of X G Q4q,
    PySem.W.mg_none_of X G Q4F,
    PySem.W.mg_none_of X G Q3t,
    PySem.W.mg_none_of X G Q3e,
    PySem.W.mg_none_of X G Q4H,
    PySem.W.mg_none_of X G Q0h,
    PySem.W.mg_none_of X G Q4I,
    PySem.W.mg_none_of X G Q3o,
    PySem.W.mg_none_of X G Q4t,
    PySem.W.mg_none_of X G Q2T,
    PySem.W.mg_none_of X G Q4y,
    PySem.W.mg_none_of X G Q2d,
    PySem.W.mg_none_of X G Q4h,
    PySem.W.mg_none_of X G Q4f,
    PySem.W.mg_none_of X G Q2R,
    PySem.W.mg_none_of X G Q4z,
    Q6,
    Qf,
    PySem.W.mg_of X G Q1,
    Q2J,
    Q4M,
    PySem.W.mg_of X G Q0F,
    Q0t,
    Q2A,
    PySem.W.mg_of X G QD,
    Q0r,
    Q2E,
    PySem.W.mg_of X G QA,
    Q0s,
    Q2H,
    PySem.W.mg_of X G QF,
    QY,
    Q1B,
    PySem.W.mg_of X G Qm,
    Q1Z,
    Q4n,
    PySem.W.mg_of X G Q0m,
    Q2V,
    Q5M,
    PySem.W.mg_of X G Q18,
    Q0c,
    Q2i,
    PySem.W.mg_of X G Qs,
    Q0C,
    Q2S,
    PySem.W.mg_of X G QL,
    Q1l,
    Q3l,
    PySem.W.mg_of X G QT,
    Q1H,
    Q3Z,
    PySem.W.mg_of X G Q06,
    Q2L,
    Q5o,
    PySem.W.mg_of X G Q0I,
    Q39,
    Q60,
    PySem.W.mg_of X G Q0U,
    Q37,
    Q5D,
    PySem.W.mg_of X G Q1c,
    Q3C,
    Q6g,
    PySem.W.mg_of X G Q1q,
    Q3B,
    Q6q,
    PySem.W.mg_of X G Q1x,
    Q34,
    Q5H,
    PySem.W.mg_of X G Q0Z,
    Q1G,
    Q3L,
    PySem.W.mg_of X G Q07,
    Q3D,
    Q6t,
    PySem.W.mg_of X G Q1A,
    Q4x,
    Q6z,
    PySem.W.mg_of X G Q2t,
    Q6A,
    Q71,
    PySem.W.mg_of X G Q4e,
    Q2o,
    Q4j,
    PySem.W.mg_of X G Q0l,
    Q30,
    Q5Y,
    PySem.W.mg_of X G Q0P,
    Q2f,
    Q4o,
    PySem.W.mg_of X G Q0j,
    Q4G,
    Q6y,
    PySem.W.mg_of X G Q2c,
    Q35,
    Q5K,
    PySem.W.mg_of X G Q0O,
    Q6f,
    Q6T,
    PySem.W.mg_of X G Q2v,
    Q6B,
    Q70,
    PySem.W.mg_of X G Q38⟩
    exact law_fnT T.u_best (fun fu => ok_law T fu) (law_true _)
end Law
open PySem PySem.W PyProof.Rows in
set_option maxRecDepth 100000 in
set_option maxHeartbeats 0 in
theorem PySem.Challenge.cw_meetloft_k34_amounts_by_hand_holds : PySem.Challenge.rw_meetloft_k34_amounts_by_hand.Holds := by
  w_on; o_law; k_head; (case hw => w_witness2)
  k_fill
  refine LamX.walk_ofTs (l := PySem.Challenge.rw_meetloft_k34_amounts_by_hand) (n := 63) (k := 8) (x := "script") (CX := fun w => L2.CX PySem.Challenge.pw_meetloft_k34_amounts_by_hand w) rfl (by decide) rfl ⟨rfl, by decide, by decide⟩ (fun w h Y => PySem.W.km_in_of Y) ?F (fun w H s e s' z => Dv.no_exc z)
  case F =>
    intro w mg fa h Y KX G hmg
    refine' Law.all_mk KX G hmg ?Q1 ?Q4 ?Q2 ?Q3 ?Q0F ?Q0D ?Q0H ?Q0E ?QD ?QE ?Qu ?QC ?QA ?QB ?Qz ?Qy ?QF ?Qw ?Qv ?Qx ?Qm ?Qn ?Qo ?Ql ?Q0m ?Q0e ?Q0k ?Q0o ?Q18 ?Q0W ?Q0R ?Q11 ?Qs ?Qt ?Qr ?Qq ?QL ?QI ?QK ?QJ ?QT ?QV ?QU ?QS ?Q06 ?Q01 ?Q04 ?Q03 ?Q0I ?Q0J ?Q0B ?Q0G ?Q0U ?Q14 ?Q0X ?Q10 ?Q1c ?Q0S ?Q17 ?Q15 ?Q1q ?Q1C ?Q1o ?Q1v ?Q1x ?Q1y ?Q1s ?Q1p ?Q0Z ?Q0V ?Q0T ?Q1b ?Q07 ?Q00 ?Q02 ?Q05 ?Q1A ?Q1w ?Q1u ?Q1r ?Q2t ?Q1R ?Q1V ?Q2a ?Q4e ?Q4D ?Q49 ?Q4g ?Q0l ?Q0g ?Q0p ?Q0i ?Q0P ?Q13 ?Q19 ?Q16 ?Q0j ?Q0q ?Q0n ?Q0f ?Q2c ?Q2l ?Q2h ?Q24 ?Q0O ?Q12 ?Q1a ?Q0Y ?Q2v ?Q2w ?Q3z ?Q5z ?Q5B ?Q2u ?Q3i ?Q3q ?Q3y ?Q38 ?Q4m ?Q4u ?Q4p ?Q4q ?Q4F ?Q3t ?Q3e ?Q4H ?Q0h ?Q4I ?Q3o ?Q4t ?Q2T ?Q4y ?Q2d ?Q4h ?Q4f ?Q2R ?Q4z
    (case Q1 | Q4 | Q2 | Q3 | Q0F | Q0D | Q0H | Q0E | QD | QE | Qu | QC | QA | QB | Qz | Qy | QF | Qw | Qv | Qx | Qm | Qn | Qo | Ql | Q0m | Q0e | Q0k | Q0o | Q18 | Q0W | Q0R | Q11 | Qs | Qt | Qr | Qq | QL | QI | QK | QJ | QT | QV | QU | QS | Q06 | Q01 | Q04 | Q03 | Q0I | Q0J | Q0B | Q0G | Q0U | Q14 | Q0X | Q10 | Q1c | Q0S | Q17 | Q15 | Q1q | Q1C | Q1o | Q1v | Q1x | Q1y | Q1s | Q1p | Q0Z | Q0V | Q0T | Q1b | Q07 | Q00 | Q02 | Q05 | Q1A | Q1w | Q1u | Q1r | Q2t | Q1R | Q1V | Q2a | Q4e | Q4D | Q49 | Q4g | Q0l | Q0g | Q0p | Q0i | Q0P | Q13 | Q19 | Q16 | Q0j | Q0q | Q0n | Q0f | Q2c | Q2l | Q2h | Q24 | Q0O | Q12 | Q1a | Q0Y | Q2v | Q2w | Q3z | Q5z => k_is)
    (case Q5B => rfl)
    (case Q2u | Q3i => kernel_rfl)
    (case Q3q => exact PySem.W.km_tabs_of Y _ (by k_mem))
    (case Q3y | Q38 | Q4m | Q4u | Q4p | Q4q | Q4F | Q3t | Q3e | Q4H | Q0h | Q4I | Q3o | Q4t | Q2T | Q4y | Q2d | Q4h | Q4f | Q2R | Q4z => k_is)
