import PyProof.Rows.All
import Wide.All
import OpenK.AllK
import Wide.FinOn
import HandS.ForMost
import HandS.Evl
import HandS.IsInst
import HandS.ExcInit
import HandS.Defaults
import HandS.SetTxtIn
import HandS.Conv
import HandS.Star
import HandS.Lambda
import PyProof.NeKinds
import HandS.TupMul
import HandS.Deep
import HandS.TupAny
import HandS.Style
import PyProof.P3In
import HandS.Iter
import HandS.List
import KE.GoesMore
import KE.GoesEnum
import PyProof.EnumMake
import PyProof.WalksMore
import PyProof.ReprRoads
import PyProof.ReprBulk
import HandS.WordsExc
import HandS.Zip
import PyProof.EqAt
import PyProof.EqKinds
import PyProof.TupleCall
import KE.KSuper
import KE.KExcSuper
import HandS.Base
import HandS.Call
import HandS.Ends
import HandS.Exc
import HandS.Nested
import KE.KIsAll
import KE.KTryMore
import HandS.ExcIs
import HandS.ExcField
import HandS.ExcValue
import KE.KExcIs
import KE.KLam
import KE.KDflt
import HandS.Codes
import HandS.TryOnly
import KE.KDictZip
import KE.KStar
import HandS.More
import HandS.Dict
import HandS.Text
import PyProof.StrLawsTight
import PySem.Challenge.RW_atallprices_k78_texts_of_fields_bent
import KE.IntTextLaws
import PyProof.Rows.StrSplitJoin
import PyProof.StrLawsChain
import HandS.EndOwn
set_option Elab.async false
set_option linter.all false
set_option maxRecDepth 100000
set_option maxHeartbeats 4000000
/-! DL: the data layer: what a piece of code does to plain data, with no address in sight -/
namespace DL
open PySem L2 Evl
inductive D where
  | non
  | bl (b : Bool)
  | int (i : Int)
  | str (x : Str)
  | lst (ds : List D)
  | tup (ds : List D)
  | dct (ks : List Key) (ds : List D)
  | pen
  | obj (C : Addr) (ns : List Str) (ds : List D)
  | loc (a : Addr)
mutual
inductive Dx (K : PySem.W.Frag) (pen : Addr) (G : Hp) : V → D → Prop
  | non : Dx K pen G .non .non
  | bl (b : Bool) : Dx K pen G (.bl b) (.bl b)
  | int (i : Int) : Dx K pen G (.int i) (.int i)
  | str (x : Str) : Dx K pen G (.str x) (.str x)
  | lst {a : Addr} {xs : List V} {ds : List D} : G a = some (.lst xs) → DxAll K pen G xs ds → Dx K pen G (.ref a) (.lst ds)
  | tup {a : Addr} {xs : List V} {ds : List D} : SqT K G a xs → DxAll K pen G xs ds → Dx K pen G (.ref a) (.tup ds)
  | dct {a : Addr} {ks : List Key} {xs : List V} {ds : List D} : G a = some (.dK (ks.zip xs)) → xs.length = ks.length → DxAll K pen G xs ds → Dx K pen G (.ref a) (.dct ks ds)
  | pen : Dx K pen G (.ref pen) .pen
  | obj {a C dx : Addr} {ns : List Str} {xs : List V} {ds : List D} : G a = some (.ins C dx (ns.zip xs)) → xs.length = ns.length → DxAll K pen G xs ds → Dx K pen G (.ref a) (.obj C ns ds)
  | loc {a : Addr} : Dx K pen G (.ref a) (.loc a)
inductive DxAll (K : PySem.W.Frag) (pen : Addr) (G : Hp) : List V → List D → Prop
  | nil : DxAll K pen G [] []
  | cons {v : V} {vs : List V} {d : D} {ds : List D} : Dx K pen G v d → DxAll K pen G vs ds → DxAll K pen G (v :: vs) (d :: ds)
end
section
variable {K : PySem.W.Frag} {pen : Addr} {G G' : Hp}
mutual
theorem Dx.ex (e : Ex G G') : ∀ (d : D) (v : V), Dx K pen G v d → Dx K pen G' v d
  | .non, _, h => by cases h; exact .non
  | .bl b, _, h => by cases h; exact .bl b
  | .int i, _, h => by cases h; exact .int i
  | .str x, _, h => by cases h; exact .str x
  | .lst ds, _, h => by
    cases h with
    | lst hs ha => exact .lst (e _ _ hs) (DxAll.ex e ds _ ha)
  | .tup ds, _, h => by
    cases h with
    | tup hs ha => exact .tup (ex_t e hs) (DxAll.ex e ds _ ha)
  | .dct ks ds, _, h => by
    cases h with
    | dct hs hl ha => exact .dct (e _ _ hs) hl (DxAll.ex e ds _ ha)
  | .loc a, _, h => by cases h; exact .loc
  | .pen, _, h => by cases h; exact .pen
  | .obj C ns ds, _, h => by
    cases h with
    | obj hs hl ha => exact .obj (e _ _ hs) hl (DxAll.ex e ds _ ha)
theorem DxAll.ex (e : Ex G G') : ∀ (ds : List D) (vs : List V), DxAll K pen G vs ds → DxAll K pen G' vs ds
  | [], _, h => by cases h; exact .nil
  | d :: ds, _, h => by
    cases h with
    | cons h1 h2 => exact .cons (Dx.ex e d _ h1) (DxAll.ex e ds _ h2)
end
theorem Dx.up {v : V} {d : D} (h : Dx K pen G v d) (e : Ex G G') : Dx K pen G' v d := Dx.ex e d v h
theorem DxAll.up {vs : List V} {ds : List D} (h : DxAll K pen G vs ds) (e : Ex G G') : DxAll K pen G' vs ds := DxAll.ex e ds vs h
theorem DxAll.length : ∀ {vs : List V} {ds : List D}, DxAll K pen G vs ds → vs.length = ds.length
  | _, _, .nil => rfl
  | _, _, .cons _ h => by rw [List.length_cons, List.length_cons, h.length]
theorem DxAll.get : ∀ {vs : List V} {ds : List D} {i : Nat} {d : D}, DxAll K pen G vs ds → ds[i]? = some d → ∃ v, vs[i]? = some v ∧ Dx K pen G v d
  | _, _, i, _, .nil, h => by simp at h
  | _, _, 0, d, .cons h1 _, h => by
    simp at h
    subst h
    exact ⟨_, rfl, h1⟩
  | _, _, i + 1, d, .cons _ h2, h => by
    simp at h
    obtain ⟨v, e, q⟩ := DxAll.get h2 h
    exact ⟨v, by simpa using e, q⟩
theorem DxAll.getV : ∀ {vs : List V} {ds : List D} {i : Nat} {v : V}, DxAll K pen G vs ds → vs[i]? = some v → ∃ d, ds[i]? = some d ∧ Dx K pen G v d
  | _, _, i, _, .nil, h => by simp at h
  | _, _, 0, v, .cons h1 _, h => by
    simp at h
    subst h
    exact ⟨_, rfl, h1⟩
  | _, _, i + 1, v, .cons _ h2, h => by
    simp at h
    obtain ⟨d, e, q⟩ := DxAll.getV h2 h
    exact ⟨d, by simpa using e, q⟩
theorem DxAll.append : ∀ {vs ws : List V} {ds es : List D}, DxAll K pen G vs ds → DxAll K pen G ws es → DxAll K pen G (vs ++ ws) (ds ++ es)
  | _, _, _, _, .nil, h => h
  | _, _, _, _, .cons h1 h2, h => .cons h1 (h2.append h)
theorem DxAll.take : ∀ {vs : List V} {ds : List D} (n : Nat), DxAll K pen G vs ds → DxAll K pen G (vs.take n) (ds.take n)
  | _, _, 0, _ => by simpa using DxAll.nil
  | _, _, _ + 1, .nil => by simpa using DxAll.nil
  | _, _, n + 1, .cons h1 h2 => by
    rw [List.take_succ_cons, List.take_succ_cons]
    exact .cons h1 (h2.take n)
theorem DxAll.drop : ∀ {vs : List V} {ds : List D} (n : Nat), DxAll K pen G vs ds → DxAll K pen G (vs.drop n) (ds.drop n)
  | _, _, 0, h => h
  | _, _, _ + 1, .nil => .nil
  | _, _, n + 1, .cons _ h2 => h2.drop n
theorem DxAll.set : ∀ {vs : List V} {ds : List D} {v : V} {d : D} (n : Nat), DxAll K pen G vs ds → Dx K pen G v d → DxAll K pen G (vs.set n v) (ds.set n d)
  | _, _, _, _, _, .nil, _ => .nil
  | _, _, _, _, 0, .cons _ h2, h => .cons h h2
  | _, _, _, _, n + 1, .cons h1 h2, h => .cons h1 (h2.set n h)
theorem DxAll.one {v : V} {d : D} (h : Dx K pen G v d) : DxAll K pen G [v] [d] := .cons h .nil
theorem DxAll.dropLast {vs : List V} {ds : List D} (h : DxAll K pen G vs ds) : DxAll K pen G vs.dropLast ds.dropLast := by
  rw [List.dropLast_eq_take, List.dropLast_eq_take, h.length]
  exact h.take _
theorem DxAll.reps {vs : List V} {ds : List D} (h : DxAll K pen G vs ds) : ∀ n, DxAll K pen G (List.replicate n vs).flatten (List.replicate n ds).flatten
  | 0 => by simpa using DxAll.nil
  | n + 1 => by
    rw [List.replicate_succ, List.replicate_succ, List.flatten_cons, List.flatten_cons]
    exact h.append (h.reps n)
theorem DxAll.ints : ∀ {vs : List V} {ns : List Int}, DxAll K pen G vs (ns.map D.int) → vs = ns.map V.int
  | _, [], h => by cases h; rfl
  | _, n :: ns, h => by
    cases h with
    | cons h1 h2 =>
      cases h1
      rw [h2.ints] <;> rfl
theorem DxAll.bls : ∀ {vs : List V} {bs : List Bool}, DxAll K pen G vs (bs.map D.bl) → vs = bs.map V.bl
  | _, [], h => by cases h; rfl
  | _, n :: ns, h => by
    cases h with
    | cons h1 h2 =>
      cases h1
      rw [h2.bls] <;> rfl
theorem DxAll.ofInts : ∀ {ns : List Int}, DxAll K pen G (ns.map V.int) (ns.map D.int)
  | [] => .nil
  | n :: ns => .cons (.int n) DxAll.ofInts
theorem DxAll.ofStrs : ∀ {ns : List Str}, DxAll K pen G (ns.map V.str) (ns.map D.str)
  | [] => .nil
  | n :: ns => .cons (.str n) DxAll.ofStrs
end
/-! ### how the heap grows; the frozen part G -/
/-- no table of code objects stands here -/
def NoT (G : Hp) : Prop := ∀ a ps, G a ≠ some (.tbl ps)
theorem NoT.upd {G : Hp} {p : Addr} {o : HO} (h : NoT G) (no : ∀ ps, o ≠ .tbl ps) : NoT (upd G p o) := fun a ps z => by
  by_cases e : a = p
  · rw [e, upd_same] at z
    exact no ps (Option.some.inj z)
  · rw [upd_ne e] at z
    exact h a ps z
/-- things that may change: lists, dicts, instances -/
inductive SO where
  | lst (ds : List D)
  | dct (ks : List Key) (ds : List D)
  | ins (C : Addr) (ns : List Str) (ds : List D)
abbrev Sto := Addr → Option SO
def noS : Sto := fun _ => none
def updS (st : Sto) (a : Addr) (o : SO) : Sto := fun b => if b = a then some o else st b
theorem updS_same {st : Sto} {a : Addr} {o : SO} : updS st a o a = some o := if_pos rfl
theorem updS_ne {st : Sto} {a b : Addr} {o : SO} (h : b ≠ a) : updS st a o b = st b := if_neg h
/-- what is threaded through calls: the count of draws, the store -/
structure M where
  n : Nat
  st : Sto
def SOk (K : PySem.W.Frag) (pen : Addr) (G H : Hp) (a : Addr) : SO → Prop
  | .lst ds => ∃ xs, H a = some (.lst xs) ∧ DxAll K pen G xs ds
  | .dct ks ds => ∃ xs, H a = some (.dK (ks.zip xs)) ∧ xs.length = ks.length ∧ DxAll K pen G xs ds
  | .ins C ns ds => ∃ dx xs, H a = some (.ins C dx (ns.zip xs)) ∧ xs.length = ns.length ∧ DxAll K pen G xs ds
theorem SOk.up {K : PySem.W.Frag} {pen : Addr} {G G' H H' : Hp} {a : Addr} {o : SO} (h : SOk K pen G H a o) (e : Ex G G') (k : ∀ u, H a = some u → H' a = some u) : SOk K pen G' H' a o := by
  cases o with
  | lst ds => obtain ⟨xs, h1, h2⟩ := h; exact ⟨xs, k _ h1, h2.up e⟩
  | dct ks ds => obtain ⟨xs, h1, h2, h3⟩ := h; exact ⟨xs, k _ h1, h2, h3.up e⟩
  | ins C ns ds => obtain ⟨dx, xs, h1, h2, h3⟩ := h; exact ⟨dx, xs, k _ h1, h2, h3.up e⟩
theorem SOk.isSome {K : PySem.W.Frag} {pen : Addr} {G H : Hp} {a : Addr} {o : SO} (h : SOk K pen G H a o) : H a ≠ none := by
  cases o with
  | lst ds => obtain ⟨xs, h1, _⟩ := h; rw [h1]; exact fun z => nomatch z
  | dct ks ds => obtain ⟨xs, h1, _⟩ := h; rw [h1]; exact fun z => nomatch z
  | ins C ns ds => obtain ⟨dx, xs, h1, _⟩ := h; rw [h1]; exact fun z => nomatch z
structure Grow (pen : Addr) (S : Sto) (H G : Hp) (S' : Sto) (H' G' : Hp) : Prop where
  h : ∀ a o, a ≠ pen → S a = none → H a = some o → H' a = some o
  g : Ex G G'
  n : ∀ a, H a ≠ none → G a = none → G' a = none ∨ S a ≠ none
  e : Ex G' H'
  p : G' pen = none
  t : NoT G'
  m : ∀ a, S' a ≠ none → S a ≠ none ∨ H a = none
  l : ∀ a, H a ≠ none → H' a ≠ none
theorem none_or {α : Type} (o : Option α) : o = none ∨ o ≠ none := by cases o <;> simp
theorem Grow.n0 {pen : Addr} {S S' : Sto} {H G H' G' : Hp} (g : Grow pen S H G S' H' G') {a : Addr} (h1 : H a ≠ none) (h2 : G a = none) (h3 : S a = none) : G' a = none := (g.n a h1 h2).elim id fun z => absurd h3 z
theorem Grow.s0 {pen : Addr} {S S' : Sto} {H G H' G' : Hp} (g : Grow pen S H G S' H' G') {a : Addr} (h1 : H a ≠ none) (h3 : S a = none) : S' a = none := by
  rcases none_or (S' a) with z | z
  · exact z
  · rcases g.m a z with y | y
    · exact absurd h3 y
    · exact absurd y h1
theorem Grow.trans {pen : Addr} {S S1 S2 : Sto} {H G H1 G1 H2 G2 : Hp} (a : Grow pen S H G S1 H1 G1) (b : Grow pen S1 H1 G1 S2 H2 G2) : Grow pen S H G S2 H2 G2 where
  h := fun x o n s h => b.h x o n (a.s0 (by rw [h]; exact fun z => nomatch z) s) (a.h x o n s h)
  g := a.g.trans b.g
  n := fun x h1 h2 => by
    rcases none_or (S x) with z | z
    · exact .inl (b.n0 (a.l x h1) (a.n0 h1 h2 z) (a.s0 h1 z))
    · exact .inr z
  e := b.e
  p := b.p
  t := b.t
  m := fun x hx => by
    rcases b.m x hx with z | z
    · exact a.m x z
    · refine .inr ?_
      rcases none_or (H x) with y | y
      · exact y
      · exact absurd z (a.l x y)
  l := fun x h => b.l x (a.l x h)
theorem Grow.refl {pen : Addr} {S : Sto} {H G : Hp} (e : Ex G H) (p : G pen = none) (t : NoT G) : Grow pen S H G S H G := ⟨fun _ _ _ _ h => h, Ex.refl _, fun _ _ h => .inl h, e, p, t, fun _ h => .inl h, fun _ h => h⟩
theorem ne_none_upd {H : Hp} {p a : Addr} {o : HO} (h : H a ≠ none) : upd H p o a ≠ none := by
  by_cases z : a = p
  · rw [z, upd_same]; exact fun z => nomatch z
  · rw [upd_ne z]; exact h
theorem Grow.new {pen p : Addr} {S : Sto} {H G : Hp} {o : HO} (e : Ex G H) (hp : H p = none) (hpen : H pen ≠ none) (gp : G pen = none) (gt : NoT G) (no : ∀ ps, o ≠ .tbl ps) : Grow pen S H G S (upd H p o) (upd G p o) := by
  have np : pen ≠ p := fun z => hpen (by rw [z]; exact hp)
  refine ⟨fun a u _ _ h => Ex.new hp a u h, Ex.new (fresh_back e hp), fun a h1 h2 => .inl ?_, fun a u h => ?_, by rw [upd_ne np]; exact gp, gt.upd no, fun _ h => .inl h, fun a h => ne_none_upd h⟩
  · rw [upd_ne (fun z => h1 (by rw [z]; exact hp))]
    exact h2
  · by_cases z : a = p
    · rw [z, upd_same] at h ⊢
      exact h
    · rw [upd_ne z] at h ⊢
      exact e a u h
/-- a new object that may change -/
theorem Grow.own {pen p : Addr} {S : Sto} {H G : Hp} {o : HO} (e : Ex G H) (hp : H p = none) (gp : G pen = none) (gt : NoT G) : Grow pen S H G S (upd H p o) G :=
  ⟨fun a u _ _ h => Ex.new hp a u h, Ex.refl _, fun a _ h => .inl h, e.trans (Ex.new hp), gp, gt, fun _ h => .inl h, fun a h => ne_none_upd h⟩
/-- the store shrinks, or grows by what is new -/
theorem Grow.sto {pen : Addr} {S S' S2 : Sto} {H G H' G' : Hp} (g : Grow pen S H G S' H' G') (m : ∀ a, S2 a ≠ none → S a ≠ none ∨ H a = none) : Grow pen S H G S2 H' G' := ⟨g.h, g.g, g.n, g.e, g.p, g.t, m, g.l⟩
/-- what a pen holds: cells, how many were begun, what is left -/
def PenK (G : Hp) (n : Nat) (xs : List V) : Prop := ∃ (c : Addr) (cs : List Int) (m : Nat) (r : Int), xs = [.ref c, .int (m : Int), .int r] ∧ G c = some (.lst (cs.map V.int)) ∧ cs.length ≤ 63 ∧ m ≤ n ∧ n < 1000000000
theorem PenK.up {G G' : Hp} {n : Nat} {xs : List V} (h : PenK G n xs) (e : Ex G G') : PenK G' n xs := by
  obtain ⟨c, cs, m, r, h1, h2, h3⟩ := h
  exact ⟨c, cs, m, r, h1, e _ _ h2, h3⟩
structure PenG (K : PySem.W.Frag) (pen : Addr) (m : M) (G H : Hp) : Prop where
  ex : ∃ xs, H pen = some (.lst xs) ∧ PenK G m.n xs ∧ G pen = none ∧ NoT G
  st : ∀ a o, m.st a = some o → SOk K pen G H a o ∧ G a = none ∧ a ≠ pen
section
variable {K : PySem.W.Frag} {pen : Addr} {m : M} {H G H' G' : Hp}
theorem PenG.up (h : PenG K pen m G H) (g : Ex G G') (p : G' pen = none) (t : NoT G') (e : ∀ a o, H a = some o → H' a = some o) (n : ∀ a, m.st a ≠ none → G' a = none) : PenG K pen m G' H' := by
  obtain ⟨xs, h1, h2, h3, h4⟩ := h.ex
  refine ⟨⟨xs, e _ _ h1, h2.up g, p, t⟩, fun a o ha => ?_⟩
  obtain ⟨q1, q2, q3⟩ := h.st a o ha
  exact ⟨q1.up g fun u hu => e _ _ hu, n a (by rw [ha]; exact fun z => nomatch z), q3⟩
/-- when but one thing that is in no store changes -/
theorem PenG.but {a : Addr} {o : HO} (h : PenG K pen m G H) (np : a ≠ pen) (ns : m.st a = Option.none) : PenG K pen m G (upd H a o) := by
  obtain ⟨xs, h1, h2, h3, h4⟩ := h.ex
  refine ⟨⟨xs, by rw [upd_ne (Ne.symm np)]; exact h1, h2, h3, h4⟩, fun b u hb => ?_⟩
  obtain ⟨q1, q2, q3⟩ := h.st b u hb
  refine ⟨q1.up (Ex.refl _) fun v hv => ?_, q2, q3⟩
  rw [upd_ne (fun z => by rw [z, ns] at hb; cases hb)]
  exact hv
theorem PenG.some (h : PenG K pen m G H) : H pen ≠ none := by
  obtain ⟨xs, h1, _⟩ := h.ex
  rw [h1]
  exact fun z => nomatch z
theorem PenG.none (h : PenG K pen m G H) : G pen = Option.none := by
  obtain ⟨xs, _, _, h3, _⟩ := h.ex
  exact h3
theorem PenG.noT (h : PenG K pen m G H) : NoT G := by
  obtain ⟨xs, _, _, _, h⟩ := h.ex
  exact h
theorem PenG.at {a : Addr} {o : SO} (h : PenG K pen m G H) (e : m.st a = Option.some o) : SOk K pen G H a o := (h.st a o e).1
theorem PenG.fresh {a : Addr} (h : PenG K pen m G H) (e : H a = Option.none) : m.st a = Option.none := by
  cases z : m.st a with
  | none => rfl
  | some o => exact absurd e (h.st a o z).1.isSome
theorem PenG.gnone {a : Addr} (h : PenG K pen m G H) (e : m.st a ≠ Option.none) : G a = Option.none := by
  cases z : m.st a with
  | none => exact absurd z e
  | some o => exact (h.st a o z).2.1
/-- a store that tells less -/
theorem PenG.less {st : Sto} (h : PenG K pen m G H) (l : ∀ a o, st a = Option.some o → m.st a = Option.some o) : PenG K pen ⟨m.n, st⟩ G H := ⟨h.ex, fun a o ha => h.st a o (l a o ha)⟩
end
/-- what keeps all but lists, dicts and instances keeps the tables -/
theorem tabs_keep {T : List (Addr × Str)} {H H' : Hp} (t : LamX.Tabs T H) (k : ∀ a o, (∀ xs, o ≠ .lst xs) → (∀ ks, o ≠ .dK ks) → (∀ C dx fs, o ≠ .ins C dx fs) → H a = some o → H' a = some o) : LamX.Tabs T H' := fun p hp => by
  obtain ⟨ps, h1, h2, h3⟩ := t p hp
  refine ⟨ps, k _ _ (fun xs z => nomatch z) (fun ks z => nomatch z) (fun _ _ _ z => nomatch z) h1, h2, fun pos cv hc => ?_⟩
  obtain ⟨c, e1, e2⟩ := h3 pos cv hc
  exact ⟨c, e1, k _ _ (fun xs z => nomatch z) (fun ks z => nomatch z) (fun _ _ _ z => nomatch z) e2⟩
theorem tabs_upd {T : List (Addr × Str)} {H : Hp} {a : Addr} {o : HO} {xs : List V} (t : LamX.Tabs T H) (h : H a = some (.lst xs)) : LamX.Tabs T (upd H a o) := tabs_keep t fun b u nl _ _ hb => by
  rw [upd_ne (fun z => by rw [z, h] at hb; cases hb; exact nl _ rfl)]
  exact hb
theorem tabs_grow {T : List (Addr × Str)} {K : PySem.W.Frag} {pen : Addr} {m : M} {S' : Sto} {H G H' G' : Hp} (t : LamX.Tabs T H) (p : PenG K pen m G H) (g : Grow pen m.st H G S' H' G') : LamX.Tabs T H' := by
  obtain ⟨xs, h1, _⟩ := p.ex
  refine tabs_keep t fun b u nl nd ni hb => g.h b u (fun z => by rw [z, h1] at hb; cases hb; exact nl _ rfl) ?_ hb
  cases z : m.st b with
  | none => rfl
  | some o =>
    have q := p.at z
    cases o with
    | lst ds => obtain ⟨ys, q1, _⟩ := q; rw [q1] at hb; cases hb; exact (nl _ rfl).elim
    | dct ks ds => obtain ⟨ys, q1, _⟩ := q; rw [q1] at hb; cases hb; exact (nd _ rfl).elim
    | ins C ns ds => obtain ⟨dx, ys, q1, _⟩ := q; rw [q1] at hb; cases hb; exact (ni _ _ _ rfl).elim
/-! ### states -/
/-- the anchor: the pen, the heap at the def's entry, lists that are being made -/
structure An where
  pen : Addr
  S0 : Sto
  H0 : Hp
  G0 : Hp
  tmp : List (Addr × List V)
  tb : List (Addr × Str) := []
  me : Addr × Addr × Addr := (0, 0, 0)
inductive Cell where
  | unb
  | val (d : D)
  | own (ds : List D)
  | new (C : Addr) (ns : List Str) (ds : List D)
structure S where
  env : List Cell
  n : M
inductive SlotOk (K : PySem.W.Frag) (A : An) (T : Sto) (H G : Hp) : Option (Option V) → Cell → Prop
  | unb {o : Option (Option V)} : SlotOk K A T H G o .unb
  | val {v : V} {d : D} : Dx K A.pen G v d → SlotOk K A T H G (some (some v)) (.val d)
  | own {a : Addr} {xs : List V} {ds : List D} : H a = some (.lst xs) → G a = none → a ≠ A.pen → A.H0 a = none → DxAll K A.pen G xs ds → T a = none → SlotOk K A T H G (some (some (.ref a))) (.own ds)
  | new {a dx C : Addr} {ns : List Str} {xs : List V} {ds : List D} : A.me = (a, dx, C) → H a = some (.ins C dx (ns.zip xs)) → xs.length = ns.length → G a = none → a ≠ A.pen → A.H0 a = none → DxAll K A.pen G xs ds → T a = none → SlotOk K A T H G (some (some (.ref a))) (.new C ns ds)
structure Rel (K : PySem.W.Frag) (A : An) (σ : L2.St) (H G : Hp) (s : S) : Prop where
  an : Grow A.pen A.S0 A.H0 A.G0 s.n.st H G
  pn : PenG K A.pen s.n G H
  len : s.env.length = σ.length
  sl : ∀ (i : Nat) (c : Cell), s.env[i]? = some c → SlotOk K A s.n.st H G (σ[i]?) c
  nd : ∀ (i j : Nat) (ds es : List D) (a : Addr), i ≠ j → s.env[i]? = some (.own ds) → s.env[j]? = some (.own es) → σ[i]? = some (some (.ref a)) → σ[j]? = some (some (.ref a)) → False
  tn : (A.tmp.map (·.1)).Nodup
  tm : ∀ (a : Addr) (xs : List V), (a, xs) ∈ A.tmp → H a = some (.lst xs) ∧ G a = none ∧ a ≠ A.pen ∧ A.H0 a = none ∧ (∀ (j : Nat) (es : List D), s.env[j]? = some (.own es) → σ[j]? ≠ some (some (.ref a))) ∧ s.n.st a = none
  tb : LamX.Tabs A.tb H
  ta : A.tb ≠ [] → NoT A.H0 ∧ A.S0 = noS
  nn : ∀ (i : Nat) (C : Addr) (ns : List Str) (ds : List D), s.env[i]? = some (.new C ns ds) → i = 0
theorem new_set {env : List Cell} {i j : Nat} {c : Cell} {C : Addr} {ns : List Str} {ds : List D} (hc : ∀ C ns ds, c ≠ .new C ns ds) (h : (env.set i c)[j]? = some (.new C ns ds)) : env[j]? = some (.new C ns ds) := by
  by_cases z : i = j
  · subst z
    by_cases hl : i < env.length
    · rw [List.getElem?_set_self hl] at h
      exact (hc _ _ _ (Option.some.inj h)).elim
    · rw [List.getElem?_eq_none (by simpa using Nat.not_lt.mp hl)] at h; cases h
  · rw [List.getElem?_set_ne z] at h
    exact h
section
variable {K : PySem.W.Frag} {A : An} {σ : L2.St} {H G H' G' : Hp} {s : S} {T T' : Sto}
theorem some_ne {α : Type} {o : Option α} {x : α} (h : o = some x) : o ≠ none := by rw [h]; exact fun z => nomatch z
theorem SlotOk.grow {o : Option (Option V)} {c : Cell} (h : SlotOk K A T H G o c) (g : Grow A.pen T H G T' H' G') : SlotOk K A T' H' G' o c := by
  cases h with
  | unb => exact .unb
  | val hd => exact .val (hd.up g.g)
  | own h1 h2 h3 h4 h5 h6 => exact .own (g.h _ _ h3 h6 h1) (g.n0 (some_ne h1) h2 h6) h3 h4 (h5.up g.g) (g.s0 (some_ne h1) h6)
  | new hm h1 hl h2 h3 h4 h5 h6 => exact .new hm (g.h _ _ h3 h6 h1) hl (g.n0 (some_ne h1) h2 h6) h3 h4 (h5.up g.g) (g.s0 (some_ne h1) h6)
theorem Rel.grow {n' : M} (R : Rel K A σ H G s) (g : Grow A.pen s.n.st H G n'.st H' G') (p : PenG K A.pen n' G' H') : Rel K A σ H' G' ⟨s.env, n'⟩ :=
  ⟨R.an.trans g, p, R.len, fun i c h => (R.sl i c h).grow g, R.nd, R.tn, fun a xs h => by
    obtain ⟨h1, h2, h3, h4, h5, h6⟩ := R.tm a xs h
    exact ⟨g.h _ _ h3 h6 h1, g.n0 (some_ne h1) h2 h6, h3, h4, h5, g.s0 (some_ne h1) h6⟩, tabs_grow R.tb R.pn g, R.ta, R.nn⟩
/-- a new thing for good -/
theorem Rel.new {p : Addr} {o : HO} (R : Rel K A σ H G s) (hp : H p = none) (no : ∀ ps, o ≠ .tbl ps := by intro _ z; cases z) : Rel K A σ (upd H p o) (upd G p o) s := by
  have g : Grow A.pen s.n.st H G s.n.st (upd H p o) (upd G p o) := Grow.new R.an.e hp R.pn.some R.pn.none R.an.t no
  refine R.grow (n' := s.n) g (R.pn.up g.g g.p g.t (fun a u h => Ex.new hp a u h) fun a ha => ?_)
  rw [upd_ne (fun z => ha (by rw [z]; exact R.pn.fresh hp))]
  exact R.pn.gnone ha
theorem Rel.gnew {p : Addr} {o : HO} (R : Rel K A σ H G s) (hp : H p = none) : Ex G (upd G p o) := Ex.new (fresh_back R.an.e hp)
theorem Rel.temp {p : Addr} {o : HO} (R : Rel K A σ H G s) (hp : H p = none) : Rel K A σ (upd H p o) G s := by
  have g : Grow A.pen s.n.st H G s.n.st (upd H p o) G := Grow.own R.an.e hp R.pn.none R.an.t
  exact R.grow (n' := s.n) g (R.pn.up (Ex.refl _) R.pn.none R.an.t (fun a u h => Ex.new hp a u h) fun a ha => R.pn.gnone ha)
theorem Rel.fresh0 {p : Addr} (R : Rel K A σ H G s) (hp : H p = none) : A.H0 p = none ∧ G p = none ∧ p ≠ A.pen := by
  have np : p ≠ A.pen := fun z => R.pn.some (by rw [← z]; exact hp)
  refine ⟨?_, fresh_back R.an.e hp, np⟩
  cases e : A.H0 p with
  | none => rfl
  | some o => exact absurd hp (R.an.l p (by rw [e]; exact fun z => nomatch z))
theorem Rel.get {i : Nat} {c : Cell} (R : Rel K A σ H G s) (h : s.env[i]? = some c) : SlotOk K A s.n.st H G (σ[i]?) c := R.sl i c h
theorem Rel.val {i : Nat} {d : D} (R : Rel K A σ H G s) (h : s.env[i]? = some (.val d)) : ∃ v, σ[i]? = some (some v) ∧ Dx K A.pen G v d := by
  have q := R.sl i _ h
  generalize σ[i]? = o at q
  cases q with
  | val hd => exact ⟨_, rfl, hd⟩
theorem Rel.own {i : Nat} {ds : List D} (R : Rel K A σ H G s) (h : s.env[i]? = some (.own ds)) : ∃ a xs, σ[i]? = some (some (.ref a)) ∧ H a = some (.lst xs) ∧ G a = none ∧ a ≠ A.pen ∧ A.H0 a = none ∧ DxAll K A.pen G xs ds ∧ s.n.st a = none := by
  have q := R.sl i _ h
  generalize σ[i]? = o at q
  cases q with
  | own h1 h2 h3 h4 h5 h6 => exact ⟨_, _, rfl, h1, h2, h3, h4, h5, h6⟩
/-- a slot is set to a value -/
theorem Rel.setV {i : Nat} {v : V} {d : D} (R : Rel K A σ H G s) (hd : Dx K A.pen G v d) : Rel K A (σ.set i (some v)) H G ⟨s.env.set i (.val d), s.n⟩ := by
  have key : ∀ (j : Nat) (ds : List D), (s.env.set i (.val d))[j]? = some (.own ds) → i ≠ j ∧ s.env[j]? = some (.own ds) := fun j ds h => by
    by_cases z : i = j
    · subst z
      by_cases hl : i < s.env.length
      · rw [List.getElem?_set_self hl] at h; cases h
      · rw [List.getElem?_eq_none (by simpa using Nat.not_lt.mp hl)] at h; cases h
    · rw [List.getElem?_set_ne z] at h
      exact ⟨z, h⟩
  refine ⟨R.an, R.pn, by simp [R.len], fun j c h => ?_, fun j k ds es a hjk h1 h2 h3 h4 => ?_, R.tn, fun a xs h => ?_, R.tb, R.ta, fun j C ns ds h => R.nn j C ns ds (new_set (by intro _ _ _ z; cases z) h)⟩
  · by_cases z : i = j
    · subst z
      have hl : i < s.env.length := by
        by_cases hl : i < s.env.length
        · exact hl
        · rw [List.getElem?_eq_none (by simpa using Nat.not_lt.mp hl)] at h; cases h
      rw [List.getElem?_set_self hl] at h
      cases h
      rw [List.getElem?_set_self (by rw [← R.len]; exact hl)]
      exact .val hd
    · rw [List.getElem?_set_ne z] at h ⊢
      exact R.sl j c h
  rotate_left
  · obtain ⟨h1, h2, h3, h4, h5, h6⟩ := R.tm a xs h
    refine ⟨h1, h2, h3, h4, fun j es hj => ?_, h6⟩
    obtain ⟨n1, g1⟩ := key j es hj
    rw [List.getElem?_set_ne n1]
    exact h5 j es g1
  · have key : ∀ (j : Nat) (ds : List D), (s.env.set i (.val d))[j]? = some (.own ds) → i ≠ j ∧ s.env[j]? = some (.own ds) := fun j ds h => by
      by_cases z : i = j
      · subst z
        by_cases hl : i < s.env.length
        · rw [List.getElem?_set_self hl] at h; cases h
        · rw [List.getElem?_eq_none (by simpa using Nat.not_lt.mp hl)] at h; cases h
      · rw [List.getElem?_set_ne z] at h
        exact ⟨z, h⟩
    obtain ⟨n1, g1⟩ := key j ds h1
    obtain ⟨n2, g2⟩ := key k es h2
    rw [List.getElem?_set_ne n1] at h3
    rw [List.getElem?_set_ne n2] at h4
    exact R.nd j k ds es a hjk g1 g2 h3 h4
/-- a slot is set to a list of one's own -/
theorem Rel.setO {i : Nat} {a : Addr} {xs : List V} {ds : List D} (R : Rel K A σ H G s) (h1 : H a = some (.lst xs)) (h2 : G a = none) (h3 : a ≠ A.pen) (h4 : A.H0 a = none) (hd : DxAll K A.pen G xs ds)
    (na : ∀ (j : Nat) (es : List D), j ≠ i → s.env[j]? = some (.own es) → σ[j]? ≠ some (some (.ref a))) (nt : ∀ xs, (a, xs) ∉ A.tmp) (hs : s.n.st a = none) : Rel K A (σ.set i (some (.ref a))) H G ⟨s.env.set i (.own ds), s.n⟩ := by
  refine ⟨R.an, R.pn, by simp [R.len], fun j c h => ?_, fun j k ds' es b hjk g1 g2 g3 g4 => ?_, R.tn, fun b ys h => ?_, R.tb, R.ta, fun j C ns ds h => R.nn j C ns ds (new_set (by intro _ _ _ z; cases z) h)⟩
  rotate_right
  · obtain ⟨q1, q2, q3, q4, q5, q6⟩ := R.tm b ys h
    refine ⟨q1, q2, q3, q4, fun j es hj => ?_, q6⟩
    by_cases z : i = j
    · subst z
      by_cases hl : i < σ.length
      · rw [List.getElem?_set_self hl]
        intro z
        injection z with z
        injection z with z
        injection z with z
        rw [← z] at h
        exact nt _ h
      · rw [List.getElem?_eq_none (by simpa using Nat.not_lt.mp hl)]
        exact fun z => nomatch z
    · rw [List.getElem?_set_ne z] at hj ⊢
      exact q5 j es hj
  · by_cases z : i = j
    · subst z
      have hl : i < s.env.length := by
        by_cases hl : i < s.env.length
        · exact hl
        · rw [List.getElem?_eq_none (by simpa using Nat.not_lt.mp hl)] at h; cases h
      rw [List.getElem?_set_self hl] at h
      cases h
      rw [List.getElem?_set_self (by rw [← R.len]; exact hl)]
      exact .own h1 h2 h3 h4 hd hs
    · rw [List.getElem?_set_ne z] at h ⊢
      exact R.sl j c h
  · by_cases z : i = j
    · subst z
      have g2' := g2
      rw [List.getElem?_set_ne hjk] at g2' g4
      have hl : i < σ.length := by
        by_cases hl : i < σ.length
        · exact hl
        · rw [List.getElem?_eq_none (by simpa using Nat.not_lt.mp hl)] at g3; cases g3
      rw [List.getElem?_set_self hl] at g3
      cases g3
      exact na k es (Ne.symm hjk) g2' g4
    · rw [List.getElem?_set_ne z] at g1 g3
      by_cases z2 : i = k
      · subst z2
        have hl : i < σ.length := by
          by_cases hl : i < σ.length
          · exact hl
          · rw [List.getElem?_eq_none (by simpa using Nat.not_lt.mp hl)] at g4; cases g4
        rw [List.getElem?_set_self hl] at g4
        cases g4
        exact na j ds' (Ne.symm z) g1 g3
      · rw [List.getElem?_set_ne z2] at g2 g4
        exact R.nd j k ds' es b hjk g1 g2 g3 g4
/-- a list of one's own is written -/
theorem Rel.write {i : Nat} {a : Addr} {xs : List V} {ds es : List D} {ys : List V} (R : Rel K A σ H G s) (hi : s.env[i]? = some (.own ds)) (ha : σ[i]? = some (some (.ref a))) (hd : DxAll K A.pen G ys es) :
    Rel K A σ (upd H a (.lst ys)) G ⟨s.env.set i (.own es), s.n⟩ := by
  obtain ⟨a', xs', e1, h1, h2, h3, h4, h5, h6⟩ := R.own hi
  rw [ha] at e1
  cases e1
  have g : Ex G (upd H a (.lst ys)) := fun b u hb => by
    rw [upd_ne (fun z => by rw [z, h2] at hb; cases hb)]
    exact R.an.e b u hb
  have hl : i < s.env.length := (List.getElem?_eq_some_iff.mp hi).1
  have key : ∀ (j : Nat) (ds' : List D), (s.env.set i (.own es))[j]? = some (.own ds') → ∃ ds'', s.env[j]? = some (.own ds'') := fun j ds' h => by
    by_cases z : i = j
    · subst z
      exact ⟨_, hi⟩
    · rw [List.getElem?_set_ne z] at h
      exact ⟨_, h⟩
  refine ⟨⟨fun b o n sn hb => ?_, R.an.g, R.an.n, g, R.an.p, R.an.t, R.an.m, fun b hb => ne_none_upd (R.an.l b hb)⟩, R.pn.but h3 h6, by simp [R.len], fun j c h => ?_, fun j k ds' es' b hjk g1 g2 g3 g4 => ?_, R.tn, fun b zs h => ?_, tabs_upd R.tb h1, R.ta, fun j C ns ds h => R.nn j C ns ds (new_set (by intro _ _ _ z; cases z) h)⟩
  rotate_right
  · obtain ⟨q1, q2, q3, q4, q5, q6⟩ := R.tm b zs h
    refine ⟨?_, q2, q3, q4, fun j es' hj => ?_, q6⟩
    · rw [upd_ne (fun z => q5 i ds hi (by rw [z]; exact ha))]
      exact q1
    · obtain ⟨_, g1⟩ := key j es' hj
      exact q5 j _ g1
  · rw [upd_ne (fun z => by rw [z, h4] at hb; cases hb)]
    exact R.an.h b o n sn hb
  · by_cases z : i = j
    · subst z
      rw [List.getElem?_set_self hl] at h
      cases h
      rw [ha]
      exact .own upd_same h2 h3 h4 hd h6
    · rw [List.getElem?_set_ne z] at h
      have q := R.sl j c h
      generalize ho : σ[j]? = o at q
      cases q with
      | unb => exact .unb
      | val hv => exact .val hv
      | own q1 q2 q3 q4 q5 q6 =>
        rename_i b _ _
        refine .own ?_ q2 q3 q4 q5 q6
        rw [upd_ne (fun z2 => ?_)]
        · exact q1
        · rw [z2] at ho
          exact R.nd i j ds _ a z hi h ha ho
      | new qm q1 ql q2 q3 q4 q5 q6 => exact .new qm (by rw [upd_ne (fun z2 => by rw [z2, h1] at q1; cases q1)]; exact q1) ql q2 q3 q4 q5 q6
  · have key : ∀ (j : Nat) (ds' : List D), (s.env.set i (.own es))[j]? = some (.own ds') → ∃ ds'', s.env[j]? = some (.own ds'') := fun j ds' h => by
      by_cases z : i = j
      · subst z
        exact ⟨_, hi⟩
      · rw [List.getElem?_set_ne z] at h
        exact ⟨_, h⟩
    obtain ⟨_, q1⟩ := key j ds' g1
    obtain ⟨_, q2⟩ := key k es' g2
    exact R.nd j k _ _ b hjk q1 q2 g3 g4
/-- a list of one's own is given up: from now on it stays -/
theorem Rel.freeze {i : Nat} {a : Addr} {ds : List D} (R : Rel K A σ H G s) (hi : s.env[i]? = some (.own ds)) (ha : σ[i]? = some (some (.ref a))) :
    ∃ G', Ex G G' ∧ Dx K A.pen G' (.ref a) (.lst ds) ∧ Rel K A σ H G' ⟨s.env.set i (.val (.lst ds)), s.n⟩ := by
  obtain ⟨a', xs, e1, h1, h2, h3, h4, h5, h6⟩ := R.own hi
  rw [ha] at e1
  cases e1
  have g : Ex G (upd G a (.lst xs)) := Ex.new h2
  have hl : i < s.env.length := (List.getElem?_eq_some_iff.mp hi).1
  have hdx : Dx K A.pen (upd G a (.lst xs)) (.ref a) (.lst ds) := .lst upd_same (h5.up g)
  have eH : Ex (upd G a (.lst xs)) H := fun b u hb => by
    by_cases z : b = a
    · rw [z, upd_same] at hb
      cases hb
      rw [z]; exact h1
    · rw [upd_ne z] at hb
      exact R.an.e b u hb
  have pp : (upd G a (.lst xs)) A.pen = none := by rw [upd_ne (Ne.symm h3)]; exact R.an.p
  have key : ∀ (j : Nat) (ds' : List D), (s.env.set i (.val (.lst ds)))[j]? = some (.own ds') → s.env[j]? = some (.own ds') := fun j ds' h => by
    by_cases z : i = j
    · subst z
      rw [List.getElem?_set_self hl] at h; cases h
    · rw [List.getElem?_set_ne z] at h
      exact h
  refine ⟨_, g, hdx, ⟨R.an.h, R.an.g.trans g, fun b hb1 hb2 => ?_, eH, pp, R.an.t.upd (fun ps z => nomatch z), R.an.m, R.an.l⟩, R.pn.up g pp (R.an.t.upd fun ps z => nomatch z) (fun _ _ h => h) (fun b hb => by
    rw [upd_ne (fun z => hb (by rw [z]; exact h6))]
    exact R.pn.gnone hb), by simp [R.len], fun j c h => ?_, fun j k ds' es' b hjk g1 g2 g3 g4 => ?_, R.tn, fun b ys h => ?_, R.tb, R.ta, fun j C ns ds h => R.nn j C ns ds (new_set (by intro _ _ _ z; cases z) h)⟩
  rotate_right
  · obtain ⟨q1, q2, q3, q4, q5, q6⟩ := R.tm b ys h
    refine ⟨q1, ?_, q3, q4, fun j es' hj => q5 j es' (key j es' hj), q6⟩
    rw [upd_ne (fun z => q5 i ds hi (by rw [z]; exact ha))]
    exact q2
  · rw [upd_ne (fun z => hb1 (by rw [z]; exact h4))]
    exact R.an.n b hb1 hb2
  · by_cases z : i = j
    · subst z
      rw [List.getElem?_set_self hl] at h
      cases h
      rw [ha]
      exact .val hdx
    · rw [List.getElem?_set_ne z] at h
      have q := R.sl j c h
      generalize ho : σ[j]? = o at q
      cases q with
      | unb => exact .unb
      | val hv => exact .val (hv.up g)
      | own q1 q2 q3 q4 q5 q6 =>
        refine .own q1 ?_ q3 q4 (q5.up g) q6
        rw [upd_ne (fun z2 => ?_)]
        · exact q2
        · rw [z2] at ho
          exact R.nd i j ds _ a z hi h ha ho
      | new qm q1 ql q2 q3 q4 q5 q6 => exact .new qm q1 ql (by rw [upd_ne (fun z2 => by rw [z2, h1] at q1; cases q1)]; exact q2) q3 q4 (q5.up g) q6
  · have key : ∀ (j : Nat) (ds' : List D), (s.env.set i (.val (.lst ds)))[j]? = some (.own ds') → s.env[j]? = some (.own ds') := fun j ds' h => by
      by_cases z : i = j
      · subst z
        rw [List.getElem?_set_self hl] at h; cases h
      · rw [List.getElem?_set_ne z] at h
        exact h
    exact R.nd j k _ _ b hjk (key j ds' g1) (key k es' g2) g3 g4
end
end DL
set_option Elab.async false
set_option linter.all false
set_option maxRecDepth 100000
set_option maxHeartbeats 4000000
namespace DL
open PySem L2 Evl
/-! ### what is asked of data -/
/-- what an exception may be; which tables of code objects are at hand -/
structure WQ where
  er : Addr → List (Str × D) → M → Prop
  tb : List (Addr × Str) := []
instance : CoeFun WQ fun _ => Addr → List (Str × D) → M → Prop := ⟨WQ.er⟩
def WQ.only (Qe : WQ) : WQ := ⟨Qe.er, []⟩
abbrev WE := WQ → S → (D → S → Prop) → Prop
abbrev WT := WQ → S → (Bool → S → Prop) → Prop
abbrev WA := WQ → S → (List D → S → Prop) → Prop
abbrev WF := WQ → S → (List D → S → Prop) → Prop
abbrev WO := WQ → S → (Option Int → S → Prop) → Prop
def FsD (K : PySem.W.Frag) (pen : Addr) (G : Hp) (vfs : List (Str × V)) (fs : List (Str × D)) : Prop := vfs.map (·.1) = fs.map (·.1) ∧ DxAll K pen G (vfs.map (·.2)) (fs.map (·.2))
structure Wish (K : PySem.W.Frag) (A : An) (E : XK) (Qe : WQ) : Prop where
  er : ∀ C fs (n' : M) dx H' G' vfs, Grow A.pen A.S0 A.H0 A.G0 n'.st H' G' → PenG K A.pen n' G' H' → H' dx = some (.xd vfs) → FsD K A.pen G' vfs fs → Qe C fs n' → E (.ref C) (some dx) H'
  tb : Qe.tb = [] ∨ Qe.tb = A.tb
def SimE (K : PySem.W.Frag) (E : XK) (t : TE) (w : WE) : Prop := ∀ (A : An) (Qe : WQ), Wish K A E Qe → ∀ (σ : L2.St) (H G : Hp) (s : S) (Q : D → S → Prop) (P : VK), Rel K A σ H G s → w Qe s Q →
  (∀ v H' G' d s', Rel K A σ H' G' s' → Ex G G' → Dx K A.pen G' v d → Q d s' → P v H') → t σ H P
def SimT (K : PySem.W.Frag) (E : XK) (t : TT) (w : WT) : Prop := ∀ (A : An) (Qe : WQ), Wish K A E Qe → ∀ (σ : L2.St) (H G : Hp) (s : S) (Q : Bool → S → Prop) (P : Bool → Hp → Prop), Rel K A σ H G s → w Qe s Q →
  (∀ b H' G' s', Rel K A σ H' G' s' → Ex G G' → Q b s' → P b H') → t σ H P
def SimA (K : PySem.W.Frag) (E : XK) (t : TA) (w : WA) : Prop := ∀ (A : An) (Qe : WQ), Wish K A E Qe → ∀ (σ : L2.St) (H G : Hp) (s : S) (Q : List D → S → Prop) (P : List V → Hp → Prop), Rel K A σ H G s → w Qe s Q →
  (∀ vs H' G' ds s', Rel K A σ H' G' s' → Ex G G' → DxAll K A.pen G' vs ds → Q ds s' → P vs H') → t σ H P
/-- a list that is new, of one's own -/
structure Own1 (K : PySem.W.Frag) (A : An) (σ : L2.St) (H G : Hp) (s : S) (a : Addr) (ds : List D) : Prop where
  ex : ∃ xs, H a = some (.lst xs) ∧ DxAll K A.pen G xs ds
  g : G a = none
  p : a ≠ A.pen
  h : A.H0 a = none
  o : ∀ (j : Nat) (es : List D), s.env[j]? = some (.own es) → σ[j]? ≠ some (some (.ref a))
  t : ∀ xs, (a, xs) ∉ A.tmp
  s : s.n.st a = none
def SimF (K : PySem.W.Frag) (E : XK) (t : TE) (w : WF) : Prop := ∀ (A : An) (Qe : WQ), Wish K A E Qe → ∀ (σ : L2.St) (H G : Hp) (s : S) (Q : List D → S → Prop) (P : VK), Rel K A σ H G s → w Qe s Q →
  (∀ a H' G' ds s', Rel K A σ H' G' s' → Ex G G' → Own1 K A σ H' G' s' a ds → Q ds s' → P (.ref a) H') → t σ H P
def SimO (K : PySem.W.Frag) (E : XK) (t : TO) (w : WO) : Prop := ∀ (A : An) (Qe : WQ), Wish K A E Qe → ∀ (σ : L2.St) (H G : Hp) (s : S) (Q : Option Int → S → Prop) (P : Option Int → Hp → Prop), Rel K A σ H G s → w Qe s Q →
  (∀ o H' G' s', Rel K A σ H' G' s' → Ex G G' → Q o s' → P o H') → t σ H P
structure DE (X : Cx) (E : XK) (e : Expr) (w : WE) : Prop where
  ex : ∃ t, PE X e t ∧ SimE X.K E t w
structure DT (X : Cx) (E : XK) (e : Expr) (w : WT) : Prop where
  ex : ∃ t, PT X e t ∧ SimT X.K E t w
structure DW (X : Cx) (E : XK) (e : Expr) (w : WT) : Prop where
  ex : ∃ t, PW X e t ∧ SimT X.K E t w
structure DA (X : Cx) (E : XK) (es : List Expr) (w : WA) : Prop where
  ex : ∃ t, PA X es t ∧ SimA X.K E t w
structure DF (X : Cx) (E : XK) (e : Expr) (w : WF) : Prop where
  ex : ∃ t, PE X e t ∧ SimF X.K E t w
structure DO (X : Cx) (E : XK) (e : Option Expr) (w : WO) : Prop where
  ex : ∃ t, PO X e t ∧ SimO X.K E t w
section
variable {K : PySem.W.Frag} {A : An} {σ : L2.St} {H G : Hp} {s : S}
/-- a new list, of one's own -/
theorem Rel.lst {p : Addr} {xs : List V} {ds : List D} (R : Rel K A σ H G s) (hp : H p = none) (hd : DxAll K A.pen G xs ds) : Rel K A σ (upd H p (.lst xs)) G s ∧ Own1 K A σ (upd H p (.lst xs)) G s p ds := by
  obtain ⟨h1, h2, h3⟩ := R.fresh0 hp
  refine ⟨R.temp hp, ⟨⟨xs, upd_same, hd⟩, h2, h3, h1, fun j es hj z => ?_, fun ys z => ?_, R.pn.fresh hp⟩⟩
  · obtain ⟨a, xs', e1, e2, _⟩ := R.own hj
    rw [z] at e1
    cases e1
    rw [hp] at e2
    cases e2
  · have q := (R.tm p ys z).1
    rw [hp] at q
    cases q
/-- a list of one's own is given up -/
theorem Own1.give {a : Addr} {ds : List D} (R : Rel K A σ H G s) (O : Own1 K A σ H G s a ds) : ∃ G', Ex G G' ∧ Dx K A.pen G' (.ref a) (.lst ds) ∧ Rel K A σ H G' s := by
  obtain ⟨xs, h1, h5⟩ := O.ex
  have g : Ex G (upd G a (.lst xs)) := Ex.new O.g
  have eH : Ex (upd G a (.lst xs)) H := fun b u hb => by
    by_cases z : b = a
    · rw [z, upd_same] at hb
      cases hb
      rw [z]; exact h1
    · rw [upd_ne z] at hb
      exact R.an.e b u hb
  have pp : (upd G a (.lst xs)) A.pen = none := by rw [upd_ne (Ne.symm O.p)]; exact R.an.p
  refine ⟨_, g, .lst upd_same (h5.up g), ⟨R.an.h, R.an.g.trans g, fun b hb1 hb2 => ?_, eH, pp, R.an.t.upd (fun ps z => nomatch z), R.an.m, R.an.l⟩, R.pn.up g pp (R.an.t.upd fun ps z => nomatch z) (fun _ _ h => h) (fun b hb => by
    rw [upd_ne (fun z => hb (by rw [z]; exact O.s))]
    exact R.pn.gnone hb), R.len, fun j c h => ?_, R.nd, R.tn, fun b ys h => ?_, R.tb, R.ta, R.nn⟩
  rotate_right
  · obtain ⟨q1, q2, q3, q4, q5, q6⟩ := R.tm b ys h
    refine ⟨q1, ?_, q3, q4, q5, q6⟩
    rw [upd_ne (fun z => O.t ys (by rw [← z]; exact h))]
    exact q2
  · rw [upd_ne (fun z => hb1 (by rw [z]; exact O.h))]
    exact R.an.n b hb1 hb2
  · have q := R.sl j c h
    generalize ho : σ[j]? = o at q
    cases q with
    | unb => exact .unb
    | val hv => exact .val (hv.up g)
    | own q1 q2 q3 q4 q5 q6 =>
      refine .own q1 ?_ q3 q4 (q5.up g) q6
      rw [upd_ne (fun z2 => ?_)]
      · exact q2
      · rw [z2] at ho
        exact O.o j _ h ho
    | new qm q1 ql q2 q3 q4 q5 q6 => exact .new qm q1 ql (by rw [upd_ne (fun z2 => by rw [z2, h1] at q1; cases q1)]; exact q2) q3 q4 (q5.up g) q6
end
/-! ### names, constants, displays -/
def wVar (i : Nat) : WE := fun _ s Q => match s.env[i]? with
  | some (.val d) => Q d s
  | some (.own ds) => Q (.lst ds) ⟨s.env.set i (.val (.lst ds)), s.n⟩
  | _ => False
def wC (d : D) : WE := fun _ s Q => Q d s
section
variable {X : Cx} {E : XK} {e a b c : Expr} {wa wb wc : WE} {pos : Pos}
theorem simE_var (K : PySem.W.Frag) (i : Nat) : SimE K E (tVar i) (wVar i) := fun A Qe _ σ H G s Q P R h k => by
  unfold wVar at h
  split at h
  · rename_i d e
    obtain ⟨v, h1, h2⟩ := R.val e
    exact ⟨v, h1, k _ _ G d s R (Ex.refl _) h2 h⟩
  · rename_i ds e
    obtain ⟨a, xs, h1, _⟩ := R.own e
    obtain ⟨G', g, hd, R'⟩ := R.freeze e h1
    exact ⟨_, h1, k _ _ G' _ _ R' g hd h⟩
  · exact h.elim
theorem de_var (i : Nat) {x : Str} (hN : X.N[i]? = some x := by rfl) (hv : Vis X.env.scope x := by first | exact Or.inl rfl | exact Or.inr (Or.inl rfl) | exact Or.inr (Or.inr rfl)) (hd : (x == ("__debug__" : Str)) = false := by decide)
    (hcd : (x == ("__classdict__" : Str)) = false := by decide) : DE X E (.Name x pos) (wVar i) := ⟨_, pe_var hN hv hd hcd, simE_var _ i⟩
/-- what stands for a written value -/
def CV : V → D → Prop
  | .non, d => d = .non
  | .bl b, d => d = .bl b
  | .int i, d => d = .int i
  | .str x, d => d = .str x
  | _, _ => False
theorem CV.dx {K : PySem.W.Frag} {pen : Addr} {G : Hp} {v : V} {d : D} (h : CV v d) : Dx K pen G v d := by
  cases v with
  | non => cases (show d = .non from h); exact .non
  | bl b => cases (show d = .bl b from h); exact .bl b
  | int i => cases (show d = .int i from h); exact .int i
  | str x => cases (show d = .str x from h); exact .str x
  | _ => exact (show False from h).elim
theorem simE_c (K : PySem.W.Frag) {v : V} {d : D} (h : CV v d) : SimE K E (tC v) (wC d) := fun A Qe _ σ H G s Q P R q k => k _ _ G d s R (Ex.refl _) h.dx q
theorem de_c {v : V} {d : D} (h : PE X e (tC v)) (hc : CV v d := by rfl) : DE X E e (wC d) := ⟨_, h, simE_c _ hc⟩
theorem de_int {i : Int} {p j} : DE X E (.Constant (.int i) j p) (wC (.int i)) := de_c pe_int
theorem de_str {x : Str} {p j} : DE X E (.Constant (.str x) j p) (wC (.str x)) := de_c pe_str
theorem de_bl {k : Bool} {p j} : DE X E (.Constant (.bool k) j p) (wC (.bl k)) := de_c pe_bl
theorem de_non {p j} : DE X E (.Constant .none j p) (wC .non) := de_c pe_non
theorem de_glob {x : Str} {v : V} {d : D} {u : Value} (hg : Gl X x) (hm : X.mg x = some u) (r : RelV v u) (hc : CV v d := by rfl) (hd : (x == ("__debug__" : Str)) = false := by decide) : DE X E (.Name x pos) (wC d) := de_c (pe_glob hg hm r hd) hc
/-- a tuple of the written part -/
theorem de_kt {p : Addr} {ds : List D} {x : Str} (hg : Gl X x) (hm : X.mg x = some (.ref p)) (hd : ∀ (pen : Addr) (G : Hp), Dx X.K pen G (.ref p) (.tup ds)) (hb : (x == ("__debug__" : Str)) = false := by decide) : DE X E (.Name x pos) (wC (.tup ds)) :=
  ⟨_, pe_glob (v := .ref p) hg hm rfl hb, fun A Qe _ σ H G s Q P R q k => k _ _ G _ s R (Ex.refl _) (hd _ _) q⟩
def wNil : WA := fun _ s Q => Q [] s
def wCons (wa : WE) (wr : WA) : WA := fun Qe s Q => wa Qe s fun d s1 => wr Qe s1 fun ds s2 => Q (d :: ds) s2
end
section
variable {X : Cx} {E : XK} {e a b c : Expr} {es : List Expr} {wa wb wc : WE} {wr : WA} {wf : WF} {pos : Pos} {K : PySem.W.Frag} {ta tb tc : TE} {tr : TA}
theorem da_nil : DA X E [] wNil := ⟨_, pa_nil, fun A Qe _ σ H G s Q P R q k => k [] H G [] s R (Ex.refl _) .nil q⟩
theorem simA_cons (h : SimE K E ta wa) (hr : SimA K E tr wr) : SimA K E (tCons ta tr) (wCons wa wr) := fun A Qe W σ H G s Q P R q k =>
  h A Qe W σ H G s _ _ R q fun v H1 G1 d s1 R1 g1 d1 q1 => hr A Qe W σ H1 G1 s1 _ _ R1 q1 fun vs H2 G2 ds s2 R2 g2 d2 q2 => k _ _ G2 _ s2 R2 (g1.trans g2) (.cons (d1.up g2) d2) q2
theorem da_cons (ha : DE X E a wa) (hr : DA X E es wr) (hs : starEach (a :: es) X.env = (false, eval a X.env) :: starEach es X.env := by rfl) : DA X E (a :: es) (wCons wa wr) := by
  obtain ⟨ta, h1, h2⟩ := ha.ex
  obtain ⟨tr, h3, h4⟩ := hr.ex
  exact ⟨_, pa_cons h1 h3 hs, simA_cons h2 h4⟩
/-! a display -/
def wTup (wr : WA) : WE := fun Qe s Q => wr Qe s fun ds s1 => ds.length ≤ 100000 ∧ Q (.tup ds) s1
def wLst (wr : WA) : WF := fun Qe s Q => wr Qe s fun ds s1 => ds.length ≤ 100000 ∧ Q ds s1
def wGive (wf : WF) : WE := fun Qe s Q => wf Qe s fun ds s1 => Q (.lst ds) s1
theorem de_tup {x1} (h : DA X E es wr) : DE X E (.Tuple es x1 pos) (wTup wr) := by
  obtain ⟨t, h1, h2⟩ := h.ex
  refine ⟨_, pe_tup h1, fun A Qe W σ H G s Q P R q k => h2 A Qe W σ H G s _ _ R q fun vs H1 G1 ds s1 R1 g1 d1 q1 => ⟨sz_of (by rw [d1.length]; exact q1.1), fun p hp => ?_⟩⟩
  exact k _ _ _ _ _ (R1.new hp) (g1.trans (R1.gnew hp)) (.tup (st_of upd_same) (d1.up (R1.gnew hp))) q1.2
theorem df_lst (h : DA X E es wr) : DF X E (.List es pos) (wLst wr) := by
  obtain ⟨t, h1, h2⟩ := h.ex
  refine ⟨_, pe_lst h1, fun A Qe W σ H G s Q P R q k => h2 A Qe W σ H G s _ _ R q fun vs H1 G1 ds s1 R1 g1 d1 q1 => ⟨sz_of (by rw [d1.length]; exact q1.1), fun p hp => ?_⟩⟩
  obtain ⟨R2, o2⟩ := R1.lst hp d1
  exact k _ _ _ _ _ R2 g1 o2 q1.2
theorem de_give (h : DF X E e wf) : DE X E e (wGive wf) := by
  obtain ⟨t, h1, h2⟩ := h.ex
  refine ⟨_, h1, fun A Qe W σ H G s Q P R q k => h2 A Qe W σ H G s _ _ R q fun a H1 G1 ds s1 R1 g1 o1 q1 => ?_⟩
  obtain ⟨G2, g2, d2, R2⟩ := o1.give R1
  exact k _ _ _ _ _ R2 (g1.trans g2) d2 q1
theorem de_lst (h : DA X E es wr) : DE X E (.List es pos) (wGive (wLst wr)) := de_give (df_lst h)
/-! ### operators by data -/
theorem OpR.or {f : Value → Value → Sem Value} {r r' : R2} (h : OpR X f r) (h' : OpR X f r') : OpR X f (fun x y H Q => r x y H Q ∨ r' x y H Q) := by
  intro pins s σ H x y v u Q I rx ry q
  rcases q with q | q
  · exact h pins s σ H x y v u Q I rx ry q
  · exact h' pins s σ H x y v u Q I rx ry q
abbrev F2 := D → D → (D → Prop) → Prop
/-- an operator's reading by values keeps what is told by data -/
def Ref2 (K : PySem.W.Frag) (r : R2) (f : F2) : Prop := ∀ (A : An) (σ : L2.St) (H G : Hp) (s : S) (x y : V) (d e : D) (Q : D → Prop) (P : VK), Rel K A σ H G s → Dx K A.pen G x d → Dx K A.pen G y e → f d e Q →
  (∀ v H' G' z, Rel K A σ H' G' s → Ex G G' → Dx K A.pen G' v z → Q z → P v H') → r x y H P
def wOp (f : F2) (wa wb : WE) : WE := fun Qe s Q => wa Qe s fun d s1 => wb Qe s1 fun e s2 => f d e fun z => Q z s2
theorem simE_op {r : R2} {f : F2} (hf : Ref2 K r f) (ha : SimE K E ta wa) (hb : SimE K E tb wb) : SimE K E (tOp r ta tb) (wOp f wa wb) := fun A Qe W σ H G s Q P R q k =>
  ha A Qe W σ H G s _ _ R q fun x H1 G1 d s1 R1 g1 d1 q1 => hb A Qe W σ H1 G1 s1 _ _ R1 q1 fun y H2 G2 e s2 R2 g2 d2 q2 =>
    hf A σ H2 G2 s2 x y d e _ _ R2 (d1.up g2) d2 q2 fun v H3 G3 z R3 g3 d3 q3 => k _ _ _ _ _ R3 (g1.trans (g2.trans g3)) d3 q3
theorem de_op {op : Operator} {r : R2} {f : F2} (ho : OpR X (binaryOp op) r) (hf : Ref2 X.K r f) (ha : DE X E a wa) (hb : DE X E b wb) : DE X E (.BinOp a op b pos) (wOp f wa wb) := by
  obtain ⟨ta, h1, h2⟩ := ha.ex
  obtain ⟨tb, h3, h4⟩ := hb.ex
  exact ⟨_, pe_op ho h1 h3, simE_op hf h2 h4⟩
theorem de_cmp {op : CmpOp} {r : R2} {f : F2} (ho : OpR X (compareOp op) r) (hf : Ref2 X.K r f) (hm : behindInMarks op b = false) (ha : DE X E a wa) (hb : DE X E b wb) : DE X E (.Compare a [op] [b] pos) (wOp f wa wb) := by
  obtain ⟨ta, h1, h2⟩ := ha.ex
  obtain ⟨tb, h3, h4⟩ := hb.ex
  exact ⟨_, pe_cmpR ho h1 h3 hm, simE_op hf h2 h4⟩
/-- a value that is a test -/
def wT (wa : WE) : WT := fun Qe s Q => wa Qe s fun d s1 => match d with
  | .bl b => Q b s1
  | _ => False
theorem simT_test (h : SimE K E ta wa) : SimT K E (tTest ta) (wT wa) := fun A Qe W σ H G s Q P R q k =>
  h A Qe W σ H G s _ _ R q fun v H1 G1 d s1 R1 g1 d1 q1 => by
    cases d with
    | bl b => cases d1; exact ⟨b, rfl, k _ _ _ _ R1 g1 q1⟩
    | _ => exact (show False from q1).elim
theorem simT_B (h : SimE K E ta wa) : SimT K E (tB ta) (wT wa) := fun A Qe W σ H G s Q P R q k =>
  h A Qe W σ H G s _ _ R q fun v H1 G1 d s1 R1 g1 d1 q1 => by
    cases d with
    | bl b => cases d1; exact ⟨b, rfl, k _ _ _ _ R1 g1 q1⟩
    | _ => exact (show False from q1).elim
theorem dt_cmp {op : CmpOp} {r : R2} {f : F2} (ho : OpR X (compareOp op) r) (hf : Ref2 X.K r f) (hm : behindInMarks op b = false) (ha : DE X E a wa) (hb : DE X E b wb) : DT X E (.Compare a [op] [b] pos) (wT (wOp f wa wb)) := by
  obtain ⟨ta, h1, h2⟩ := ha.ex
  obtain ⟨tb, h3, h4⟩ := hb.ex
  exact ⟨_, pt_cmpR ho h1 h3 hm, simT_test (simE_op hf h2 h4)⟩
theorem dt_val (h : DE X E e wa) (he : ∀ whole, isTrue e X.env whole = (do let v ← whole; standAt e.pos; holding [v] (truthy v)) := by intro _; rfl) : DT X E e (wT wa) := by
  obtain ⟨t, h1, h2⟩ := h.ex
  exact ⟨_, pt_val h1 he, simT_B h2⟩
def wNot (wt : WT) : WT := fun Qe s Q => wt Qe s fun b s1 => Q (!b) s1
def wAnd (w1 w2 : WT) : WT := fun Qe s Q => w1 Qe s fun b s1 => if b = true then w2 Qe s1 Q else Q false s1
def wOr (w1 w2 : WT) : WT := fun Qe s Q => w1 Qe s fun b s1 => if b = true then Q true s1 else w2 Qe s1 Q
end
section
variable {X : Cx} {E : XK} {e a b c : Expr} {rest : List Expr} {wa wb wc : WE} {w1 w2 : WT} {pos : Pos} {K : PySem.W.Frag} {ta tb tc : TE} {t1 t2 : TT}
theorem simT_not (h : SimT K E t1 w1) : SimT K E (tNot t1) (wNot w1) := fun A Qe W σ H G s Q P R q k => h A Qe W σ H G s _ _ R q fun b H1 G1 s1 R1 g1 q1 => k _ _ _ _ R1 g1 q1
theorem simT_and (h : SimT K E t1 w1) (h' : SimT K E t2 w2) : SimT K E (tAnd t1 t2) (wAnd w1 w2) := fun A Qe W σ H G s Q P R q k => h A Qe W σ H G s _ _ R q fun b H1 G1 s1 R1 g1 q1 => by
  cases b with
  | true => exact h' A Qe W σ H1 G1 s1 Q P R1 q1 fun b H2 G2 s2 R2 g2 q2 => k _ _ _ _ R2 (g1.trans g2) q2
  | false => exact k _ _ _ _ R1 g1 q1
theorem simT_or (h : SimT K E t1 w1) (h' : SimT K E t2 w2) : SimT K E (tOr t1 t2) (wOr w1 w2) := fun A Qe W σ H G s Q P R q k => h A Qe W σ H G s _ _ R q fun b H1 G1 s1 R1 g1 q1 => by
  cases b with
  | false => exact h' A Qe W σ H1 G1 s1 Q P R1 q1 fun b H2 G2 s2 R2 g2 q2 => k _ _ _ _ R2 (g1.trans g2) q2
  | true => exact k _ _ _ _ R1 g1 q1
theorem dt_not (h : DT X E a w1) : DT X E (.UnaryOp .Not a pos) (wNot w1) := by
  obtain ⟨t, h1, h2⟩ := h.ex
  exact ⟨_, pt_not h1, simT_not h2⟩
theorem dw_and1 (h : DT X E a w1) : DW X E (.BoolOp .And [a] pos) w1 := by
  obtain ⟨t, h1, h2⟩ := h.ex
  exact ⟨_, pw_and1 h1, h2⟩
theorem dw_or1 (h : DT X E a w1) : DW X E (.BoolOp .Or [a] pos) w1 := by
  obtain ⟨t, h1, h2⟩ := h.ex
  exact ⟨_, pw_or1 h1, h2⟩
theorem dw_and (h : DT X E a w1) (h' : DW X E (.BoolOp .And (b :: rest) pos) w2) : DW X E (.BoolOp .And (a :: b :: rest) pos) (wAnd w1 w2) := by
  obtain ⟨t, h1, h2⟩ := h.ex
  obtain ⟨u, h3, h4⟩ := h'.ex
  exact ⟨_, pw_and h1 h3, simT_and h2 h4⟩
theorem dw_or (h : DT X E a w1) (h' : DW X E (.BoolOp .Or (b :: rest) pos) w2) : DW X E (.BoolOp .Or (a :: b :: rest) pos) (wOr w1 w2) := by
  obtain ⟨t, h1, h2⟩ := h.ex
  obtain ⟨u, h3, h4⟩ := h'.ex
  exact ⟨_, pw_or h1 h3, simT_or h2 h4⟩
theorem DW.dt (h : DW X E e w1) : DT X E e w1 := by
  obtain ⟨t, h1, h2⟩ := h.ex
  exact ⟨_, h1.pt, h2⟩
/-- and, or, not as values -/
def wAndV (wa wb : WE) : WE := fun Qe s Q => wa Qe s fun d s1 => match d with
  | .bl b => if b = true then wb Qe s1 Q else Q (.bl false) s1
  | _ => False
def wOrV (wa wb : WE) : WE := fun Qe s Q => wa Qe s fun d s1 => match d with
  | .bl b => if b = true then Q (.bl true) s1 else wb Qe s1 Q
  | _ => False
def wNotV (wa : WE) : WE := fun Qe s Q => wa Qe s fun d s1 => match d with
  | .bl b => Q (.bl (!b)) s1
  | _ => False
def wIf (wt : WT) (wa wb : WE) : WE := fun Qe s Q => wt Qe s fun b s1 => if b = true then wa Qe s1 Q else wb Qe s1 Q
theorem de_one {op} (h : DE X E a wa) : DE X E (.BoolOp op [a] pos) wa := by
  obtain ⟨t, h1, h2⟩ := h.ex
  exact ⟨_, pe_one h1, h2⟩
theorem de_and (h : DE X E a wa) (h' : DE X E (.BoolOp .And (b :: rest) pos) wb) : DE X E (.BoolOp .And (a :: b :: rest) pos) (wAndV wa wb) := by
  obtain ⟨t, h1, h2⟩ := h.ex
  obtain ⟨u, h3, h4⟩ := h'.ex
  refine ⟨_, pe_and h1 h3, fun A Qe W σ H G s Q P R q k => h2 A Qe W σ H G s _ _ R q fun v H1 G1 d s1 R1 g1 d1 q1 => ?_⟩
  cases d with
  | bl b =>
    cases d1
    refine ⟨b, rfl, ?_⟩
    cases b with
    | true => exact h4 A Qe W σ H1 G1 s1 Q P R1 q1 fun v H2 G2 d s2 R2 g2 d2 q2 => k _ _ _ _ _ R2 (g1.trans g2) d2 q2
    | false => exact k _ _ _ _ _ R1 g1 (.bl false) q1
  | _ => exact (show False from q1).elim
theorem de_or (h : DE X E a wa) (h' : DE X E (.BoolOp .Or (b :: rest) pos) wb) : DE X E (.BoolOp .Or (a :: b :: rest) pos) (wOrV wa wb) := by
  obtain ⟨t, h1, h2⟩ := h.ex
  obtain ⟨u, h3, h4⟩ := h'.ex
  refine ⟨_, pe_or h1 h3, fun A Qe W σ H G s Q P R q k => h2 A Qe W σ H G s _ _ R q fun v H1 G1 d s1 R1 g1 d1 q1 => ?_⟩
  cases d with
  | bl b =>
    cases d1
    refine ⟨b, rfl, ?_⟩
    cases b with
    | false => exact h4 A Qe W σ H1 G1 s1 Q P R1 q1 fun v H2 G2 d s2 R2 g2 d2 q2 => k _ _ _ _ _ R2 (g1.trans g2) d2 q2
    | true => exact k _ _ _ _ _ R1 g1 (.bl true) q1
  | _ => exact (show False from q1).elim
theorem de_not (h : DE X E a wa) : DE X E (.UnaryOp .Not a pos) (wNotV wa) := by
  obtain ⟨t, h1, h2⟩ := h.ex
  refine ⟨_, pe_not h1, fun A Qe W σ H G s Q P R q k => h2 A Qe W σ H G s _ _ R q fun v H1 G1 d s1 R1 g1 d1 q1 => ?_⟩
  cases d with
  | bl b => cases d1; exact ⟨b, rfl, k _ _ _ _ _ R1 g1 (.bl _) q1⟩
  | _ => exact (show False from q1).elim
theorem de_if {cc : Expr} (h : DT X E cc w1) (ha : DE X E a wa) (hb : DE X E b wb) : DE X E (.IfExp cc a b pos) (wIf w1 wa wb) := by
  obtain ⟨t, h1, h2⟩ := h.ex
  obtain ⟨ta, h3, h4⟩ := ha.ex
  obtain ⟨tb, h5, h6⟩ := hb.ex
  refine ⟨_, pe_ifExp h1 h3 h5, fun A Qe W σ H G s Q P R q k => h2 A Qe W σ H G s _ _ R q fun b H1 G1 s1 R1 g1 q1 => ?_⟩
  cases b with
  | true => exact h4 A Qe W σ H1 G1 s1 Q P R1 q1 fun v H2 G2 d s2 R2 g2 d2 q2 => k _ _ _ _ _ R2 (g1.trans g2) d2 q2
  | false => exact h6 A Qe W σ H1 G1 s1 Q P R1 q1 fun v H2 G2 d s2 R2 g2 d2 q2 => k _ _ _ _ _ R2 (g1.trans g2) d2 q2
/-- is None, is not None -/
def wIsN (neg : Bool) (wa : WE) : WE := fun Qe s Q => wa Qe s fun d s1 => Q (.bl (match d with
  | .non => !neg
  | _ => neg)) s1
theorem dx_non {K : PySem.W.Frag} {pen : Addr} {G : Hp} {v : V} {d : D} (h : Dx K pen G v d) : decide (v = V.non) = (match d with
  | .non => true
  | _ => false) := by
  cases h <;> rfl
theorem simE_isN (h : SimE K E ta wa) : SimE K E (tIsN ta) (wIsN false wa) := fun A Qe W σ H G s Q P R q k => h A Qe W σ H G s _ _ R q fun v H1 G1 d s1 R1 g1 d1 q1 => k _ _ _ _ _ R1 g1 (by
  rw [dx_non d1]
  cases d <;> exact .bl _) q1
theorem simE_notN (h : SimE K E ta wa) : SimE K E (tNotN ta) (wIsN true wa) := fun A Qe W σ H G s Q P R q k => h A Qe W σ H G s _ _ R q fun v H1 G1 d s1 R1 g1 d1 q1 => k _ _ _ _ _ R1 g1 (by
  rw [dx_non d1]
  cases d <;> exact .bl _) q1
theorem de_isN {j pos'} (h : DE X E a wa) : DE X E (.Compare a [.Is] [.Constant .none j pos'] pos) (wIsN false wa) := by
  obtain ⟨t, h1, h2⟩ := h.ex
  exact ⟨_, pe_cmp (pc_isN h1), simE_isN h2⟩
theorem de_notN {j pos'} (h : DE X E a wa) : DE X E (.Compare a [.IsNot] [.Constant .none j pos'] pos) (wIsN true wa) := by
  obtain ⟨t, h1, h2⟩ := h.ex
  exact ⟨_, pe_cmp (pc_notN h1), simE_notN h2⟩
theorem dt_isN {j pos'} (h : DE X E a wa) : DT X E (.Compare a [.Is] [.Constant .none j pos'] pos) (wT (wIsN false wa)) := by
  obtain ⟨t, h1, h2⟩ := h.ex
  exact ⟨_, pt_cmp (pc_isN h1), simT_B (simE_isN h2)⟩
theorem dt_notN {j pos'} (h : DE X E a wa) : DT X E (.Compare a [.IsNot] [.Constant .none j pos'] pos) (wT (wIsN true wa)) := by
  obtain ⟨t, h1, h2⟩ := h.ex
  exact ⟨_, pt_cmp (pc_notN h1), simT_B (simE_notN h2)⟩
end
end DL
set_option Elab.async false
set_option linter.all false
set_option maxRecDepth 100000
set_option maxHeartbeats 4000000
namespace DL
open PySem L2 Evl
/-! ### data that the library's deep rules know -/
mutual
def D.py : D → PyData
  | .non => .none
  | .bl b => .bool b
  | .int i => .int i
  | .str x => .str x
  | .lst ds => .list (D.pys ds)
  | .tup ds => .tuple (D.pys ds)
  | .dct _ _ => .none
  | .pen => .none
  | .obj _ _ _ => .none
  | .loc _ => .none
def D.pys : List D → List PyData
  | [] => []
  | d :: ds => d.py :: D.pys ds
end
mutual
def D.dat : D → Bool
  | .lst ds => D.dats ds
  | .tup ds => D.dats ds
  | .dct _ _ => false
  | .pen => false
  | .obj _ _ _ => false
  | .loc _ => false
  | .non => true
  | .bl _ => true
  | .int _ => true
  | .str _ => true
def D.dats : List D → Bool
  | [] => true
  | d :: ds => d.dat && D.dats ds
end
section
variable {K : PySem.W.Frag} {pen : Addr} {G H : Hp}
mutual
theorem Dx.dp (e : Ex G H) : ∀ (d : D) (v : V), d.dat = true → Dx K pen G v d → Dp K H v d.py
  | .non, _, _, h => by cases h; exact .non
  | .bl b, _, _, h => by cases h; exact .bl b
  | .int i, _, _, h => by cases h; exact .int i
  | .str x, _, _, h => by cases h; exact .str x
  | .lst ds, _, l, h => by
    cases h with
    | lst hs ha => exact .lst (sq_of (e _ _ hs)) (DxAll.dp e ds _ l ha)
  | .tup ds, _, l, h => by
    cases h with
    | tup hs ha => exact .tup (ex_t e hs) (DxAll.dp e ds _ l ha)
  | .dct _ _, _, l, h => by cases l
  | .loc _, _, l, h => by cases l
  | .pen, _, l, h => by cases l
  | .obj _ _ _, _, l, h => by cases l
theorem DxAll.dp (e : Ex G H) : ∀ (ds : List D) (vs : List V), D.dats ds = true → DxAll K pen G vs ds → DpAll K H vs (D.pys ds)
  | [], _, _, h => by cases h; exact .nil
  | d :: ds, _, l, h => by
    rw [D.dats, Bool.and_eq_true] at l
    cases h with
    | cons h1 h2 => exact .cons (Dx.dp e d _ l.1 h1) (DxAll.dp e ds _ l.2 h2)
end
end
/-! ### arithmetic -/
def fInt (C : Int → Int → Prop) (g : Int → Int → D) : F2 := fun d e Q => match d, e with
  | .int i, .int j => C i j ∧ Q (g i j)
  | _, _ => False
def fInt0 (g : Int → Int → D) : F2 := fun d e Q => match d, e with
  | .int i, .int j => Q (g i j)
  | _, _ => False
theorem ref_int {K : PySem.W.Frag} {C : Int → Int → Prop} {g : Int → Int → V} {g' : Int → Int → D} (hg : ∀ i j, CV (g i j) (g' i j)) : Ref2 K (rI C g) (fInt C g') := by
  intro A σ H G s x y d e Q P R hx hy h k
  cases d with
  | int i =>
    cases e with
    | int j =>
      cases hx
      cases hy
      exact ⟨i, j, rfl, rfl, h.1, k _ _ G _ R (Ex.refl _) (hg i j).dx h.2⟩
    | _ => exact (show False from h).elim
  | _ => exact (show False from h).elim
theorem ref_int0 {K : PySem.W.Frag} {g : Int → Int → V} {g' : Int → Int → D} (hg : ∀ i j, CV (g i j) (g' i j)) : Ref2 K (rI0 g) (fInt0 g') := by
  intro A σ H G s x y d e Q P R hx hy h k
  cases d with
  | int i =>
    cases e with
    | int j =>
      cases hx
      cases hy
      exact ⟨i, j, rfl, rfl, k _ _ G _ R (Ex.refl _) (hg i j).dx h⟩
    | _ => exact (show False from h).elim
  | _ => exact (show False from h).elim
def fAdd : F2 := fun d e Q => match d, e with
  | .int i, .int j => Q (.int (i + j))
  | .lst a, .lst b => a.length + b.length ≤ 100000 ∧ Q (.lst (a ++ b))
  | .tup a, .tup b => a.length + b.length ≤ 100000 ∧ Q (.tup (a ++ b))
  | .str a, .str b => a.length + b.length ≤ 100000 ∧ Q (.str (a ++ b))
  | _, _ => False
def rAddStr : R2 := fun x y H Q => ∃ i j, x = .str i ∧ y = .str j ∧ i.length + j.length ≤ sizeLine ∧ Q (.str (i ++ j)) H
def rAddD (K : PySem.W.Frag) : R2 := fun x y H Q => (rI0 (fun i j => .int (i + j)) x y H Q) ∨ (rCat x y H Q ∨ (rCatA K x y H Q ∨ rAddStr x y H Q))
theorem op_addD {X : Cx} : OpR X (binaryOp .Add) (rAddD X.K) := OpR.or op_add (OpR.or op_cat (OpR.or op_catA op_add_str))
theorem ref_add {K : PySem.W.Frag} : Ref2 K (rAddD K) fAdd := by
  intro A σ H G s x y d e Q P R hx hy h k
  cases d with
  | int i =>
    cases e with
    | int j => cases hx; cases hy; exact .inl ⟨i, j, rfl, rfl, k _ _ G _ R (Ex.refl _) (.int _) h⟩
    | _ => exact (show False from h).elim
  | str i =>
    cases e with
    | str j => cases hx; cases hy; exact .inr (.inr (.inr ⟨i, j, rfl, rfl, sz_of h.1, k _ _ G _ R (Ex.refl _) (.str _) h.2⟩))
    | _ => exact (show False from h).elim
  | lst a =>
    cases e with
    | lst b =>
      cases hx with
      | lst hx hxa =>
        cases hy with
        | lst hy hya =>
          refine .inr (.inl ⟨_, _, _, _, rfl, rfl, R.an.e _ _ hx, R.an.e _ _ hy, sz_of (by rw [hxa.length, hya.length]; exact h.1), fun p hp => ?_⟩)
          exact k _ _ _ _ (R.new hp) (R.gnew hp) (.lst upd_same ((hxa.up (R.gnew hp)).append (hya.up (R.gnew hp)))) h.2
    | _ => exact (show False from h).elim
  | tup a =>
    cases e with
    | tup b =>
      cases hx with
      | tup hx hxa =>
        cases hy with
        | tup hy hya =>
          rename_i pa xs pb ys
          refine .inr (.inr (.inl ⟨_, _, _, _, rfl, rfl, ex_t R.an.e hx, ex_t R.an.e hy, sz_of (by rw [hxa.length, hya.length]; exact h.1), fun z => ?_, fun z1 z2 => ?_, fun z1 z2 p hp => ?_⟩))
          · subst z
            have hl := hxa.length
            obtain rfl : a = [] := by cases a with | nil => rfl | cons _ _ => cases hl
            exact k _ _ _ _ R (Ex.refl _) (.tup hy hya) h.2
          · subst z2
            have hl := hya.length
            obtain rfl : b = [] := by cases b with | nil => rfl | cons _ _ => cases hl
            have h2 := h.2
            rw [List.append_nil] at h2
            exact k _ _ _ _ R (Ex.refl _) (.tup hx hxa) h2
          · exact k _ _ _ _ (R.new hp) (R.gnew hp) (.tup (st_of upd_same) ((hxa.up (R.gnew hp)).append (hya.up (R.gnew hp)))) h.2
    | _ => exact (show False from h).elim
  | _ => exact (show False from h).elim
section
variable {X : Cx} {E : XK} {a b : Expr} {wa wb : WE} {pos : Pos}
theorem de_add (ha : DE X E a wa) (hb : DE X E b wb) : DE X E (.BinOp a .Add b pos) (wOp fAdd wa wb) := de_op op_addD ref_add ha hb
theorem de_sub (ha : DE X E a wa) (hb : DE X E b wb) : DE X E (.BinOp a .Sub b pos) (wOp (fInt0 fun i j => .int (i - j)) wa wb) := de_op op_sub (ref_int0 fun _ _ => rfl) ha hb
theorem de_mul (ha : DE X E a wa) (hb : DE X E b wb) : DE X E (.BinOp a .Mult b pos) (wOp (fInt CMul fun i j => .int (i * j)) wa wb) := de_op op_mul (ref_int fun _ _ => rfl) ha hb
theorem de_mod (ha : DE X E a wa) (hb : DE X E b wb) : DE X E (.BinOp a .Mod b pos) (wOp (fInt (fun _ j => 0 < j) fun i j => .int (i % j)) wa wb) := de_op op_mod (ref_int fun _ _ => rfl) ha hb
theorem de_fdiv (ha : DE X E a wa) (hb : DE X E b wb) : DE X E (.BinOp a .FloorDiv b pos) (wOp (fInt CDiv fun i j => .int (i / j)) wa wb) := de_op op_fdiv (ref_int fun _ _ => rfl) ha hb
theorem de_neg {i : Int} {p j p2} : DE X E (.UnaryOp .USub (.Constant (.int i) j p) p2) (wC (.int (-i))) :=
  ⟨_, pe_un un_neg pe_int, fun A Qe _ σ H G s Q P R q k => ⟨i, rfl, k _ _ G _ s R (Ex.refl _) (.int _) q⟩⟩
end
/-! ### list * int -/
def fRep : F2 := fun d e Q => match d, e with
  | .lst a, .int j => (0 ≤ j ∧ j < 100000 ∧ a.length * j.toNat ≤ 100000) ∧ Q (.lst (List.replicate j.toNat a).flatten)
  | _, _ => False
theorem ref_rep {K : PySem.W.Frag} : Ref2 K rRep fRep := by
  intro A σ H G s x y d e Q P R hx hy h k
  cases d with
  | lst a =>
    cases e with
    | int j =>
      cases hy
      cases hx with
      | lst hx hxa =>
        obtain ⟨⟨h1, h2, h3⟩, h4⟩ := h
        refine ⟨_, j, _, rfl, rfl, R.an.e _ _ hx, by omega, by omega, sz_of (by rw [hxa.length]; exact h3), fun p hp => ?_⟩
        exact k _ _ _ _ (R.new hp) (R.gnew hp) (.lst upd_same ((hxa.reps _).up (R.gnew hp))) h4
    | _ => exact (show False from h).elim
  | _ => exact (show False from h).elim
/-! ### comparisons -/
def D.sc : D → Option V
  | .non => some .non
  | .bl b => some (.bl b)
  | .int i => some (.int i)
  | .str x => some (.str x)
  | _ => none
theorem Dx.sc {K : PySem.W.Frag} {pen : Addr} {G : Hp} {v x : V} {d : D} (h : Dx K pen G v d) (e : d.sc = some x) : v = x := by
  cases h <;> first | (cases e; rfl) | cases e
def eqS (d e : D) : Option Bool := match d.sc, e.sc with
  | some x, some y => if scal x y = true then some (decide (x = y)) else none
  | _, _ => none
/-- equal, by data -/
def EqD (d e : D) (b : Bool) : Prop := eqS d e = some b ∨ ((d.dat = true ∧ e.dat = true ∧ SeqAt.shaped d.py = true ∧ SeqAt.shaped e.py = true) ∧ PyData.eqv d.py e.py = b)
def fEq (neg : Bool) : F2 := fun d e Q => ∃ b, EqD d e b ∧ Q (.bl (if neg then !b else b))
def rEqU (K : PySem.W.Frag) : R2 := fun x y H Q => rEq x y H Q ∨ rEqD K x y H Q
def rNeU (K : PySem.W.Frag) : R2 := fun x y H Q => rNe x y H Q ∨ rNeD K x y H Q
theorem op_eqU {X : Cx} (hu : X.A.units + 64 < cLine) : OpR X (compareOp .Eq) (rEqU X.K) := OpR.or op_eq (op_eqD hu)
theorem op_neU {X : Cx} (hu : X.A.units + 64 < cLine) : OpR X (compareOp .NotEq) (rNeU X.K) := OpR.or op_ne (op_neD hu)
theorem eqS_at {K : PySem.W.Frag} {pen : Addr} {G : Hp} {x y : V} {d e : D} {b : Bool} (hx : Dx K pen G x d) (hy : Dx K pen G y e) (h : eqS d e = some b) : scal x y = true ∧ decide (x = y) = b := by
  unfold eqS at h
  split at h
  · rename_i x' y' e1 e2
    rw [hx.sc e1, hy.sc e2]
    split at h
    · rename_i hs
      exact ⟨hs, Option.some.inj h⟩
    · cases h
  · cases h
theorem ref_eq {K : PySem.W.Frag} : Ref2 K (rEqU K) (fEq false) := by
  intro A σ H G s x y d e Q P R hx hy h k
  obtain ⟨b, h, q⟩ := h
  have fin : P (.bl b) H := k _ _ G _ R (Ex.refl _) (.bl _) q
  rcases h with h | ⟨⟨h1, h2, h3, h4⟩, h5⟩
  · obtain ⟨g1, g2⟩ := eqS_at hx hy h
    exact .inl ⟨g1, by rw [g2]; exact fin⟩
  · exact .inr ⟨_, _, Dx.dp R.an.e _ _ h1 hx, Dx.dp R.an.e _ _ h2 hy, h3, h4, by rw [h5]; exact fin⟩
theorem ref_ne {K : PySem.W.Frag} : Ref2 K (rNeU K) (fEq true) := by
  intro A σ H G s x y d e Q P R hx hy h k
  obtain ⟨b, h, q⟩ := h
  have fin : P (.bl (!b)) H := k _ _ G _ R (Ex.refl _) (.bl _) q
  rcases h with h | ⟨⟨h1, h2, h3, h4⟩, h5⟩
  · obtain ⟨g1, g2⟩ := eqS_at hx hy h
    exact .inl ⟨g1, by rw [g2]; exact fin⟩
  · exact .inr ⟨_, _, Dx.dp R.an.e _ _ h1 hx, Dx.dp R.an.e _ _ h2 hy, h3, h4, by rw [h5]; exact fin⟩
def fLt : F2 := fInt0 fun i j => .bl (decide (i < j))
def fLe : F2 := fInt0 fun i j => .bl (decide (i ≤ j))
def fGt : F2 := fInt0 fun i j => .bl (decide (j < i))
def fGe : F2 := fInt0 fun i j => .bl (decide (j ≤ i))
theorem ref_lt {K : PySem.W.Frag} : Ref2 K (rI0 fun i j => .bl (decide (i < j))) fLt := ref_int0 fun _ _ => rfl
theorem ref_le {K : PySem.W.Frag} : Ref2 K (rI0 fun i j => .bl (decide (i ≤ j))) fLe := ref_int0 fun _ _ => rfl
theorem ref_gt {K : PySem.W.Frag} : Ref2 K (rI0 fun i j => .bl (decide (j < i))) fGt := ref_int0 fun _ _ => rfl
theorem ref_ge {K : PySem.W.Frag} : Ref2 K (rI0 fun i j => .bl (decide (j ≤ i))) fGe := ref_int0 fun _ _ => rfl
/-- x in (a, b, ..) -/
def rTIn (K : PySem.W.Frag) (neg : Bool) : R2 := fun x y H Q => ∃ d ds, Dp K H x d ∧ Dp K H y (.tuple ds) ∧ SeqAt.shaped d = true ∧ SeqAt.shaped (.tuple ds) = true ∧ Q (.bl (if neg then !(ds.any fun z => PyData.eqv z d) else ds.any fun z => PyData.eqv z d)) H
theorem room_tin {A : Around} {d : PyData} {ds : List PyData} (h : SeqAt.shaped d = true) (hu : A.units + 65 < cLine) : A.units + 1 + min (PyData.depthAll ds) d.depth < cLine := by
  have h1 := SeqAt.depth_of_shaped h
  have h2 : min (PyData.depthAll ds) d.depth ≤ d.depth := Nat.min_le_right _ _
  omega
theorem op_inT {X : Cx} (hu : X.A.units + 65 < cLine) : OpR X (compareOp .In) (rTIn X.K false) := by
  intro pins s σ H x y v u Q I rx ry h
  obtain ⟨d, ds, hd, he, sd, se, q⟩ := h
  obtain ⟨as, r1⟩ := Dp.reads I d x v hd rx
  obtain ⟨bs, r2⟩ := Dp.reads I (.tuple ds) y u he ry
  exact SeqAt.in_tuple_reads r2 r1 (SeqAt.canLay_of_shaped se) (SeqAt.canLay_of_shaped sd) (room_tin sd hu) ⟨.bl _, H, I, rfl, q⟩
theorem op_notInT {X : Cx} (hu : X.A.units + 65 < cLine) : OpR X (compareOp .NotIn) (rTIn X.K true) := by
  intro pins s σ H x y v u Q I rx ry h
  obtain ⟨d, ds, hd, he, sd, se, q⟩ := h
  obtain ⟨as, r1⟩ := Dp.reads I d x v hd rx
  obtain ⟨bs, r2⟩ := Dp.reads I (.tuple ds) y u he ry
  exact SeqAt.notIn_tuple_reads r2 r1 (SeqAt.canLay_of_shaped se) (SeqAt.canLay_of_shaped sd) (room_tin sd hu) ⟨.bl _, H, I, rfl, q⟩
def fIn (neg : Bool) : F2 := fun d e Q => match e with
  | .tup es => (d.dat = true ∧ D.dats es = true ∧ SeqAt.shaped d.py = true ∧ SeqAt.shaped (.tuple (D.pys es)) = true) ∧ Q (.bl (if neg then !((D.pys es).any fun z => PyData.eqv z d.py) else (D.pys es).any fun z => PyData.eqv z d.py))
  | _ => False
theorem ref_in {K : PySem.W.Frag} {neg : Bool} : Ref2 K (rTIn K neg) (fIn neg) := by
  intro A σ H G s x y d e Q P R hx hy h k
  cases e with
  | tup es =>
    obtain ⟨⟨h1, h2, h3, h4⟩, h5⟩ := h
    exact ⟨d.py, D.pys es, Dx.dp R.an.e _ _ h1 hx, Dx.dp R.an.e (.tup es) _ h2 hy, h3, h4, k _ _ G _ R (Ex.refl _) (.bl _) h5⟩
  | _ => exact (show False from h).elim
/-- is not True -/
def fIsB (neg : Bool) : F2 := fun d e Q => match d, e with
  | .bl a, .bl b => Q (.bl (if neg then !decide (a = b) else decide (a = b)))
  | _, _ => False
theorem ref_notBl {K : PySem.W.Frag} : Ref2 K rNotB (fIsB true) := by
  intro A σ H G s x y d e Q P R hx hy h k
  cases d with
  | bl a =>
    cases e with
    | bl b => cases hx; cases hy; exact ⟨a, b, rfl, rfl, k _ _ G _ R (Ex.refl _) (.bl _) h⟩
    | _ => exact (show False from h).elim
  | _ => exact (show False from h).elim
/-! ### chains -/
/-- what is left of a chain of comparisons, behind a value -/
structure PTC (X : Cx) (ops : List CmpOp) (es : List Expr) (t : V → TT) : Prop where
  run : ∀ (pos : Pos) (pins : List (Addr × Obj)) (s : Shared) (σ : L2.St) (H : Hp) (x : V) (v : Value) (Q : Bool → Hp → Prop), Inv X pins σ H s → RelV x v → t x σ H Q →
    wpAny (model X.prog X.w) X.A (testChain pos v ops (evalEach es X.env)) (TP X pins σ Q) X.xe s
def tcLast (r : R2) (tb : TE) : V → TT := fun x σ H Q => tb σ H fun y H1 => r x y H1 fun z H2 => ∃ k, z = .bl k ∧ Q k H2
def tcCons (r : R2) (tb : TE) (tn : V → TT) : V → TT := fun x σ H Q => tb σ H fun y H1 => r x y H1 fun z H2 => ∃ k, z = .bl k ∧ if k = true then tn y σ H2 Q else Q false H2
def tChainN (ta : TE) (tn : V → TT) : TT := fun σ H Q => ta σ H fun x H1 => tn x σ H1 Q
section
variable {X : Cx} {a b c : Expr} {ta tb : TE} {tn : V → TT} {op op' : CmpOp} {ops : List CmpOp} {es : List Expr} {r : R2} {pos : Pos}
open PyProof.Rows in
theorem ptc_last (ho : OpR X (compareOp op) r) (hb : PE X b tb) : PTC X [op] [b] (tcLast r tb) := by
  refine ⟨fun pos pins s σ H x v Q I rx h => ?_⟩
  refine test_last (thn (hb.run pins s σ H _ I h) fun u s1 ⟨y, H1, I1, r1, q1⟩ => thn (ho pins s1 σ H1 x y v u _ I1 rx r1 q1) fun d s2 ⟨z, H2, I2, r2, k, e, q2⟩ => ?_)
  subst e
  cases r2
  exact wpAny_truthy_bool ⟨H2, I2, q2⟩
open PyProof.Rows in
theorem ptc_cons (ho : OpR X (compareOp op) r) (hb : PE X b tb) (hn : PTC X (op' :: ops) (c :: es) tn) : PTC X (op :: op' :: ops) (b :: c :: es) (tcCons r tb tn) := by
  refine ⟨fun pos pins s σ H x v Q I rx h => ?_⟩
  refine test_link (thn (hb.run pins s σ H _ I h) fun u s1 ⟨y, H1, I1, r1, q1⟩ => thn (ho pins s1 σ H1 x y v u _ I1 rx r1 q1) fun d s2 ⟨z, H2, I2, r2, k, e, q2⟩ => ?_)
  subst e
  cases r2
  refine wpAny_truthy_bool ?_
  cases k with
  | false => exact ite_ff ⟨H2, I2, q2⟩
  | true => exact ite_tt (hn.run pos pins s2 σ H2 y u Q I2 r1 q2)
open PyProof.Rows in
theorem pt_chainN (ha : PE X a ta) (hn : PTC X (op :: op' :: ops) (b :: c :: es) tn) (hm : lastMarks (op :: op' :: ops) (b :: c :: es) = false := by with_unfolding_all rfl) : PT X (.Compare a (op :: op' :: ops) (b :: c :: es) pos) (tChainN ta tn) := by
  refine ⟨fun pins s σ H Q I h => ?_⟩
  exact isTrue_chain (thn (ha.run pins s σ H _ I h) fun v s1 ⟨x, H1, I1, r1, q1⟩ => hn.run pos pins s1 σ H1 x v Q I1 r1 q1) hm
end
def SimC (K : PySem.W.Frag) (E : XK) (t : V → TT) (w : D → WT) : Prop := ∀ (A : An) (Qe : WQ), Wish K A E Qe → ∀ (σ : L2.St) (H G : Hp) (s : S) (x : V) (d : D) (Q : Bool → S → Prop) (P : Bool → Hp → Prop), Rel K A σ H G s → Dx K A.pen G x d → w d Qe s Q →
  (∀ b H' G' s', Rel K A σ H' G' s' → Ex G G' → Q b s' → P b H') → t x σ H P
structure DC (X : Cx) (E : XK) (ops : List CmpOp) (es : List Expr) (w : D → WT) : Prop where
  ex : ∃ t, PTC X ops es t ∧ SimC X.K E t w
def wcLast (f : F2) (wb : WE) : D → WT := fun d Qe s Q => wb Qe s fun e s1 => f d e fun z => match z with
  | .bl b => Q b s1
  | _ => False
def wcCons (f : F2) (wb : WE) (wn : D → WT) : D → WT := fun d Qe s Q => wb Qe s fun e s1 => f d e fun z => match z with
  | .bl b => if b = true then wn e Qe s1 Q else Q false s1
  | _ => False
def wChainN (wa : WE) (wn : D → WT) : WT := fun Qe s Q => wa Qe s fun d s1 => wn d Qe s1 Q
section
variable {X : Cx} {E : XK} {a b c : Expr} {wa wb : WE} {wn : D → WT} {op op' : CmpOp} {ops : List CmpOp} {es : List Expr} {r : R2} {f : F2} {pos : Pos}
theorem dc_last (ho : OpR X (compareOp op) r) (hf : Ref2 X.K r f) (hb : DE X E b wb) : DC X E [op] [b] (wcLast f wb) := by
  obtain ⟨tb, h1, h2⟩ := hb.ex
  refine ⟨_, ptc_last ho h1, fun A Qe W σ H G s x d Q P R dx q k => h2 A Qe W σ H G s _ _ R q fun y H1 G1 e s1 R1 g1 d1 q1 => hf A σ H1 G1 s1 x y d e _ _ R1 (dx.up g1) d1 q1 fun v H2 G2 z R2 g2 d2 q2 => ?_⟩
  cases z with
  | bl b => cases d2; exact ⟨b, rfl, k _ _ _ _ R2 (g1.trans g2) q2⟩
  | _ => exact (show False from q2).elim
theorem dc_cons (ho : OpR X (compareOp op) r) (hf : Ref2 X.K r f) (hb : DE X E b wb) (hn : DC X E (op' :: ops) (c :: es) wn) : DC X E (op :: op' :: ops) (b :: c :: es) (wcCons f wb wn) := by
  obtain ⟨tb, h1, h2⟩ := hb.ex
  obtain ⟨tn, h3, h4⟩ := hn.ex
  refine ⟨_, ptc_cons ho h1 h3, fun A Qe W σ H G s x d Q P R dx q k => h2 A Qe W σ H G s _ _ R q fun y H1 G1 e s1 R1 g1 d1 q1 => hf A σ H1 G1 s1 x y d e _ _ R1 (dx.up g1) d1 q1 fun v H2 G2 z R2 g2 d2 q2 => ?_⟩
  cases z with
  | bl b =>
    cases d2
    refine ⟨b, rfl, ?_⟩
    cases b with
    | true => exact h4 A Qe W σ H2 G2 s1 y e Q P R2 (d1.up g2) q2 fun b H3 G3 s3 R3 g3 q3 => k _ _ _ _ R3 (g1.trans (g2.trans g3)) q3
    | false => exact k _ _ _ _ R2 (g1.trans g2) q2
  | _ => exact (show False from q2).elim
theorem dt_chainN (ha : DE X E a wa) (hn : DC X E (op :: op' :: ops) (b :: c :: es) wn) (hm : lastMarks (op :: op' :: ops) (b :: c :: es) = false := by with_unfolding_all rfl) : DT X E (.Compare a (op :: op' :: ops) (b :: c :: es) pos) (wChainN wa wn) := by
  obtain ⟨ta, h1, h2⟩ := ha.ex
  obtain ⟨tn, h3, h4⟩ := hn.ex
  exact ⟨_, pt_chainN h1 h3 hm, fun A Qe W σ H G s Q P R q k => h2 A Qe W σ H G s _ _ R q fun v H1 G1 d s1 R1 g1 d1 q1 => h4 A Qe W σ H1 G1 s1 v d Q P R1 d1 q1 fun b H2 G2 s2 R2 g2 q2 => k _ _ _ _ R2 (g1.trans g2) q2⟩
end
end DL
set_option Elab.async false
set_option linter.all false
set_option maxRecDepth 100000
set_option maxHeartbeats 4000000
/-! own: enumerate and sum over a tuple -/
namespace EnT
open PySem PySem.Spec PyProof.Rows L2
open AutoSeq1 (wpAny_loadPart')
theorem new_enum (t : Addr) (xs : Array Value) (m : Nat) (dd : Option Addr) (sl : Array (Option Value)) :
    Meets (Builtin.«enumerate.__new__» ⟨[.type "enumerate", .ref t], []⟩) fun _ R s => s.heap.get? t = some ⟨.type "tuple", dd, .seq xs m, sl⟩ ∧
      R (.ok (.ret (.ref (s.heap.push ⟨.type "tuple_iterator", none, .fields #[.ref t, .int 0 0], #[]⟩).objs.size)))
        { s with heap := (s.heap.push ⟨.type "tuple_iterator", none, .fields #[.ref t, .int 0 0], #[]⟩).push ⟨.type "enumerate", none, .fields #[.none, .bool false, .ref s.heap.objs.size, rawInt 0, .none, .none], #[]⟩ } :=
  .of_wp fun prog w A R s h => by
    obtain ⟨hp, g, d, tk, os⟩ := s
    obtain ⟨hl, h⟩ := h
    have sub := sub_enumerate
    have isT : Heap.IsTuple (Shared.heap ⟨hp, g, d, tk, os⟩) t xs := ⟨_, hl, rfl, m, rfl⟩
    wp_walk using wpAny_loadPart' hl
    refine wpAny_stack_any fun st => wpAny_pure ?_
    split
    · rename_i c _ _ _ _ _
      cases (c == Value.type "enumerate") <;> (wp_walk using wpAny_loadPart' hl, wpAny_pyIter_tuple isT; exact ⟨_, rfl, h⟩)
    · wp_walk using wpAny_loadPart' hl, wpAny_pyIter_tuple isT
      exact ⟨_, rfl, h⟩
section
variable {prog : Program} {w : World} {A : Around} {E : Value → Shared → Prop} {s : Shared}
theorem call_enum {t : Addr} {xs : Array Value} {Q : Value → Shared → Prop} (hT : s.heap.IsTuple t xs)
    (h : ∀ h', IsEnum h' (s.heap.objs.size + 1) s.heap.objs.size 0 .none → h'.IsTupleIter s.heap.objs.size t 0 → h'.objs.size = s.heap.objs.size + 2 → (∀ b o, s.heap.get? b = some o → h'.get? b = some o) → Q (.ref (s.heap.objs.size + 1)) { s with heap := h' }) :
    wpAny (model prog w) A (call (.type "enumerate") [.ref t]) Q E s := by
  obtain ⟨⟨c, dd, data, sl⟩, ho, hc, m, hd⟩ := hT
  have hc : c = .type "tuple" := hc
  have hd : data = .seq xs m := hd
  subst hc
  subst hd
  refine callType_new F.called_enumerate (by decide) (F.typeCall_enumerate_1 _) (F.newCall_enumerate_1 _) (fun obj => F.args_object_init_2 obj _) F.entry_enumerate_new (new_enum t xs m dd sl) ⟨ho, ?_⟩
  have z1 : (s.heap.push ⟨.type "tuple_iterator", none, .fields #[.ref t, .int 0 0], #[]⟩).objs.size = s.heap.objs.size + 1 := Heap.size_push ..
  show _ ∧ _
  rw [z1]
  have he : IsEnum ((s.heap.push ⟨.type "tuple_iterator", none, .fields #[.ref t, .int 0 0], #[]⟩).push ⟨.type "enumerate", none, .fields #[.none, .bool false, .ref s.heap.objs.size, rawInt 0, .none, .none], #[]⟩) (s.heap.objs.size + 1) s.heap.objs.size 0 .none := by
    have q := Heap.get?_push_size (s.heap.push ⟨.type "tuple_iterator", none, .fields #[.ref t, .int 0 0], #[]⟩) (o := ⟨.type "enumerate", none, .fields #[.none, .bool false, .ref s.heap.objs.size, rawInt 0, .none, .none], #[]⟩) rfl
    rw [z1] at q
    exact q
  exact ⟨⟨_, he, rfl⟩, h _ he ⟨_, Heap.get?_push_of_some _ (Heap.get?_push_size _ rfl), rfl, rfl⟩ (by rw [Heap.size_push, z1]) fun b o x => Heap.get?_push_of_some _ (Heap.get?_push_of_some _ x)⟩
end
theorem enum_end {prog : Program} {w : World} {A : Around} {E : Value → Shared → Prop} {s : Shared} {e it t : Addr} {j : Nat} {i : Int} {old : Value} {xs : Array Value} {Q : Option Value → Shared → Prop} (nh : A.in1.handled = none) (en : IsEnum s.heap e it i old) (hi : s.heap.IsTupleIter it t j) (isT : s.heap.IsTuple t xs) (no : xs[j]? = none)
    (k : ∀ h', Heap.ExtBut it s.heap h' → Q none { s with heap := h' }) : wpAny (model prog w) A (pyNext (.ref e)) Q E s := by
  have ty : s.TypeIs (.ref e) "enumerate" := ⟨_, en, rfl⟩
  unfold pyNext
  refine wpAny_bind (wpAny_attempt (wpAny_callSpecial?_slot (name := Str.ofString "__next__") ty F.slot_enumerate_next (wpAny_call_entry F.slot_enumerate_next ty F.entry_enumerate_next ?_ (F.args_enumerate_next_1 _))))
  show wpAny _ _ (field (.ref e) 2 >>= _) _ _ s
  refine wpAny_bind (wpAny_field en rfl (x := .ref it) rfl (wpAny_bind (wpAny_nextOf_tuple_end nh hi isT no fun h' x ex hx => ?_)))
  obtain ⟨o, ho, hc⟩ := hx
  exact wpAny_bind (wpAny_isInstance (T := "StopIteration") (b := true) ⟨o, ho, hc⟩ isSubtype_stop (wpAny_pure (k _ ex)))
/-- the tuple at a, each item with its number in a new pair -/
def IteT (K : PySem.W.Frag) (a : Addr) : It :=
  ⟨fun i H => ∃ (xs : List V) (x : V), SqT K H a xs ∧ xs[i]? = some x, fun i H v H' => ∃ T x, v = .ref T ∧ H T = none ∧ H' = upd H T (.tup [.int (i : Nat), x]) ∧ ∀ xs, SqT K H a xs → xs[i]? = some x, fun i H => ∃ xs : List V, SqT K H a xs ∧ xs.length ≤ i⟩
theorem tup_same {X : Cx} {pins : List (Addr × Obj)} {σ : L2.St} {H : Hp} {s : Shared} (I : Inv X pins σ H s) {a : Addr} {xs ys : List V} (h : SqT X.K H a xs) (h2 : SqT X.K H a ys) : xs = ys := by
  obtain ⟨i1, r1, ⟨o1, g1, c1, n1, d1⟩, _⟩ := I.tuple h
  obtain ⟨i2, r2, ⟨o2, g2, c2, n2, d2⟩, _⟩ := I.tuple h2
  rw [g1] at g2
  cases g2
  rw [d1] at d2
  injection d2 with e1
  have e1 : i1 = i2 := by simpa using congrArg Array.toList e1
  subst e1
  exact r1.inj r2
theorem turn_enumT {P : Program} {w : World} {K : PySem.W.Frag} {elts : List Expr} {kk : Nat} {tpos : Pos} (a e it : Addr) :
    Turn P w K (.Tuple elts kk tpos) (IteT K a) [e, it] e (fun i h => (∃ old, IsEnum h e it ((i : Nat) : Int) old) ∧ h.IsTupleIter it a i ∧ e ≠ it ∧ a ≠ it ∧ a ≠ e) where
  mem := by simp
  obj := fun i h st b hb => by
    obtain ⟨⟨old, he⟩, ⟨o, ho, _, hd⟩, _⟩ := st
    rcases (by simpa using hb : b = e ∨ b = it) with z | z
    · rw [z]; exact ⟨_, he, fun v q => nomatch q⟩
    · rw [z]; exact ⟨o, ho, fun v q => by rw [hd] at q; cases q⟩
  keep := fun i h h' st k => by
    obtain ⟨⟨old, he⟩, hi, r⟩ := st
    exact ⟨⟨old, k e (by simp) _ he⟩, hi.at fun o q => k it (by simp) o q, r⟩
  item := by
    intro X hP hw hK hc i pins s σ H E I hf st hg
    subst hP hw hK
    obtain ⟨⟨old, he⟩, hit, n1, n2, n3⟩ := st
    obtain ⟨xs, x, hq, hx⟩ := hg
    obtain ⟨its, rv, isT, _⟩ := I.tuple hq
    obtain ⟨u, hu, ru⟩ := rv.get hx
    have hel : e < s.heap.objs.size := Heap.lt_size he
    have hil : it < s.heap.objs.size := by
      obtain ⟨_, q, _⟩ := hit
      exact Heap.lt_size q
    have hlt : i < its.toArray.size := by
      rw [List.size_toArray]
      exact (List.getElem?_eq_some_iff.mp hu).1
    have hnh : X.A.in1.handled = none := I.ok.hd hc
    refine wpAny_pyNext_enum_itemD (Draws.tuple hnh it a n2 its.toArray) he ⟨hit, isT⟩ hlt n1 (by simp; exact ⟨n1, Ne.symm n3⟩) fun y h' tk hy ho hs2 hT hz hk => ?_
    obtain rfl : y = u := by
      have : its.toArray[i]? = some u := by simpa using hu
      rw [this] at hy
      exact (Option.some.inj hy).symm
    refine ⟨_, rfl, wpAny_letOwnedTupleGo_enum (s := { s with heap := h', toks := tk + 1 }) ho fun h2 he2 sb => ?_⟩
    have hT2 : h2.get? s.heap.objs.size = some ⟨.type "tuple", none, .seq #[.int i tk, y], #[]⟩ := (sb.2 _ (Nat.ne_of_gt hel)).trans hT
    have new : ObjOk X.prog X.w (upd H s.heap.objs.size (.tup [.int (i : Nat), x])) h2 s.heap.objs.size (.tup [.int (i : Nat), x]) := ⟨by show 2 ≤ sizeLine; decide, [.int i tk, y], .cons ⟨_, rfl⟩ (.cons ru .nil), ⟨_, hT2, rfl, _, rfl⟩⟩
    have I1 : Inv X pins σ (upd H s.heap.objs.size (.tup [.int (i : Nat), x])) { s with heap := h2, toks := tk + 1 } :=
      I.turnedNew (ch := [e, it]) (fun b ob hb q => (sb.2 b fun z => hb (by simp [z])).trans (hk b ob (fun z => hb (by simp [z])) (fun z => hb (by simp [z])) q)) hf (Nat.le_refl _) new
    refine ⟨.ref s.heap.objs.size, _, I1, rfl, ⟨_, x, rfl, I.hok.fresh (Nat.le_refl _), rfl, fun ys hy => by rw [tup_same I hy hq]; exact hx⟩, ⟨⟨y, ?_⟩, hs2.1.at fun o q => (sb.2 it (Ne.symm n1)).trans q, n1, n2, n3⟩, fun b hb => ?_⟩
    · rw [show ((i + 1 : Nat) : Int) = (i : Int) + 1 by omega]
      exact he2
    · have hb' : b < s.heap.objs.size := by
        rcases (by simpa using hb : b = e ∨ b = it) with z | z
        · rw [z]; exact hel
        · rw [z]; exact hil
      rw [upd_ne (Nat.ne_of_lt hb')]
      exact (hf b hb).1
  done := by
    intro X hP hw hK hc i pins s σ H E I hf st hg
    subst hP hw hK
    obtain ⟨⟨old, he⟩, hit, n1, n2, n3⟩ := st
    obtain ⟨xs, hq, hx⟩ := hg
    obtain ⟨its, rv, isT, _⟩ := I.tuple hq
    obtain ⟨f0, f1, f2, f3, f4, f5⟩ := hf it (by simp)
    have hl := rv.length
    exact enum_end (I.ok.hd hc) he hit isT (by simp; omega) fun h' eb => ⟨rfl, I.turned (t' := s.toks) (fun b o hb q => eb b o hb q) f0 f1 f3 f4 f5⟩
  self := fun A i s Q E st h => let ⟨⟨_, he⟩, _⟩ := st; wpAny_pyIter_enum he h
theorem pi_enumT {X : Cx} {pins : List (Addr × Obj)} {σ : L2.St} {H1 : Hp} {R : It → Hp → Prop} {s1 : Shared} {elts : List Expr} {kk : Nat} {tpos : Pos} {a : Addr} {xs : List V} (I1 : Inv X pins σ H1 s1) (hq : SqT X.K H1 a xs) (q : R (IteT X.K a) H1) {E : Value → Shared → Prop} :
    wpAny (model X.prog X.w) X.A (call (.type "enumerate") [.ref a]) (fun v s2 => wpAny (model X.prog X.w) X.A (pyIter v) (PIE X pins σ (.Tuple elts kk tpos) R) E s2) E s1 := by
  obtain ⟨its, rv, isT, hz⟩ := I1.tuple hq
  have la : a < s1.heap.objs.size := by
    obtain ⟨_, e, _⟩ := isT
    exact Heap.lt_size e
  refine call_enum isT fun h' he hit hsz hk => wpAny_pyIter_enum he ?_
  refine ⟨s1.heap.objs.size + 1, [s1.heap.objs.size + 1, s1.heap.objs.size], _, _, H1, rfl, I1.kept (t' := s1.toks) hk, turn_enumT a (s1.heap.objs.size + 1) s1.heap.objs.size, ⟨⟨.none, he⟩, hit, Nat.succ_ne_self _, Nat.ne_of_lt la, Nat.ne_of_lt (Nat.lt_succ_of_lt la)⟩, fun b hb => ?_, q⟩
  have hle : s1.heap.objs.size ≤ b := by
    rcases (by simpa using hb : b = s1.heap.objs.size + 1 ∨ b = s1.heap.objs.size) with z | z
    · rw [z]; exact Nat.le_succ _
    · rw [z]; exact Nat.le_refl _
  exact I1.fpOk hle (I1.hok.fresh hle)
/-! ### sum of a tuple -/
theorem sum_tup {prog : Program} {w : World} {A : Around} {E : Value → Shared → Prop} {s : Shared} {t : Addr} {its : List Value} {ns : List Int} {Q : Value → Shared → Prop} (nh : A.handled = none) (hT : s.heap.IsTuple t its.toArray) (hi : IntsAre its ns)
    (k : ∀ h' tk t', (∀ b o, s.heap.get? b = some o → h'.get? b = some o) → Q (.int ns.sum t') { s with heap := h', toks := tk }) : wpAny (model prog w) A (call (.builtin "sum") [.ref t]) Q E s := by
  obtain ⟨xs, e⟩ := hi.allInts.items
  have hn : numsOf (intItems xs).toList = ns := by
    rw [← e]
    exact hi.numsOf
  rw [nums_intItems] at hn
  rw [e] at hT
  have lt : t < s.heap.objs.size := by
    obtain ⟨_, q, _⟩ := hT
    exact Heap.lt_size q
  refine call_sum_walkG (wpAny_pyIter_tuple hT ?_)
  refine ⟨s.heap.objs.size, _, _, _, _, _, numAt xs, rfl, Walks.tuple (A := A.in1) nh _ t (Nat.ne_of_lt lt) (intItems xs), ⟨⟨_, Heap.get?_push_size _ rfl, rfl, rfl⟩, hT.push _⟩, fun b hb => ?_, (fun _ _ => intItems_at), fun h' tk t' hk => ?_⟩
  · show b < (s.heap.push _).objs.size
    rw [Heap.size_push]
    rcases (by simpa using hb : b = s.heap.objs.size ∨ b = t) with z | z
    · rw [z]; exact Nat.lt_succ_self _
    · rw [z]; exact Nat.lt_succ_of_lt lt
  · have hk2 : ∀ b o, s.heap.get? b = some o → h'.get? b = some o := fun b o q => hk b o (fun z => by
      have z : b = s.heap.objs.size := by simpa using z
      rw [z] at q
      exact absurd (Heap.lt_size q) (Nat.lt_irrefl _)) (Heap.get?_push_of_some _ q)
    have := k h' tk t' hk2
    rw [show (intItems xs).size = xs.size by simp [intItems], preSum_eq, List.take_of_length_le (by simp), hn]
    exact this
def rSumT (K : PySem.W.Frag) : List V → Hp → VK → Prop := fun vs H Q => ∃ (a : Addr) (ns : List Int), vs = [V.ref a] ∧ SqT K H a (ns.map V.int) ∧ Q (.int ns.sum) H
theorem cr_sumT {X : Cx} (hc : X.calm = true) : CallR X (.builtin "sum") (rSumT X.K) := by
  intro pins s σ H vs us Q I r h
  obtain ⟨a, ns, rfl, hs, q⟩ := h
  obtain ⟨its, rv, hl, _⟩ := I.tuple hs
  rw [Vals.ref1 r]
  exact sum_tup (I.ok.hd hc) hl rv.ints fun h' tk t' hk => ⟨.int _, H, I.kept hk, ⟨_, rfl⟩, q⟩
def rSumU (K : PySem.W.Frag) : List V → Hp → VK → Prop := fun vs H Q => rSum K vs H Q ∨ rSumT K vs H Q
theorem cr_sumU {X : Cx} (hc : X.calm = true) : CallR X (.builtin "sum") (rSumU X.K) := by
  intro pins s σ H vs us Q I r h
  rcases h with h | h
  · exact cr_sum hc pins s σ H vs us Q I r h
  · exact cr_sumT hc pins s σ H vs us Q I r h
end EnT
set_option Elab.async false
set_option linter.all false
set_option maxRecDepth 100000
set_option maxHeartbeats 4000000
namespace DL
open PySem L2 Evl
/-! ### places -/
def fIx : F2 := fun d e Q => match d, e with
  | .lst ds, .int i => ∃ z, atI ds i = some z ∧ Q z
  | .tup ds, .int i => ∃ z, atI ds i = some z ∧ Q z
  | _, _ => False
theorem DxAll.at {K : PySem.W.Frag} {pen : Addr} {G : Hp} {xs : List V} {ds : List D} {i : Int} {z : D} (h : DxAll K pen G xs ds) (e : atI ds i = some z) : ∃ v, atI xs i = some v ∧ Dx K pen G v z := by
  unfold atI at *
  rw [h.length]
  cases hi : ixN ds.length i with
  | none => rw [hi] at e; cases e
  | some j =>
    rw [hi] at e
    obtain ⟨v, h1, h2⟩ := h.get (show ds[j]? = some z from e)
    exact ⟨v, h1, h2⟩
theorem ref_ix {K : PySem.W.Frag} : Ref2 K (rIx K) fIx := by
  intro A σ H G s x y d e Q P R hx hy h k
  cases d with
  | lst ds =>
    cases e with
    | int i =>
      obtain ⟨z, hz, q⟩ := h
      cases hy
      cases hx with
      | lst hx hxa =>
        obtain ⟨v, h1, h2⟩ := hxa.at hz
        exact .inl ⟨_, _, i, v, rfl, rfl, sq_of (R.an.e _ _ hx), h1, k _ _ G _ R (Ex.refl _) h2 q⟩
    | _ => exact (show False from h).elim
  | tup ds =>
    cases e with
    | int i =>
      obtain ⟨z, hz, q⟩ := h
      cases hy
      cases hx with
      | tup hx hxa =>
        obtain ⟨v, h1, h2⟩ := hxa.at hz
        exact .inr (.inl ⟨_, _, i, v, rfl, rfl, ex_t R.an.e hx, h1, k _ _ G _ R (Ex.refl _) h2 q⟩)
    | _ => exact (show False from h).elim
  | _ => exact (show False from h).elim
section
variable {X : Cx} {E : XK} {a b : Expr} {wa wb : WE} {pos : Pos}
theorem de_ix (ha : DE X E a wa) (hb : DE X E b wb) (hs : PlainIx b := by exact fun _ _ => rfl) : DE X E (.Subscript a b pos) (wOp fIx wa wb) := by
  obtain ⟨ta, h1, h2⟩ := ha.ex
  obtain ⟨tb, h3, h4⟩ := hb.ex
  exact ⟨_, pe_ix ix_seq h1 h3 hs, simE_op ref_ix h2 h4⟩
end
/-! ### slices -/
def cutD (ds : List D) (lo hi : Option Int) : List D := (ds.drop (HT.sIx ds.length 0 lo)).take (HT.sIx ds.length ds.length hi - HT.sIx ds.length 0 lo)
theorem DxAll.cut {K : PySem.W.Frag} {pen : Addr} {G : Hp} {xs : List V} {ds : List D} (h : DxAll K pen G xs ds) (lo hi : Option Int) : DxAll K pen G (cutV xs lo hi) (cutD ds lo hi) := by
  unfold cutV cutD
  rw [h.length]
  exact (h.drop _).take _
def wNoPart : WO := fun _ s Q => Q none s
def wPart (w : WE) : WO := fun Qe s Q => w Qe s fun d s1 => match d with
  | .int i => Q (some i) s1
  | _ => False
def wSl (wa : WE) (wl wh : WO) : WE := fun Qe s Q => wa Qe s fun d s1 => wl Qe s1 fun lo s2 => wh Qe s2 fun hi s3 => match d with
  | .lst ds => Q (.lst (cutD ds lo hi)) s3
  | .tup ds => Q (.tup (cutD ds lo hi)) s3
  | _ => False
section
variable {X : Cx} {E : XK} {a b : Expr} {lo hi : Option Expr} {wa wb : WE} {wl wh : WO} {pos p2 : Pos}
theorem do_none : DO X E none wNoPart := ⟨_, po_none, fun A Qe W σ H G s Q P R q k => k _ _ G s R (Ex.refl _) q⟩
theorem do_some (h : DE X E a wa) : DO X E (some a) (wPart wa) := by
  obtain ⟨t, h1, h2⟩ := h.ex
  refine ⟨_, po_some h1, fun A Qe W σ H G s Q P R q k => h2 A Qe W σ H G s _ _ R q fun v H1 G1 d s1 R1 g1 d1 q1 => ?_⟩
  cases d with
  | int i => cases d1; exact ⟨i, rfl, k _ _ _ _ R1 g1 q1⟩
  | _ => exact (show False from q1).elim
def rSlU (K : PySem.W.Frag) : V → Option Int → Option Int → Hp → VK → Prop := fun x lo hi H Q => rSlL K x lo hi H Q ∨ rSlA K x lo hi H Q
theorem sl_U : SlR X (rSlU X.K) := SlR.or sl_list sl_tupA
theorem cut_whole {xs : List V} {lo hi : Option Int} (h : HT.sIx xs.length 0 lo = 0 ∧ HT.sIx xs.length xs.length hi = xs.length) : cutV xs lo hi = xs := by
  unfold cutV
  rw [h.1, h.2, List.drop_zero, Nat.sub_zero, List.take_length]
theorem de_sl (ha : DE X E a wa) (hl : DO X E lo wl) (hh : DO X E hi wh) : DE X E (.Subscript a (.Slice lo hi none p2) pos) (wSl wa wl wh) := by
  obtain ⟨ta, h1, h2⟩ := ha.ex
  obtain ⟨tl, h3, h4⟩ := hl.ex
  obtain ⟨th, h5, h6⟩ := hh.ex
  refine ⟨_, pe_slice sl_U h1 h3 h5, fun A Qe W σ H G s Q P R q k => h2 A Qe W σ H G s _ _ R q fun x H1 G1 d s1 R1 g1 d1 q1 => h4 A Qe W σ H1 G1 s1 _ _ R1 q1 fun l H2 G2 s2 R2 g2 q2 => h6 A Qe W σ H2 G2 s2 _ _ R2 q2 fun u H3 G3 s3 R3 g3 q3 => ?_⟩
  have d3 := d1.up (g2.trans g3)
  have gg := g1.trans (g2.trans g3)
  cases d with
  | lst ds =>
    cases d3 with
    | lst hx hxa => exact .inl ⟨_, _, rfl, sq_of (R3.an.e _ _ hx), fun p hp => k _ _ _ _ _ (R3.new hp) (gg.trans (R3.gnew hp)) (.lst upd_same ((hxa.cut l u).up (R3.gnew hp))) q3⟩
  | tup ds =>
    cases d3 with
    | tup hx hxa =>
      refine .inr ⟨_, _, rfl, ex_t R3.an.e hx, fun hw => ?_, fun hw p hp => k _ _ _ _ _ (R3.new hp) (gg.trans (R3.gnew hp)) (.tup (st_of upd_same) ((hxa.cut l u).up (R3.gnew hp))) q3⟩
      refine k _ _ _ _ _ R3 gg (.tup hx ?_) q3
      have q := hxa.cut l u
      rw [cut_whole hw] at q
      exact q
  | _ => exact (show False from q3).elim
end
/-! ### calls of what is built in, by data -/
abbrev FC := List D → (D → Prop) → Prop
def RefC (K : PySem.W.Frag) (r : List V → Hp → VK → Prop) (g : FC) : Prop := ∀ (A : An) (σ : L2.St) (H G : Hp) (s : S) (xs : List V) (ds : List D) (Q : D → Prop) (P : VK), Rel K A σ H G s → DxAll K A.pen G xs ds → g ds Q →
  (∀ v H' G' z, Rel K A σ H' G' s → Ex G G' → Dx K A.pen G' v z → Q z → P v H') → r xs H P
def wCB (g : FC) (wr : WA) : WE := fun Qe s Q => wr Qe s fun ds s1 => g ds fun z => Q z s1
section
variable {X : Cx} {E : XK} {e a b : Expr} {es : List Expr} {wa wb : WE} {wr : WA} {pos p : Pos} {x : Str} {id T : String} {r : List V → Hp → VK → Prop} {g : FC} {K : PySem.W.Frag} {t : TA}
theorem simE_cb (hg : RefC K r g) (h : SimA K E t wr) : SimE K E (tCB r t) (wCB g wr) := fun A Qe W σ H G s Q P R q k =>
  h A Qe W σ H G s _ _ R q fun vs H1 G1 ds s1 R1 g1 d1 q1 => hg A σ H1 G1 s1 vs ds _ _ R1 d1 q1 fun v H2 G2 z R2 g2 d2 q2 => k _ _ _ _ _ R2 (g1.trans g2) d2 q2
theorem de_callB (hc : CallR X (.builtin id) r) (hr : RefC X.K r g) (hg : Gl X x) (hm : X.mg x = none) (hv : bootBuiltins x = some (.builtin id)) (ha : DA X E (e :: es) wr) (hn : x ≠ "__name__" := by decide) (hdb : (x == ("__debug__" : Str)) = false := by decide)
    (he : starEach (e :: es) X.env = (false, eval e X.env) :: starEach es X.env := by rfl) (hpl : (backTo pos (starEach es X.env)).any (·.1) = false := by rfl) : DE X E (.Call (.Name x p) (e :: es) [] pos) (wCB g wr) := by
  obtain ⟨t, h1, h2⟩ := ha.ex
  exact ⟨_, pe_callB hc hg hm hv h1 hn hdb he hpl, simE_cb hr h2⟩
theorem de_callTy (hc : CallR X (.type T) r) (hr : RefC X.K r g) (hg : Gl X x) (hm : X.mg x = none) (hv : bootBuiltins x = some (.type T)) (ha : DA X E (e :: es) wr) (hn : x ≠ "__name__" := by decide) (hdb : (x == ("__debug__" : Str)) = false := by decide)
    (he : starEach (e :: es) X.env = (false, eval e X.env) :: starEach es X.env := by rfl) (hpl : (backTo pos (starEach es X.env)).any (·.1) = false := by rfl) : DE X E (.Call (.Name x p) (e :: es) [] pos) (wCB g wr) := by
  obtain ⟨t, h1, h2⟩ := ha.ex
  exact ⟨_, pe_callTy hc hg hm hv h1 hn hdb he hpl, simE_cb hr h2⟩
end
def gLen : FC := fun ds Q => match ds with
  | [.lst l] => Q (.int (l.length : Nat))
  | [.tup l] => Q (.int (l.length : Nat))
  | [.str x] => x.length ≤ 100000 ∧ Q (.int (x.length : Nat))
  | _ => False
def rLenD (K : PySem.W.Frag) : List V → Hp → VK → Prop := fun xs H Q => ∃ x n, xs = [x] ∧ LenV K x H n ∧ Q (.int n) H
theorem refc_len {K : PySem.W.Frag} : RefC K (rLenD K) gLen := by
  intro A σ H G s xs ds Q P R hd h k
  unfold gLen at h
  split at h
  · cases hd with
    | cons h1 h2 =>
      cases h2
      cases h1 with
      | lst hx hxa =>
        rw [← hxa.length] at h
        exact ⟨_, _, rfl, .inl ⟨_, sq_of (R.an.e _ _ hx), rfl⟩, k _ _ _ _ R (Ex.refl _) (.int _) h⟩
  · cases hd with
    | cons h1 h2 =>
      cases h2
      cases h1 with
      | tup hx hxa =>
        rw [← hxa.length] at h
        exact ⟨_, _, rfl, .inr ⟨_, ex_t R.an.e hx, rfl⟩, k _ _ _ _ R (Ex.refl _) (.int _) h⟩
  · cases hd with
    | cons h1 h2 =>
      cases h2
      cases h1
      exact ⟨_, _, rfl, ⟨sz_of h.1, rfl⟩, k _ _ _ _ R (Ex.refl _) (.int _) h.2⟩
  · exact h.elim
def gSum : FC := fun ds Q => match ds with
  | [.lst l] => ∃ ns : List Int, l = ns.map D.int ∧ Q (.int ns.sum)
  | [.tup l] => ∃ ns : List Int, l = ns.map D.int ∧ Q (.int ns.sum)
  | _ => False
theorem refc_sum {K : PySem.W.Frag} : RefC K (EnT.rSumU K) gSum := by
  intro A σ H G s xs ds Q P R hd h k
  unfold gSum at h
  split at h
  · obtain ⟨ns, rfl, q⟩ := h
    cases hd with
    | cons h1 h2 =>
      cases h2
      cases h1 with
      | lst hx hxa =>
        rw [hxa.ints] at hx
        exact .inl ⟨_, ns, rfl, sq_of (R.an.e _ _ hx), k _ _ _ _ R (Ex.refl _) (.int _) q⟩
  · obtain ⟨ns, rfl, q⟩ := h
    cases hd with
    | cons h1 h2 =>
      cases h2
      cases h1 with
      | tup hx hxa =>
        rw [hxa.ints] at hx
        exact .inr ⟨_, ns, rfl, ex_t R.an.e hx, k _ _ _ _ R (Ex.refl _) (.int _) q⟩
  · exact h.elim
def gAll : FC := fun ds Q => match ds with
  | [.lst l] => ∃ bs : List Bool, l = bs.map D.bl ∧ Q (.bl (bs.all id))
  | _ => False
def gAny : FC := fun ds Q => match ds with
  | [.lst l] => ∃ bs : List Bool, l = bs.map D.bl ∧ Q (.bl (bs.any id))
  | _ => False
theorem refc_all {K : PySem.W.Frag} : RefC K (rAll K) gAll := by
  intro A σ H G s xs ds Q P R hd h k
  unfold gAll at h
  split at h
  · obtain ⟨ns, rfl, q⟩ := h
    cases hd with
    | cons h1 h2 =>
      cases h2
      cases h1 with
      | lst hx hxa =>
        rw [hxa.bls] at hx
        exact ⟨_, ns, rfl, sq_of (R.an.e _ _ hx), k _ _ _ _ R (Ex.refl _) (.bl _) q⟩
  · exact h.elim
theorem refc_any {K : PySem.W.Frag} : RefC K (rAny K) gAny := by
  intro A σ H G s xs ds Q P R hd h k
  unfold gAny at h
  split at h
  · obtain ⟨ns, rfl, q⟩ := h
    cases hd with
    | cons h1 h2 =>
      cases h2
      cases h1 with
      | lst hx hxa =>
        rw [hxa.bls] at hx
        exact ⟨_, ns, rfl, sq_of (R.an.e _ _ hx), k _ _ _ _ R (Ex.refl _) (.bl _) q⟩
  · exact h.elim
def gInt : FC := fun ds Q => match ds with
  | [.int i] => Q (.int i)
  | [.bl b] => Q (.int (if b then 1 else 0))
  | _ => False
def rInt1 : List V → Hp → VK → Prop := fun xs H Q => (∃ i, xs = [.int i] ∧ Q (.int i) H) ∨ ∃ k, xs = [.bl k] ∧ Q (.int (if k then 1 else 0)) H
theorem refc_int {K : PySem.W.Frag} : RefC K rInt1 gInt := by
  intro A σ H G s xs ds Q P R hd h k
  unfold gInt at h
  split at h
  · cases hd with
    | cons h1 h2 => cases h2; cases h1; exact .inl ⟨_, rfl, k _ _ _ _ R (Ex.refl _) (.int _) h⟩
  · cases hd with
    | cons h1 h2 => cases h2; cases h1; exact .inr ⟨_, rfl, k _ _ _ _ R (Ex.refl _) (.int _) h⟩
  · exact h.elim
/-- tuple(x) -/
def wTupOf (wa : WE) : WE := fun Qe s Q => wa Qe s fun d s1 => match d with
  | .lst l => Q (.tup l) s1
  | .tup l => Q (.tup l) s1
  | _ => False
/-- list(x) -/
def wLstOf (wa : WE) : WF := fun Qe s Q => wa Qe s fun d s1 => match d with
  | .lst l => Q l s1
  | .tup l => Q l s1
  | _ => False
section
variable {X : Cx} {E : XK} {a b : Expr} {wa wb : WE} {pos p : Pos} {x : Str}
theorem de_tupOf (hg : Gl X "tuple") (hm : X.mg "tuple" = none) (ha : DE X E a wa) (na : starEach [a] X.env = (false, eval a X.env) :: starEach [] X.env := by rfl) : DE X E (.Call (.Name "tuple" p) [a] [] pos) (wTupOf wa) := by
  obtain ⟨t, h1, h2⟩ := ha.ex
  refine ⟨_, pe_tupleOf hg hm h1 na, fun A Qe W σ H G s Q P R q k => h2 A Qe W σ H G s _ _ R q fun v H1 G1 d s1 R1 g1 d1 q1 => ?_⟩
  cases d with
  | lst l =>
    cases d1 with
    | lst hx hxa => exact .inl ⟨_, _, rfl, sq_of (R1.an.e _ _ hx), fun p hp => k _ _ _ _ _ (R1.new hp) (g1.trans (R1.gnew hp)) (.tup (st_of upd_same) (hxa.up (R1.gnew hp))) q1⟩
  | tup l =>
    cases d1 with
    | tup hx hxa => exact .inr ⟨_, _, rfl, ex_t R1.an.e hx, k _ _ _ _ _ R1 g1 (.tup hx hxa) q1⟩
  | _ => exact (show False from q1).elim
theorem df_lstOf (hg : Gl X "list") (hm : X.mg "list" = none) (hv : bootBuiltins "list" = some (.type "list")) (ha : DE X E a wa) (he : starEach [a] X.env = (false, eval a X.env) :: starEach [] X.env := by rfl) : DF X E (.Call (.Name "list" p) [a] [] pos) (wLstOf wa) := by
  obtain ⟨t, h1, h2⟩ := ha.ex
  refine ⟨_, pe_callTy call_list_of hg hm hv (pa_cons h1 pa_nil he) (by decide) (by decide) he (by rfl), fun A Qe W σ H G s Q P R q k => h2 A Qe W σ H G s _ _ R q fun v H1 G1 d s1 R1 g1 d1 q1 => ?_⟩
  cases d with
  | lst l =>
    cases d1 with
    | lst hx hxa =>
      refine ⟨_, _, rfl, .inl (sq_of (R1.an.e _ _ hx)), fun p hp => ?_⟩
      obtain ⟨R2, o2⟩ := R1.lst hp hxa
      exact k _ _ _ _ _ R2 g1 o2 q1
  | tup l =>
    cases d1 with
    | tup hx hxa =>
      refine ⟨_, _, rfl, .inr (ex_t R1.an.e hx), fun p hp => ?_⟩
      obtain ⟨R2, o2⟩ := R1.lst hp hxa
      exact k _ _ _ _ _ R2 g1 o2 q1
  | _ => exact (show False from q1).elim
end
/-! ### isinstance -/
def D.tyN : D → String
  | .non => "NoneType"
  | .bl _ => "bool"
  | .int _ => "int"
  | .str _ => "str"
  | .lst _ => "list"
  | .tup _ => "tuple"
  | .dct _ _ => "dict"
  | .pen => "list"
  | .obj _ _ _ => ""
  | .loc _ => ""
/-- what is built in: no object of one's own, not the pen -/
def D.bare : D → Bool
  | .pen => false
  | .obj _ _ _ => false
  | .loc _ => false
  | _ => true
theorem Dx.ty {K : PySem.W.Frag} {pen : Addr} {G H : Hp} {v : V} {d : D} (h : Dx K pen G v d) (e : Ex G H) (hb : d.bare = true) : TyX K H v (.type d.tyN) := by
  cases h with
  | non => exact .base .non
  | bl b => exact .base (.bl b)
  | int i => exact .base (.int i)
  | str x => exact .base (.str x)
  | lst hs _ => exact .base (.lst (e _ _ hs))
  | tup hs _ =>
    rcases ex_t e hs with (h | ⟨o, h⟩) | ⟨o, its, n, hk, hc, _⟩
    · exact .base (.tup h)
    · exact .fTuple h
    · exact .kTuple hk hc
  | dct h _ _ => exact .base (.dK (e _ _ h))
  | pen => cases hb
  | obj _ _ _ => cases hb
  | loc => cases hb
/-- the seven types and a class: which are of it -/
def KitT (K : PySem.W.Frag) (u : Value) (f : D → Bool) : Prop := ∀ d : D, d.bare = true → PySem.W.kitOne K (.type d.tyN) u = some (f d)
def isT (T : String) (d : D) : Bool := (kitB d.tyN T).getD false
theorem kit_T (K : PySem.W.Frag) (T : String) (h : ["NoneType", "bool", "int", "str", "list", "tuple", "dict"].all (fun n => (kitB n T).isSome) = true) : KitT K (.type T) (isT T) := by
  intro d hb
  have h2 := List.all_eq_true.mp h d.tyN (by cases d <;> first | (simp [D.tyN]; done) | cases hb)
  obtain ⟨b, e⟩ := Option.isSome_iff_exists.mp h2
  refine kit_ty ?_
  unfold isT
  rw [e] <;> rfl
def wIsi (f : D → Bool) (wa : WE) : WE := fun Qe s Q => wa Qe s fun d s1 => d.bare = true ∧ Q (.bl (f d)) s1
section
variable {X : Cx} {E : XK} {a b c : Expr} {wa wb : WE} {pos p p2 : Pos} {x : Str}
theorem simE_isi {K : PySem.W.Frag} {ta : TE} {cv : V} {u : Value} {f : D → Bool} (kc : ClsV cv u) (hk : KitT K u f) (h2 : SimE K E ta wa) : SimE K E (tCB (rIsi K) (tCons ta (tCons (tC cv) tNil))) (wIsi f wa) := fun A Qe W σ H G s Q P R q k =>
  h2 A Qe W σ H G s _ _ R q fun v H1 G1 d s1 R1 g1 d1 q1 => ⟨v, cv, .type d.tyN, u, f d, rfl, kc, d1.ty R1.an.e q1.1, hk d q1.1, k _ _ _ _ _ R1 g1 (.bl _) q1.2⟩
/-- isinstance(a, T), T built in -/
theorem de_isi {T : String} (hg : Gl X "isinstance") (hm : X.mg "isinstance" = none) (hv : bootBuiltins "isinstance" = some (.builtin "isinstance")) (ha : DE X E a wa) (hT : PE X b (tC (.ty T))) (hk : ["NoneType", "bool", "int", "str", "list", "tuple", "dict"].all (fun n => (kitB n T).isSome) = true)
    (he : starEach [a, b] X.env = (false, eval a X.env) :: starEach [b] X.env := by rfl) (he2 : starEach [b] X.env = (false, eval b X.env) :: starEach [] X.env := by rfl) (hpl : (backTo pos (starEach [b] X.env)).any (·.1) = false := by rfl) :
    DE X E (.Call (.Name "isinstance" p) [a, b] [] pos) (wIsi (isT T) wa) := by
  obtain ⟨t, h1, h2⟩ := ha.ex
  exact ⟨_, pe_callB call_isi hg hm hv (pa_cons h1 (pa_cons hT pa_nil he2) he) (by decide) (by decide) he hpl, simE_isi (.ty T) (kit_T _ T hk) h2⟩
/-- isinstance(a, (list, tuple)) -/
theorem kit_two {K : PySem.W.Frag} {n a b : String} {x y : Bool} (h1 : kitB n a = some x) (h2 : kitB n b = some y) : PySem.W.kitAny K (.type n) [.type a, .type b] = some (x || y) := by
  refine kitAny_cons (kit_ty h1) (fun hx => ?_) (fun hx => by rw [hx] <;> rfl)
  subst hx
  exact kitAny_cons (kit_ty h2) (fun hy => by subst hy; exact kitAny_nil) (fun hy => by rw [hy] <;> rfl)
def isRow : D → Bool
  | .lst _ => true
  | .tup _ => true
  | _ => false
theorem kit_row (K : PySem.W.Frag) (d : D) (hb : d.bare = true) : PySem.W.kitAny K (.type d.tyN) [.type "list", .type "tuple"] = some (isRow d) := by
  cases d with
  | non => exact kit_two (n := "NoneType") (x := false) (y := false) (by decide +kernel) (by decide +kernel)
  | bl _ => exact kit_two (n := "bool") (x := false) (y := false) (by decide +kernel) (by decide +kernel)
  | int _ => exact kit_two (n := "int") (x := false) (y := false) (by decide +kernel) (by decide +kernel)
  | str _ => exact kit_two (n := "str") (x := false) (y := false) (by decide +kernel) (by decide +kernel)
  | lst _ => exact kit_two (n := "list") (x := true) (y := false) (by decide +kernel) (by decide +kernel)
  | tup _ => exact kit_two (n := "tuple") (x := false) (y := true) (by decide +kernel) (by decide +kernel)
  | dct _ _ => exact kit_two (n := "dict") (x := false) (y := false) (by decide +kernel) (by decide +kernel)
  | pen => cases hb
  | obj _ _ _ => cases hb
  | loc _ => cases hb
theorem de_isRow {x1} {pl pt2 p3 : Pos} (hg : Gl X "isinstance") (hm : X.mg "isinstance" = none) (hv : bootBuiltins "isinstance" = some (.builtin "isinstance")) (ha : DE X E a wa) (gl : Gl X "list") (ml : X.mg "list" = none) (gt : Gl X "tuple") (mt : X.mg "tuple" = none)
    (he : starEach [a, .Tuple [.Name "list" pl, .Name "tuple" pt2] x1 p3] X.env = (false, eval a X.env) :: starEach [.Tuple [.Name "list" pl, .Name "tuple" pt2] x1 p3] X.env := by rfl)
    (hpl : (backTo pos (starEach [.Tuple [.Name "list" pl, .Name "tuple" pt2] x1 p3] X.env)).any (·.1) = false := by rfl) :
    DE X E (.Call (.Name "isinstance" p) [a, .Tuple [.Name "list" pl, .Name "tuple" pt2] x1 p3] [] pos) (wIsi isRow wa) := by
  obtain ⟨t, h1, h2⟩ := ha.ex
  refine ⟨_, pe_callB call_isiT hg hm hv (pa_cons h1 (pa_cons (pe_tup (pa_cons (pe_bltn (v := .ty "list") gl ml (by decide +kernel) rfl) (pa_cons (pe_bltn (v := .ty "tuple") gt mt (by decide +kernel) rfl) pa_nil))) pa_nil) he) (by decide) (by decide) he hpl,
    fun A Qe W σ H G s Q P R q k => h2 A Qe W σ H G s _ _ R q fun v H1 G1 d s1 R1 g1 d1 q1 => ⟨(by show 2 ≤ sizeLine; decide), fun p hp => ?_⟩⟩
  exact ⟨v, p, _, _, _, _, rfl, upd_same, .cons (.ty _) (.cons (.ty _) .nil), (d1.up (R1.gnew hp)).ty (R1.new (o := .tup [.ty "list", .ty "tuple"]) hp).an.e q1.1, kit_row _ d q1.1, k _ _ _ _ _ (R1.new hp) (g1.trans (R1.gnew hp)) (.bl _) q1.2⟩
end
/-! ### repr -/
def fineS (x : Str) : Bool := x.cps.toList.all fun c => decide (c < 1000)
/-- repr of data -/
def ReprOk (d : D) : Prop := d.dat = true ∧ d.py.showable = true ∧ d.py.leavesShort 13 = true ∧ d.py.depth ≤ 60 ∧ d.py.bulk ≤ 1000000 ∧ d.py.hasDict = false
def gRepr : FC := fun ds Q => match ds with
  | [.lst l] => ReprOk (.lst l) ∧ Q (.str (D.py (.lst l)).shown)
  | [.tup l] => ReprOk (.tup l) ∧ Q (.str (D.py (.tup l)).shown)
  | _ => False
def rReprD (K : PySem.W.Frag) : List V → Hp → VK → Prop := fun xs H Q => ∃ (a : Addr) (d : PyData), xs = [.ref a] ∧ Dp K H (.ref a) d ∧ d.showable = true ∧ d.leavesShort 13 = true ∧ d.hasDict = false ∧ d.depth ≤ 60 ∧ d.bulk ≤ 1000000 ∧ Q (.str d.shown) H
theorem call_reprD {X : Cx} (hg : X.A.guards = some []) (hu : X.A.units + 64 < cLine) : CallR X (.builtin "repr") (rReprD X.K) := by
  intro pins s σ H xs us Q I r h
  obtain ⟨a, d, rfl, hd, hs, hl, hnd, hdp, hb, q⟩ := h
  cases r with
  | cons rx rr =>
    cases rr
    cases rx
    obtain ⟨as, rd⟩ := Dp.reads I d _ (.ref a) hd rfl
    refine PySem.repr_of_reads' rd hs (fun z => by rw [hnd] at z; cases z) hg (by omega) (fun b o e => e) (fun h' u tk hk => ?_) (PyData.shown_fits_bulk (B := 13) (by decide) (by decide) hl (by omega))
    exact ⟨.str d.shown, H, I.kept (t' := tk) hk, ⟨u, rfl⟩, q⟩
theorem refc_repr {K : PySem.W.Frag} : RefC K (rReprD K) gRepr := by
  intro A σ H G s xs ds Q P R hd h k
  unfold gRepr at h
  split at h
  · obtain ⟨⟨h1, h2, h3, h4, h5, h6⟩, q⟩ := h
    cases hd with
    | cons g1 g2 =>
      cases g2
      cases hg : g1 with
      | lst hx hxa => exact ⟨_, _, rfl, Dx.dp R.an.e _ _ h1 g1, h2, h3, h6, h4, h5, k _ _ _ _ R (Ex.refl _) (.str _) q⟩
  · obtain ⟨⟨h1, h2, h3, h4, h5, h6⟩, q⟩ := h
    cases hd with
    | cons g1 g2 =>
      cases g2
      cases hg : g1 with
      | tup hx hxa => exact ⟨_, _, rfl, Dx.dp R.an.e _ _ h1 g1, h2, h3, h6, h4, h5, k _ _ _ _ R (Ex.refl _) (.str _) q⟩
  · exact h.elim
/-! ### a list of one's own, looked at -/
def rNeE (K : PySem.W.Frag) : R2 := fun x y H Q => ∃ a b xs, x = .ref a ∧ y = .ref b ∧ SqL K H a xs ∧ SqL K H b [] ∧ Q (.bl (!xs.isEmpty)) H
def rEqE (K : PySem.W.Frag) : R2 := fun x y H Q => ∃ a b xs, x = .ref a ∧ y = .ref b ∧ SqL K H a xs ∧ SqL K H b [] ∧ Q (.bl xs.isEmpty) H
section
variable {X : Cx}
theorem op_neE (hu : X.A.units < cLine) : OpR X (compareOp .NotEq) (rNeE X.K) := by
  intro pins s σ H x y v u Q I rx ry h
  obtain ⟨a, b, xs, rfl, rfl, ha, hb, q⟩ := h
  cases (show v = Value.ref a from rx)
  cases (show u = Value.ref b from ry)
  obtain ⟨us, r1, p1, _⟩ := I.list ha
  obtain ⟨ws, r2, p2, _⟩ := I.list hb
  cases r2
  unfold compareOp
  cases r1 with
  | nil => exact PySem.SeqAt.RcNeAt.lists (e := fun _ => true) p1.isList p2.isList rfl hu (fun j h1 => absurd h1 (by simp)) X.prog X.w X.xe _ ⟨.bl false, H, I, rfl, q⟩
  | cons r t => exact PySem.SeqAt.RcNeAt.lists_lengths p1.isList p2.isList (by simp) hu X.prog X.w X.xe _ ⟨.bl true, H, I, rfl, q⟩
theorem op_eqE (hu : X.A.units < cLine) : OpR X (compareOp .Eq) (rEqE X.K) := by
  intro pins s σ H x y v u Q I rx ry h
  obtain ⟨a, b, xs, rfl, rfl, ha, hb, q⟩ := h
  cases (show v = Value.ref a from rx)
  cases (show u = Value.ref b from ry)
  obtain ⟨us, r1, p1, _⟩ := I.list ha
  obtain ⟨ws, r2, p2, _⟩ := I.list hb
  cases r2
  unfold compareOp
  cases r1 with
  | nil => exact PySem.SeqAt.RcAt.lists (e := fun _ => true) p1.isList p2.isList rfl hu (fun j h1 => absurd h1 (by simp)) X.prog X.w X.xe _ ⟨.bl true, H, I, rfl, q⟩
  | cons r t => exact PySem.SeqAt.RcAt.lists_lengths p1.isList p2.isList (by simp) hu X.prog X.w X.xe _ ⟨.bl false, H, I, rfl, q⟩
end
/-- a list's items, of one's own or not -/
def lstAt (s : S) (i : Nat) : Option (List D) := match s.env[i]? with
  | some (.own ds) => some ds
  | some (.val (.lst ds)) => some ds
  | _ => none
theorem Rel.lstAt {K : PySem.W.Frag} {A : An} {σ : L2.St} {H G : Hp} {s : S} {i : Nat} {ds : List D} (R : Rel K A σ H G s) (h : lstAt s i = some ds) : ∃ a xs, σ[i]? = some (some (.ref a)) ∧ H a = some (.lst xs) ∧ DxAll K A.pen G xs ds := by
  unfold DL.lstAt at h
  split at h
  · rename_i e; cases h
    obtain ⟨a, xs, h1, h2, _, _, _, h5, _⟩ := R.own e
    exact ⟨a, xs, h1, h2, h5⟩
  · rename_i e; cases h
    obtain ⟨v, h1, h2⟩ := R.val e
    cases h2 with
    | lst hx hxa => exact ⟨_, _, h1, R.an.e _ _ hx, hxa⟩
  · cases h
def wNeNil (i : Nat) : WE := fun _ s Q => ∃ ds, lstAt s i = some ds ∧ Q (.bl (!ds.isEmpty)) s
def wEqNil (i : Nat) : WE := fun _ s Q => ∃ ds, lstAt s i = some ds ∧ Q (.bl ds.isEmpty) s
def wLenO (i : Nat) : WE := fun _ s Q => ∃ ds, lstAt s i = some ds ∧ Q (.int (ds.length : Nat)) s
def wSumO (i : Nat) : WE := fun _ s Q => ∃ (ns : List Int), lstAt s i = some (ns.map D.int) ∧ Q (.int ns.sum) s
def wIxO (i : Nat) (wb : WE) : WE := fun Qe s Q => (lstAt s i).isSome = true ∧ wb Qe s fun e s1 => ∃ ds j z, lstAt s1 i = some ds ∧ e = .int j ∧ atI ds j = some z ∧ Q z s1
section
variable {X : Cx} {E : XK} {b : Expr} {wb : WE} {pos p p2 : Pos} {x : Str} {i : Nat}
theorem nil_iff {K : PySem.W.Frag} {pen : Addr} {G : Hp} {xs : List V} {ds : List D} (h : DxAll K pen G xs ds) : xs.isEmpty = ds.isEmpty := by
  cases h <;> rfl
theorem simE_neNil (K : PySem.W.Frag) : SimE K E (tOp (rNeE K) (tVar i) (tLst tNil)) (wNeNil i) := fun A Qe W σ H G s Q P R q k => by
  obtain ⟨ds, h, q⟩ := q
  obtain ⟨a, xs, h1, h2, h3⟩ := R.lstAt h
  refine ⟨_, h1, Nat.zero_le _, fun b hb => ⟨a, b, xs, rfl, rfl, sq_of (Ex.new hb _ _ h2), sq_of upd_same, k _ _ _ _ _ (R.temp hb) (Ex.refl _) (.bl _) ?_⟩⟩
  rw [nil_iff h3]
  exact q
theorem simE_eqNil (K : PySem.W.Frag) : SimE K E (tOp (rEqE K) (tVar i) (tLst tNil)) (wEqNil i) := fun A Qe W σ H G s Q P R q k => by
  obtain ⟨ds, h, q⟩ := q
  obtain ⟨a, xs, h1, h2, h3⟩ := R.lstAt h
  refine ⟨_, h1, Nat.zero_le _, fun b hb => ⟨a, b, xs, rfl, rfl, sq_of (Ex.new hb _ _ h2), sq_of upd_same, k _ _ _ _ _ (R.temp hb) (Ex.refl _) (.bl _) ?_⟩⟩
  rw [nil_iff h3]
  exact q
theorem dt_neNil (hu : X.A.units < cLine) (hv : PE X (.Name x p) (tVar i)) : DT X E (.Compare (.Name x p) [.NotEq] [.List [] p2] pos) (wT (wNeNil i)) := ⟨_, pt_cmpR (op_neE hu) hv (pe_lst pa_nil) (nomark _), simT_test (simE_neNil _)⟩
theorem dt_eqNil (hu : X.A.units < cLine) (hv : PE X (.Name x p) (tVar i)) : DT X E (.Compare (.Name x p) [.Eq] [.List [] p2] pos) (wT (wEqNil i)) := ⟨_, pt_cmpR (op_eqE hu) hv (pe_lst pa_nil) (nomark _), simT_test (simE_eqNil _)⟩
theorem de_lenO {pc : Pos} (hv : PE X (.Name x p) (tVar i)) (hg : Gl X "len") (hm : X.mg "len" = none) (hb : bootBuiltins "len" = some (.builtin "len")) (he : starEach [.Name x p] X.env = (false, eval (.Name x p) X.env) :: starEach [] X.env := by rfl) : DE X E (.Call (.Name "len" p2) [.Name x p] [] pc) (wLenO i) := by
  refine ⟨_, pe_callB call_len hg hm hb (pa_cons hv pa_nil he), fun A Qe W σ H G s Q P R q k => ?_⟩
  obtain ⟨ds, h, q⟩ := q
  obtain ⟨a, xs, h1, h2, h3⟩ := R.lstAt h
  exact ⟨_, h1, _, _, rfl, .inl ⟨xs, sq_of h2, rfl⟩, k _ _ _ _ _ R (Ex.refl _) (.int _) (by rw [h3.length]; exact q)⟩
theorem de_sumO {pc : Pos} (hc : X.calm = true) (hv : PE X (.Name x p) (tVar i)) (hg : Gl X "sum") (hm : X.mg "sum" = none) (hb : bootBuiltins "sum" = some (.builtin "sum")) (he : starEach [.Name x p] X.env = (false, eval (.Name x p) X.env) :: starEach [] X.env := by rfl) : DE X E (.Call (.Name "sum" p2) [.Name x p] [] pc) (wSumO i) := by
  refine ⟨_, pe_callB (cr_sum hc) hg hm hb (pa_cons hv pa_nil he), fun A Qe W σ H G s Q P R q k => ?_⟩
  obtain ⟨ns, h, q⟩ := q
  obtain ⟨a, xs, h1, h2, h3⟩ := R.lstAt h
  rw [h3.ints] at h2
  exact ⟨_, h1, a, ns, rfl, sq_of h2, k _ _ _ _ _ R (Ex.refl _) (.int _) q⟩
theorem de_ixO (hv : PE X (.Name x p) (tVar i)) (hb : DE X E b wb) (hs : PlainIx b := by exact fun _ _ => rfl) : DE X E (.Subscript (.Name x p) b pos) (wIxO i wb) := by
  obtain ⟨tb, h1, h2⟩ := hb.ex
  refine ⟨_, pe_ix ix_seq hv h1 hs, fun A Qe W σ H G s Q P R q k => ?_⟩
  obtain ⟨q0, q⟩ := q
  obtain ⟨ds0, h0⟩ := Option.isSome_iff_exists.mp q0
  obtain ⟨a0, xs0, hv0, _⟩ := R.lstAt h0
  refine ⟨_, hv0, h2 A Qe W σ H G s _ _ R q fun y H1 G1 e s1 R1 g1 d1 q1 => ?_⟩
  obtain ⟨ds, j, z, e1, rfl, e2, q2⟩ := q1
  obtain ⟨a, xs, g2, g3, g4⟩ := R1.lstAt e1
  rw [hv0] at g2
  cases g2
  cases d1
  obtain ⟨u, u1, u2⟩ := g4.at e2
  exact .inl ⟨_, xs, j, u, rfl, rfl, sq_of g3, u1, k _ _ _ _ _ R1 g1 u2 q2⟩
end
end DL
set_option Elab.async false
set_option linter.all false
set_option maxRecDepth 100000
set_option maxHeartbeats 4000000
namespace DL
open PySem L2 Evl
/-! ### statements -/
structure DEnds where
  nx : S → Prop
  rt : D → M → Prop
  bk : S → Prop
  ct : S → Prop
abbrev WS := WQ → DEnds → S → Prop
structure EndsOk (K : PySem.W.Frag) (A : An) (De : DEnds) (Dh : Ends) : Prop where
  nx : ∀ σ H G s, Rel K A σ H G s → De.nx s → Dh.nx σ H
  rt : ∀ σ H G s v d, Rel K A σ H G s → Dx K A.pen G v d → De.rt d s.n → Dh.rt v H
  bk : ∀ σ H G s, Rel K A σ H G s → De.bk s → Dh.bk σ H
  ct : ∀ σ H G s, Rel K A σ H G s → De.ct s → Dh.ct σ H
def SimS (K : PySem.W.Frag) (E : XK) (t : TS) (w : WS) : Prop := ∀ (A : An) (Qe : WQ), Wish K A E Qe → ∀ (σ : L2.St) (H G : Hp) (s : S) (De : DEnds) (Dh : Ends), Rel K A σ H G s → EndsOk K A De Dh → w Qe De s → t Dh σ H
structure DS (X : Cx) (E : XK) (st : Stmt) (w : WS) : Prop where
  ex : ∃ t, PS X st t ∧ SimS X.K E t w
structure DSs (X : Cx) (E : XK) (sts : List Stmt) (w : WS) : Prop where
  ex : ∃ t, PSs X sts t ∧ SimS X.K E t w
abbrev WG := D → WQ → S → (S → Prop) → Prop
def SimG (K : PySem.W.Frag) (E : XK) (t : TG) (w : WG) : Prop := ∀ (A : An) (Qe : WQ), Wish K A E Qe → ∀ (σ : L2.St) (H G : Hp) (s : S) (v : V) (d : D) (Q : S → Prop) (P : L2.St → Hp → Prop), Rel K A σ H G s → Dx K A.pen G v d → w d Qe s Q →
  (∀ σ' H' G' s', Rel K A σ' H' G' s' → Ex G G' → Q s' → P σ' H') → t v σ H P
structure DG (X : Cx) (E : XK) (tg : Expr) (w : WG) : Prop where
  ex : ∃ t, PG X tg t ∧ SimG X.K E t w
abbrev WGs := List D → WQ → S → (S → Prop) → Prop
def SimGs (K : PySem.W.Frag) (E : XK) (t : TGs) (w : WGs) : Prop := ∀ (A : An) (Qe : WQ), Wish K A E Qe → ∀ (σ : L2.St) (H G : Hp) (s : S) (vs : List V) (ds : List D) (Q : S → Prop) (P : L2.St → Hp → Prop), Rel K A σ H G s → DxAll K A.pen G vs ds → w ds Qe s Q →
  (∀ σ' H' G' s', Rel K A σ' H' G' s' → Ex G G' → Q s' → P σ' H') → t vs σ H P
structure DGs (X : Cx) (E : XK) (tgs : List Expr) (w : WGs) : Prop where
  ex : ∃ t, PGs X tgs t ∧ SimGs X.K E t w
/-! lists that are held on the way -/
def hold (A : An) (p : Addr) (xs : List V) : An := { A with tmp := (p, xs) :: A.tmp }
section
variable {K : PySem.W.Frag} {A : An} {σ : L2.St} {H G : Hp} {s : S} {p : Addr} {xs : List V} {ds : List D}
theorem Rel.hold (R : Rel K A σ H G s) (O : Own1 K A σ H G s p ds) (hx : H p = some (.lst xs)) : Rel K (hold A p xs) σ H G s := by
  refine ⟨R.an, R.pn, R.len, fun i c h => ?_, R.nd, ?_, fun a ys h => ?_, R.tb, R.ta, R.nn⟩
  · have q := R.sl i c h
    generalize σ[i]? = o at q
    cases q with
    | unb => exact .unb
    | val hd => exact .val hd
    | own q1 q2 q3 q4 q5 q6 => exact .own q1 q2 q3 q4 q5 q6
    | new qm q1 ql q2 q3 q4 q5 q6 => exact .new qm q1 ql q2 q3 q4 q5 q6
  · show (p :: A.tmp.map (·.1)).Nodup
    refine List.nodup_cons.mpr ⟨fun z => ?_, R.tn⟩
    obtain ⟨⟨a, ys⟩, h1, h2⟩ := List.mem_map.mp z
    have h2 : a = p := h2
    subst h2
    exact O.t ys h1
  · rcases List.mem_cons.mp h with z | z
    · injection z with z1 z2
      subst z1
      subst z2
      exact ⟨hx, O.g, O.p, O.h, O.o, O.s⟩
    · exact R.tm a ys z
theorem Rel.unhold (R : Rel K (DL.hold A p xs) σ H G s) (hd : DxAll K A.pen G xs ds) : Rel K A σ H G s ∧ Own1 K A σ H G s p ds ∧ H p = some (.lst xs) := by
  obtain ⟨q1, q2, q3, q4, q5, q6⟩ := R.tm p xs List.mem_cons_self
  have nd : (p :: A.tmp.map (·.1)).Nodup := R.tn
  rw [List.nodup_cons] at nd
  refine ⟨⟨R.an, R.pn, R.len, fun i c h => ?_, R.nd, nd.2, fun a ys h => R.tm a ys (List.mem_cons_of_mem _ h), R.tb, R.ta, R.nn⟩, ⟨⟨xs, q1, hd⟩, q2, q3, q4, q5, fun ys z => nd.1 (List.mem_map.mpr ⟨_, z, rfl⟩), q6⟩, q1⟩
  have q := R.sl i c h
  generalize σ[i]? = o at q
  cases q with
  | unb => exact .unb
  | val hd => exact .val hd
  | own q1 q2 q3 q4 q5 q6 => exact .own q1 q2 q3 q4 q5 q6
  | new qm q1 ql q2 q3 q4 q5 q6 => exact .new qm q1 ql q2 q3 q4 q5 q6
/-- a list that is held is written -/
theorem Rel.wtmp {ys : List V} (R : Rel K (DL.hold A p xs) σ H G s) : Rel K (DL.hold A p ys) σ (upd H p (.lst ys)) G s := by
  obtain ⟨q1, q2, q3, q4, q5, q6⟩ := R.tm p xs List.mem_cons_self
  have nd : (p :: A.tmp.map (·.1)).Nodup := R.tn
  rw [List.nodup_cons] at nd
  refine ⟨⟨fun b o n sn hb => ?_, R.an.g, R.an.n, R.an.e.mut q2, R.an.p, R.an.t, R.an.m, fun b hb => ne_none_upd (R.an.l b hb)⟩, R.pn.but q3 q6, R.len, fun i c h => ?_, R.nd, List.nodup_cons.mpr nd, fun a zs h => ?_, tabs_upd R.tb q1, R.ta, R.nn⟩
  · rw [upd_ne (fun z => by rw [z] at hb; rw [show (DL.hold A p ys).H0 p = none from q4] at hb; cases hb)]
    exact R.an.h b o n sn hb
  · have q := R.sl i c h
    generalize ho : σ[i]? = o at q
    cases q with
    | unb => exact .unb
    | val hd => exact .val hd
    | own g1 g2 g3 g4 g5 g6 =>
      refine .own ?_ g2 g3 g4 g5 g6
      rw [upd_ne (fun z => q5 i _ h (by rw [← z]; exact ho))]
      exact g1
    | new gm g1 gl g2 g3 g4 g5 g6 => exact .new gm (by rw [upd_ne (fun z2 => by rw [z2, q1] at g1; cases g1)]; exact g1) gl g2 g3 g4 g5 g6
  · rcases List.mem_cons.mp h with z | z
    · injection z with z1 z2
      subst z1
      subst z2
      exact ⟨upd_same, q2, q3, q4, q5, q6⟩
    · obtain ⟨g1, g2, g3, g4, g5, g6⟩ := R.tm a zs (List.mem_cons_of_mem _ z)
      refine ⟨?_, g2, g3, g4, g5, g6⟩
      rw [upd_ne (fun z2 => nd.1 (by rw [← z2]; exact List.mem_map.mpr ⟨_, z, rfl⟩))]
      exact g1
/-- a slot takes a new list -/
theorem Rel.takeO {i : Nat} (R : Rel K A σ H G s) (O : Own1 K A σ H G s p ds) : Rel K A (σ.set i (some (.ref p))) H G ⟨s.env.set i (.own ds), s.n⟩ := by
  obtain ⟨xs, h1, h2⟩ := O.ex
  exact R.setO h1 O.g O.p O.h h2 (fun j es _ h => O.o j es h) O.t O.s
theorem Own1.set {i : Nat} {v : Option V} {c : Cell} (O : Own1 K A σ H G s p ds) (hc : ∀ es, c ≠ .own es) : Own1 K A (σ.set i v) H G ⟨s.env.set i c, s.n⟩ p ds := by
  refine ⟨O.ex, O.g, O.p, O.h, fun j es h => ?_, O.t, O.s⟩
  by_cases z : i = j
  · subst z
    have h : (s.env.set i c)[i]? = some (.own es) := h
    by_cases hl : i < s.env.length
    · rw [List.getElem?_set_self hl] at h
      cases h
      exact absurd rfl (hc es)
    · rw [List.getElem?_eq_none (by simpa using Nat.not_lt.mp hl)] at h; cases h
  · have h : (s.env.set i c)[j]? = some (.own es) := h
    rw [List.getElem?_set_ne z] at h ⊢
    exact O.o j es h
/-- another list stands in a slot -/
theorem Own1.set2 {i : Nat} {q : Addr} {es : List D} (O : Own1 K A σ H G s p ds) (n : q ≠ p) : Own1 K A (σ.set i (some (.ref q))) H G ⟨s.env.set i (.own es), s.n⟩ p ds := by
  refine ⟨O.ex, O.g, O.p, O.h, fun j es' h => ?_, O.t, O.s⟩
  by_cases z : i = j
  · subst z
    by_cases hl : i < σ.length
    · rw [List.getElem?_set_self hl]
      intro z
      injection z with z
      injection z with z
      injection z with z
      exact n z
    · rw [List.getElem?_eq_none (by simpa using Nat.not_lt.mp hl)]
      exact fun z => nomatch z
  · have h : (s.env.set i (.own es))[j]? = some (.own es') := h
    rw [List.getElem?_set_ne z] at h ⊢
    exact O.o j es' h
end
/-! ### sequence -/
def wNext : WS := fun _ De s => De.nx s
def wSeq (w1 w2 : WS) : WS := fun Qe De s => w1 Qe { De with nx := fun s1 => w2 Qe De s1 } s
section
variable {X : Cx} {E : XK} {st : Stmt} {rest : List Stmt} {w1 w2 : WS} {t u : TS} {K : PySem.W.Frag}
theorem simS_seq (h1 : SimS K E t w1) (h2 : SimS K E u w2) : SimS K E (tSeq t u) (wSeq w1 w2) := fun A Qe W σ H G s De Dh R eo q =>
  h1 A Qe W σ H G s { De with nx := fun s1 => w2 Qe De s1 } _ R ⟨fun σ' H' G' s' R' q' => h2 A Qe W σ' H' G' s' De Dh R' eo q', eo.rt, eo.bk, eo.ct⟩ q
theorem dss_nil : DSs X E [] wNext := ⟨_, pss_nil, fun A Qe W σ H G s De Dh R eo q => eo.nx _ _ _ _ R q⟩
theorem dss_one (h : DS X E st w1) : DSs X E [st] w1 := by
  obtain ⟨t, g1, g2⟩ := h.ex
  exact ⟨_, pss_one g1, g2⟩
theorem dss_cons (h : DS X E st w1) (h' : DSs X E rest w2) : DSs X E (st :: rest) (wSeq w1 w2) := by
  obtain ⟨t, g1, g2⟩ := h.ex
  obtain ⟨u, g3, g4⟩ := h'.ex
  exact ⟨_, pss_cons g1 g3, simS_seq g2 g4⟩
/-- statements that are never come to -/
def wDead : WS := fun _ _ _ => False
theorem dss_dead : DSs X E rest wDead := ⟨fun _ _ _ => False, ⟨fun _ _ _ _ _ _ z => z.elim⟩, fun A Qe W σ H G s De Dh R eo q => q.elim⟩
end
/-! ### targets -/
def wgName (i : Nat) : WG := fun d _ s Q => Q ⟨s.env.set i (.val d), s.n⟩
def wgNil : WGs := fun ds _ s Q => ds = [] ∧ Q s
def wgCons (w : WG) (u : WGs) : WGs := fun ds Qe s Q => ∃ d r, ds = d :: r ∧ w d Qe s fun s1 => u r Qe s1 Q
def wgTup (n : Nat) (u : WGs) : WG := fun d Qe s Q => ∃ ds, d = .tup ds ∧ ds.length = n ∧ u ds Qe s Q
/-- x[e] = d, x a list of one's own -/
def wgSub (i : Nat) (wb : WE) : WG := fun d Qe s Q => (lstAt s i).isSome = true ∧ wb Qe s fun e s1 => ∃ ds j k, s1.env[i]? = some (.own ds) ∧ e = .int j ∧ ixN ds.length j = some k ∧ Q ⟨s1.env.set i (.own (ds.set k d)), s1.n⟩
section
variable {X : Cx} {E : XK} {tg b : Expr} {tgs : List Expr} {w : WG} {u : WGs} {wb : WE} {pos p : Pos} {x : Str} {i : Nat}
theorem dg_name (hN : X.N.Nodup) (hi : X.N[i]? = some x) (hx : Loc X.env.scope x) (hf : X.fn x = true ∨ X.env.scope.names.lookup x = some .local := by first | exact .inl rfl | exact .inr rfl | assumption) : DG X E (.Name x pos) (wgName i) :=
  ⟨_, pg_name hN hi hx hf, fun A Qe W σ H G s v d Q P R hd q k => k _ _ G _ (R.setV hd) (Ex.refl _) q⟩
theorem dgs_nil : DGs X E [] wgNil := ⟨_, pgs_nil, fun A Qe W σ H G s vs ds Q P R hd q k => by
  obtain ⟨rfl, q⟩ := q
  cases hd
  exact ⟨rfl, k _ _ G _ R (Ex.refl _) q⟩⟩
theorem dgs_cons (h : DG X E tg w) (h' : DGs X E tgs u) (hs : (assignEach (tg :: tgs) X.env).map (·.2) = assign tg X.env :: (assignEach tgs X.env).map (·.2) := by rfl) : DGs X E (tg :: tgs) (wgCons w u) := by
  obtain ⟨t, h1, h2⟩ := h.ex
  obtain ⟨t', h3, h4⟩ := h'.ex
  refine ⟨_, pgs_cons h1 h3 hs, fun A Qe W σ H G s vs ds Q P R hd q k => ?_⟩
  obtain ⟨d, r, rfl, q⟩ := q
  cases hd with
  | cons d1 d2 => exact ⟨_, _, rfl, h2 A Qe W σ H G s _ _ _ _ R d1 q fun σ' H' G' s' R' g q' => h4 A Qe W σ' H' G' s' _ _ _ _ R' (d2.up g) q' fun σ2 H2 G2 s2 R2 g2 q2 => k _ _ _ _ R2 (g.trans g2) q2⟩
theorem dg_tup {es : List Expr} {kk n : Nat} (hc : X.calm = true) (h : DGs X E es u) (hn : (assignEach es X.env).length = n := by rfl) (hst : (assignEach es X.env).findIdx? (·.1) = none := by rfl) : DG X E (.Tuple es kk pos) (wgTup n u) := by
  obtain ⟨t, h1, h2⟩ := h.ex
  refine ⟨_, pg_tup hc h1 hn hst, fun A Qe W σ H G s v d Q P R hd q k => ?_⟩
  obtain ⟨ds, rfl, hl, q⟩ := q
  cases hd with
  | tup hx hxa => exact ⟨_, _, rfl, ex_t R.an.e hx, by rw [hxa.length]; exact hl, h2 A Qe W σ H G s _ _ _ _ R hxa q k⟩
theorem dg_sub (hv : PE X (.Name x p) (tVar i)) (hb : DE X E b wb) (ha : ∀ v, assign (.Subscript (.Name x p) b pos) X.env v = (do
      let ov ← holding [v] (eval (.Name x p) X.env)
      let iv ← holding [v, ov] (eval b X.env)
      standAt pos
      holding [v, ov, iv] (setItem ov iv v)
      release [v, ov, iv] []) := by intro _; rfl) : DG X E (.Subscript (.Name x p) b pos) (wgSub i wb) := by
  obtain ⟨tb, h1, h2⟩ := hb.ex
  refine ⟨_, pg_sub hv h1 set_list ha, fun A Qe W σ H G s v d Q P R hd q k => ?_⟩
  obtain ⟨q0, q⟩ := q
  obtain ⟨ds0, h0⟩ := Option.isSome_iff_exists.mp q0
  obtain ⟨a0, xs0, hv0, _⟩ := R.lstAt h0
  refine ⟨_, hv0, h2 A Qe W σ H G s _ _ R q fun y H1 G1 e s1 R1 g1 d1 q1 => ?_⟩
  obtain ⟨ds, j, kk, e1, rfl, e2, q2⟩ := q1
  obtain ⟨a, xs, g2, g3, g4, g5, g6, g7, g8⟩ := R1.own e1
  rw [hv0] at g2
  cases g2
  cases d1
  refine ⟨_, xs, j, kk, rfl, rfl, g3, by rw [g7.length]; exact e2, k _ _ _ _ (R1.write (xs := xs) e1 hv0 (g7.set kk (hd.up g1))) g1 q2⟩
end
/-! ### assignment -/
def wAsg (wa : WE) (wg : WG) : WS := fun Qe De s => wa Qe s fun d s1 => wg d Qe s1 De.nx
def wSetF (i : Nat) (wf : WF) : WS := fun Qe De s => wf Qe s fun ds s1 => De.nx ⟨s1.env.set i (.own ds), s1.n⟩
def wParVV (i j : Nat) (wa wb : WE) : WS := fun Qe De s => wa Qe s fun d s1 => wb Qe s1 fun e s2 => De.nx ⟨(s2.env.set i (.val d)).set j (.val e), s2.n⟩
def wParVF (i j : Nat) (wa : WE) (wf : WF) : WS := fun Qe De s => wa Qe s fun d s1 => wf Qe s1 fun es s2 => De.nx ⟨(s2.env.set i (.val d)).set j (.own es), s2.n⟩
def wParFF (i j : Nat) (wa : WF) (wf : WF) : WS := fun Qe De s => wa Qe s fun ds s1 => wf Qe s1 fun es s2 => De.nx ⟨(s2.env.set i (.own ds)).set j (.own es), s2.n⟩
section
variable {X : Cx} {E : XK} {tg a b : Expr} {wa wb : WE} {wf wf2 : WF} {wg : WG} {pos p p2 px py pt : Pos} {x y : Str} {i j : Nat}
theorem ds_asg (ha : DE X E a wa) (hg : DG X E tg wg) (hs : swapsWithSole [tg] a pos.line X.env = pure false := by rfl) (hw : swappedStores [tg] a X.env = pure none := by rfl)
    (h1 : (assignEach [tg] X.env).map (·.2) = [assign tg X.env] := by rfl) : DS X E (.Assign [tg] a pos) (wAsg wa wg) := by
  obtain ⟨t, g1, g2⟩ := ha.ex
  obtain ⟨u, g3, g4⟩ := hg.ex
  exact ⟨_, ps_asg g1 g3 hs hw h1, fun A Qe W σ H G s De Dh R eo q => g2 A Qe W σ H G s _ _ R q fun v H1 G1 d s1 R1 e1 d1 q1 => g4 A Qe W σ H1 G1 s1 _ _ _ _ R1 d1 q1 fun σ' H' G' s' R' _ q' => eo.nx _ _ _ _ R' q'⟩
theorem ds_set (hN : X.N.Nodup) (hi : X.N[i]? = some x) (hx : Loc X.env.scope x) (ha : DE X E a wa) (hs : swapsWith a (some (.Name x p)) pos.line X.env = pure false := by rfl) (hf : X.fn x = true ∨ X.env.scope.names.lookup x = some .local := by first | exact .inl rfl | exact .inr rfl | assumption) :
    DS X E (.Assign [.Name x p] a pos) (wAsg wa (wgName i)) := by
  obtain ⟨t, g1, g2⟩ := ha.ex
  exact ⟨_, ps_set hN hi hx g1 hs hf, fun A Qe W σ H G s De Dh R eo q => g2 A Qe W σ H G s _ _ R q fun v H1 G1 d s1 R1 e1 d1 q1 => eo.nx _ _ _ _ (R1.setV d1) q1⟩
theorem ds_setF (hN : X.N.Nodup) (hi : X.N[i]? = some x) (hx : Loc X.env.scope x) (ha : DF X E a wf) (hs : swapsWith a (some (.Name x p)) pos.line X.env = pure false := by rfl) (hf : X.fn x = true ∨ X.env.scope.names.lookup x = some .local := by first | exact .inl rfl | exact .inr rfl | assumption) :
    DS X E (.Assign [.Name x p] a pos) (wSetF i wf) := by
  obtain ⟨t, g1, g2⟩ := ha.ex
  exact ⟨_, ps_set hN hi hx g1 hs hf, fun A Qe W σ H G s De Dh R eo q => g2 A Qe W σ H G s _ _ R q fun v H1 G1 d s1 R1 e1 d1 q1 => eo.nx _ _ _ _ (R1.takeO d1) q1⟩
theorem ds_parVV {kt k2 pt2} (hc : X.calm = true) (hN : X.N.Nodup) (hi : X.N[i]? = some x) (hj : X.N[j]? = some y) (hij : i ≠ j) (hx : X.env.scope.names.lookup x = some .local) (hy : X.env.scope.names.lookup y = some .local) (ha : DE X E a wa) (hb : DE X E b wb)
    (hw : swappedStores [.Tuple [.Name x px, .Name y py] kt pt] (.Tuple [a, b] k2 pt2) X.env = pure (some [x, y]) := by rfl) (hs : swapsWithSole [.Tuple [.Name x px, .Name y py] kt pt] (.Tuple [a, b] k2 pt2) pos.line X.env = pure false := by rfl)
    (h1 : starEach [a, b] X.env = (false, eval a X.env) :: starEach [b] X.env := by rfl) (h2 : starEach [b] X.env = (false, eval b X.env) :: starEach [] X.env := by rfl) :
    DS X E (.Assign [.Tuple [.Name x px, .Name y py] kt pt] (.Tuple [a, b] k2 pt2) pos) (wParVV i j wa wb) := by
  obtain ⟨ta, g1, g2⟩ := ha.ex
  obtain ⟨tb, g3, g4⟩ := hb.ex
  exact ⟨_, ps_par hc hN hi hj hij hx hy (pa_cons g1 (pa_cons g3 pa_nil h2) h1) hw hs, fun A Qe W σ H G s De Dh R eo q => g2 A Qe W σ H G s _ _ R q fun v H1 G1 d s1 R1 e1 d1 q1 =>
    g4 A Qe W σ H1 G1 s1 _ _ R1 q1 fun u H2 G2 e s2 R2 e2 d2 q2 => ⟨v, u, rfl, eo.nx _ _ _ _ ((R2.setV (d1.up e2)).setV d2) q2⟩⟩
theorem ds_parVF {kt k2 pt2} (hc : X.calm = true) (hN : X.N.Nodup) (hi : X.N[i]? = some x) (hj : X.N[j]? = some y) (hij : i ≠ j) (hx : X.env.scope.names.lookup x = some .local) (hy : X.env.scope.names.lookup y = some .local) (ha : DE X E a wa) (hb : DF X E b wf)
    (hw : swappedStores [.Tuple [.Name x px, .Name y py] kt pt] (.Tuple [a, b] k2 pt2) X.env = pure (some [x, y]) := by rfl) (hs : swapsWithSole [.Tuple [.Name x px, .Name y py] kt pt] (.Tuple [a, b] k2 pt2) pos.line X.env = pure false := by rfl)
    (h1 : starEach [a, b] X.env = (false, eval a X.env) :: starEach [b] X.env := by rfl) (h2 : starEach [b] X.env = (false, eval b X.env) :: starEach [] X.env := by rfl) :
    DS X E (.Assign [.Tuple [.Name x px, .Name y py] kt pt] (.Tuple [a, b] k2 pt2) pos) (wParVF i j wa wf) := by
  obtain ⟨ta, g1, g2⟩ := ha.ex
  obtain ⟨tb, g3, g4⟩ := hb.ex
  exact ⟨_, ps_par hc hN hi hj hij hx hy (pa_cons g1 (pa_cons g3 pa_nil h2) h1) hw hs, fun A Qe W σ H G s De Dh R eo q => g2 A Qe W σ H G s _ _ R q fun v H1 G1 d s1 R1 e1 d1 q1 =>
    g4 A Qe W σ H1 G1 s1 _ _ R1 q1 fun u H2 G2 e s2 R2 e2 o2 q2 => ⟨v, _, rfl, eo.nx _ _ _ _ ((R2.setV (d1.up e2)).takeO (o2.set fun es z => nomatch z)) q2⟩⟩
theorem ds_parFF {kt k2 pt2} (hc : X.calm = true) (hN : X.N.Nodup) (hi : X.N[i]? = some x) (hj : X.N[j]? = some y) (hij : i ≠ j) (hx : X.env.scope.names.lookup x = some .local) (hy : X.env.scope.names.lookup y = some .local) (ha : DF X E a wf) (hb : DF X E b wf2)
    (hw : swappedStores [.Tuple [.Name x px, .Name y py] kt pt] (.Tuple [a, b] k2 pt2) X.env = pure (some [x, y]) := by rfl) (hs : swapsWithSole [.Tuple [.Name x px, .Name y py] kt pt] (.Tuple [a, b] k2 pt2) pos.line X.env = pure false := by rfl)
    (h1 : starEach [a, b] X.env = (false, eval a X.env) :: starEach [b] X.env := by rfl) (h2 : starEach [b] X.env = (false, eval b X.env) :: starEach [] X.env := by rfl) :
    DS X E (.Assign [.Tuple [.Name x px, .Name y py] kt pt] (.Tuple [a, b] k2 pt2) pos) (wParFF i j wf wf2) := by
  obtain ⟨ta, g1, g2⟩ := ha.ex
  obtain ⟨tb, g3, g4⟩ := hb.ex
  refine ⟨_, ps_par hc hN hi hj hij hx hy (pa_cons g1 (pa_cons g3 pa_nil h2) h1) hw hs, fun A Qe W σ H G s De Dh R eo q => g2 A Qe W σ H G s _ _ R q fun a1 H1 G1 d s1 R1 e1 o1 q1 => ?_⟩
  obtain ⟨xs, hx1, hd1⟩ := o1.ex
  refine g4 (hold A a1 xs) Qe ⟨W.er, W.tb⟩ σ H1 G1 s1 _ _ (R1.hold o1 hx1) q1 fun a2 H2 G2 e s2 R2 e2 o2 q2 => ⟨_, _, rfl, ?_⟩
  have n12 : a1 ≠ a2 := fun z => o2.t xs (by rw [z]; exact List.mem_cons_self)
  obtain ⟨R3, o3, _⟩ := R2.unhold (hd1.up e2)
  have o2' : Own1 X.K A σ H2 G2 s2 a2 e := ⟨o2.ex, o2.g, o2.p, o2.h, o2.o, fun ys z => o2.t ys (List.mem_cons_of_mem _ z), o2.s⟩
  exact eo.nx _ _ _ _ ((R3.takeO o3).takeO (o2'.set2 n12)) q2
end
/-! ### return, if, expressions -/
def wRet (wa : WE) : WS := fun Qe De s => wa Qe s fun d s1 => De.rt d s1.n
def wRetN : WS := fun _ De s => De.rt .non s.n
def wIfS (wc : WT) (w1 w2 : WS) : WS := fun Qe De s => wc Qe s fun b s1 => if b = true then w1 Qe De s1 else w2 Qe De s1
def wDrop (wa : WE) : WS := fun Qe De s => wa Qe s fun _ s1 => De.nx s1
section
variable {X : Cx} {E : XK} {e a b : Expr} {sa sb : List Stmt} {wa wb : WE} {wc : WT} {w1 w2 : WS} {pos : Pos}
theorem ds_ret (ha : DE X E a wa) : DS X E (.Return (some a) pos) (wRet wa) := by
  obtain ⟨t, g1, g2⟩ := ha.ex
  exact ⟨_, ps_ret g1, fun A Qe W σ H G s De Dh R eo q => g2 A Qe W σ H G s _ _ R q fun v H1 G1 d s1 R1 e1 d1 q1 => eo.rt _ _ _ _ _ _ R1 d1 q1⟩
theorem ds_retN : DS X E (.Return none pos) wRetN := ⟨_, ps_retN, fun A Qe W σ H G s De Dh R eo q => eo.rt _ _ _ _ _ _ R .non q⟩
theorem ds_if {c : Expr} (hc : DT X E c wc) (ha : DSs X E sa w1) (hb : DSs X E sb w2) : DS X E (.If c sa sb pos) (wIfS wc w1 w2) := by
  obtain ⟨t, g1, g2⟩ := hc.ex
  obtain ⟨ta, g3, g4⟩ := ha.ex
  obtain ⟨tb, g5, g6⟩ := hb.ex
  refine ⟨_, ps_if g1 g3 g5, fun A Qe W σ H G s De Dh R eo q => g2 A Qe W σ H G s _ _ R q fun b H1 G1 s1 R1 e1 q1 => ?_⟩
  cases b with
  | true => exact g4 A Qe W σ H1 G1 s1 De Dh R1 eo q1
  | false => exact g6 A Qe W σ H1 G1 s1 De Dh R1 eo q1
theorem ds_expr (ha : DE X E a wa) (hs : swapsWith a none pos.line X.env = pure false := by rfl) : DS X E (.Expr a pos) (wDrop wa) := by
  obtain ⟨t, g1, g2⟩ := ha.ex
  exact ⟨_, ps_expr g1 hs, fun A Qe W σ H G s De Dh R eo q => g2 A Qe W σ H G s _ _ R q fun v H1 G1 d s1 R1 e1 d1 q1 => eo.nx _ _ _ _ R1 q1⟩
theorem ds_break : DS X E (.Break pos) fun _ De s => De.bk s := ⟨_, ps_break, fun A Qe W σ H G s De Dh R eo q => eo.bk _ _ _ _ R q⟩
theorem ds_cont : DS X E (.Continue pos) fun _ De s => De.ct s := ⟨_, ps_continue, fun A Qe W σ H G s De Dh R eo q => eo.ct _ _ _ _ R q⟩
end
/-! ### methods of a list of one's own -/
def wAppend (i : Nat) (wa : WE) : WE := fun Qe s Q => (lstAt s i).isSome = true ∧ wa Qe s fun d s1 => ∃ ds, s1.env[i]? = some (.own ds) ∧ ds.length < 100000 ∧ Q .non ⟨s1.env.set i (.own (ds ++ [d])), s1.n⟩
def wExtend (i : Nat) (wa : WE) : WE := fun Qe s Q => (lstAt s i).isSome = true ∧ wa Qe s fun d s1 => ∃ ds es, s1.env[i]? = some (.own ds) ∧ (d = .lst es ∨ d = .tup es) ∧ ds.length + es.length ≤ 100000 ∧ Q .non ⟨s1.env.set i (.own (ds ++ es)), s1.n⟩
def wPop (i : Nat) : WE := fun Qe s Q => ∃ ds d, s.env[i]? = some (.own (ds ++ [d])) ∧ Q d ⟨s.env.set i (.own ds), s.n⟩
section
variable {X : Cx}
theorem ext_tup (l : Addr) (items : Array Value) (n : Nat) (b : Addr) (items2 : Array Value) (n2 : Nat) (o2 : Obj) (hc : o2.cls = .type "tuple") (hd : o2.data = .seq items2 n2) (h0 : ¬(!items.isEmpty && Builtin.List.listTooLong (items.size + items2.size)) = true) (h1 : items.size ≤ sizeLine) (h2 : items.size + items2.size ≤ sizeLine + 1) :
    Meets (Builtin.«list.extend» ⟨[.ref l, .ref b], []⟩) (fun _ R s => s.heap.get? l = some { cls := .type "list", dict := none, data := .seq items n, slots := #[] } ∧ s.heap.get? b = some o2 ∧
      R (.ok (.ret Value.none)) { s with heap := s.heap.update l (Obj.mapSeq fun x => x ++ items2), toks := s.toks }) := by
  obtain ⟨cls, dd, data, sl⟩ := o2
  have hc : cls = .type "tuple" := hc
  have hd : data = .seq items2 n2 := hd
  subst hc
  subst hd
  refine .of_wp fun prog w A R s h => ?_
  obtain ⟨hp, g, d, tk, os⟩ := s
  obtain ⟨hl, hb, h⟩ := h
  have f1 := PySem.AutoSeq1.idx_int
  have f2 := PySem.AutoSeq1.sub_tuple_tuple
  have f3 := PySem.AutoSeq1.sub_list_list
  have f4 := PySem.AutoSeq1.sub_tuple_list
  have f5 := PySem.AutoSeq1.sub_list_tuple
  have hz' : (items ++ items2).size ≤ sizeLine + 1 := by
    rw [Array.size_append]
    exact h2
  wp_walk using (PySem.wpAny_updateSeq hl rfl (hz := h1) (_hz' := hz')), PySem.AutoSeq1.wpAny_loadPart' hl, PySem.AutoSeq1.wpAny_loadPart' hb
  exact ⟨_, rfl, h⟩
def rExtU (K : PySem.W.Frag) : V → List V → Hp → VK → Prop := fun x vs H Q => rExtend x vs H Q ∨ ∃ l b xs zs, x = .ref l ∧ vs = [.ref b] ∧ H l = some (.lst xs) ∧ SqT K H b zs ∧ xs.length + zs.length ≤ sizeLine ∧ Q .non (upd H l (.lst (xs ++ zs)))
theorem mt_extU : MtR X "list.extend" (rExtU X.K) := by
  intro pins s σ H x vs v us Q I rx rv h
  rcases h with h | h
  · exact mt_extend pins s σ H x vs v us Q I rx rv h
  · obtain ⟨l, b, xs, zs, rfl, rfl, hH, hB, hz, q⟩ := h
    cases rx
    obtain ⟨u, rfl, ru⟩ := rv.one
    cases ru
    obtain ⟨z, its, n, r, hl, e⟩ := I.lstM hH
    obtain ⟨its2, r2, ⟨o2, e2, hc2, n2, hd2⟩, hz2⟩ := I.tuple hB
    have hl2 := r2.length
    have hsz : its.toArray.size + its2.toArray.size ≤ sizeLine := by simp only [List.size_toArray]; omega
    have hno : ¬ (!its.toArray.isEmpty && Builtin.List.listTooLong (its.toArray.size + its2.toArray.size)) = true := by
      rw [notLongL hsz]
      simp
    exact call_meets PySem.F.slot_list_extend ⟨_, e, rfl⟩ PySem.F.entry_list_extend (PySem.F.args_list_extend_2 _ _) (ext_tup l its.toArray n b its2.toArray n2 o2 hc2 hd2 hno (by simp only [List.size_toArray]; omega) (by simp only [List.size_toArray]; omega))
      ⟨e, e2, .non, _, I.lset (its' := its ++ its2) hH e (by simp) (r.append r2) (by rw [List.length_append]; omega), rfl, q⟩
end
end DL
set_option Elab.async false
set_option linter.all false
set_option maxRecDepth 100000
set_option maxHeartbeats 4000000
namespace DL
open PySem L2 Evl
theorem tyL {K : PySem.W.Frag} {H : Hp} {a : Addr} {xs : List V} (h : H a = some (.lst xs)) : tyV K "list" (.ref a) H := .inl ⟨rfl, xs, sq_of h⟩
section
variable {X : Cx} {E : XK} {a : Expr} {wa : WE} {pos p apos cpos : Pos} {x : Str} {i : Nat}
theorem de_append (hv : PE X (.Name x p) (tVar i)) (ha : DE X E a wa) (hbase : attributeBase (.Name x p) "append" X.env (eval (.Name x p) X.env) = eval (.Name x p) X.env := by rfl)
    (hfew : ((backTo cpos (starEach [a] X.env)).all (fun x => !x.1) && (backToKw cpos (keywordEach [] X.env)).all (fun x => x.1.isSome)
      && decide ([a].length + ([] : List Keyword).length + (if ([] : List Keyword).isEmpty then 0 else 1) < 30)) = true := by rfl)
    (hline : (apos.endLine == cpos.line) = true := by rfl) (hs : starEach [a] X.env = (false, eval a X.env) :: starEach [] X.env := by rfl) (hpl : (backTo cpos (starEach [] X.env)).any (·.1) = false := by rfl) :
    DE X E (.Call (.Attribute (.Name x p) "append" apos) [a] [] cpos) (wAppend i wa) := by
  obtain ⟨ta, h1, h2⟩ := ha.ex
  refine ⟨_, pe_bm PySem.F.plainAttrs_list PySem.F.slot_list_append PySem.F.type_list_append mt_append hv (pa_cons h1 pa_nil hs) hbase hfew hline hs hpl, fun A Qe W σ H G s Q P R q k => ?_⟩
  obtain ⟨q0, q⟩ := q
  obtain ⟨ds0, h0⟩ := Option.isSome_iff_exists.mp q0
  obtain ⟨a0, xs0, hv0, hx0, _⟩ := R.lstAt h0
  refine ⟨_, hv0, tyL hx0, h2 A Qe W σ H G s _ _ R q fun v H1 G1 d s1 R1 g1 d1 q1 => ?_⟩
  obtain ⟨ds, e1, e2, q2⟩ := q1
  obtain ⟨a1, xs, g2, g3, g4, g5, g6, g7, g8⟩ := R1.own e1
  rw [hv0] at g2
  cases g2
  exact ⟨_, xs, v, rfl, rfl, g3, sz_lt (by rw [g7.length]; exact e2), k _ _ _ _ _ (R1.write (xs := xs) e1 hv0 (g7.append (.one d1))) g1 .non q2⟩
theorem de_extend (hv : PE X (.Name x p) (tVar i)) (ha : DE X E a wa) (hbase : attributeBase (.Name x p) "extend" X.env (eval (.Name x p) X.env) = eval (.Name x p) X.env := by rfl)
    (hfew : ((backTo cpos (starEach [a] X.env)).all (fun x => !x.1) && (backToKw cpos (keywordEach [] X.env)).all (fun x => x.1.isSome)
      && decide ([a].length + ([] : List Keyword).length + (if ([] : List Keyword).isEmpty then 0 else 1) < 30)) = true := by rfl)
    (hline : (apos.endLine == cpos.line) = true := by rfl) (hs : starEach [a] X.env = (false, eval a X.env) :: starEach [] X.env := by rfl) (hpl : (backTo cpos (starEach [] X.env)).any (·.1) = false := by rfl) :
    DE X E (.Call (.Attribute (.Name x p) "extend" apos) [a] [] cpos) (wExtend i wa) := by
  obtain ⟨ta, h1, h2⟩ := ha.ex
  refine ⟨_, pe_bm PySem.F.plainAttrs_list PySem.F.slot_list_extend PySem.F.type_list_extend mt_extU hv (pa_cons h1 pa_nil hs) hbase hfew hline hs hpl, fun A Qe W σ H G s Q P R q k => ?_⟩
  obtain ⟨q0, q⟩ := q
  obtain ⟨ds0, h0⟩ := Option.isSome_iff_exists.mp q0
  obtain ⟨a0, xs0, hv0, hx0, _⟩ := R.lstAt h0
  refine ⟨_, hv0, tyL hx0, h2 A Qe W σ H G s _ _ R q fun v H1 G1 d s1 R1 g1 d1 q1 => ?_⟩
  obtain ⟨ds, es, e1, e2, e3, q2⟩ := q1
  obtain ⟨a1, xs, g2, g3, g4, g5, g6, g7, g8⟩ := R1.own e1
  rw [hv0] at g2
  cases g2
  rcases e2 with rfl | rfl
  · cases d1 with
    | lst hx hxa => exact .inl ⟨_, _, xs, _, rfl, rfl, g3, R1.an.e _ _ hx, sz_of (by rw [g7.length, hxa.length]; exact e3), k _ _ _ _ _ (R1.write (xs := xs) e1 hv0 (g7.append hxa)) g1 .non q2⟩
  · cases d1 with
    | tup hx hxa => exact .inr ⟨_, _, xs, _, rfl, rfl, g3, ex_t R1.an.e hx, sz_of (by rw [g7.length, hxa.length]; exact e3), k _ _ _ _ _ (R1.write (xs := xs) e1 hv0 (g7.append hxa)) g1 .non q2⟩
theorem snoc_of {K : PySem.W.Frag} {pen : Addr} {G : Hp} {xs : List V} {ds : List D} {d : D} (h : DxAll K pen G xs (ds ++ [d])) : ∃ v, xs[xs.length - 1]? = some v ∧ Dx K pen G v d ∧ DxAll K pen G xs.dropLast ds := by
  have hl := h.length
  have q : (ds ++ [d])[xs.length - 1]? = some d := by
    rw [hl]
    simp
  obtain ⟨v, h1, h2⟩ := h.get q
  refine ⟨v, h1, h2, ?_⟩
  have z := h.dropLast
  rw [List.dropLast_concat] at z
  exact z
theorem de_pop (hv : PE X (.Name x p) (tVar i)) (hbase : attributeBase (.Name x p) "pop" X.env (eval (.Name x p) X.env) = eval (.Name x p) X.env := by rfl) (hline : (apos.endLine == cpos.line) = true := by rfl) :
    DE X E (.Call (.Attribute (.Name x p) "pop" apos) [] [] cpos) (wPop i) := by
  refine ⟨_, pe_bm0 PySem.F.plainAttrs_list PySem.F.slot_list_pop PySem.F.type_list_pop mt_pop hv hbase hline, fun A Qe W σ H G s Q P R q k => ?_⟩
  obtain ⟨ds, d, e1, q2⟩ := q
  obtain ⟨a1, xs, g2, g3, g4, g5, g6, g7, g8⟩ := R.own e1
  obtain ⟨v, u1, u2, u3⟩ := snoc_of g7
  exact ⟨_, g2, tyL g3, _, xs, v, rfl, rfl, g3, u1, k _ _ _ _ _ (R.write (xs := xs) e1 g2 u3) (Ex.refl _) u2 q2⟩
end
/-! ### defs: contracts by data -/
abbrev DSp := List D → M → (D → M → Prop) → WQ → Prop
/-- a contract by data as a promise of the hand layer -/
def spD (K : PySem.W.Frag) (sp : DSp) : Sp := fun vs H Q E => ∃ (pen : Addr) (G : Hp) (n : M) (ds : List D) (Qd : D → M → Prop) (Qe : WQ), Ex G H ∧ PenG K pen n G H ∧ DxAll K pen G vs ds ∧ sp ds n Qd Qe ∧
  (∀ v H' G' d (n' : M), Grow pen n.st H G n'.st H' G' → PenG K pen n' G' H' → Dx K pen G' v d → Qd d n' → Q v H') ∧ Wish K ⟨pen, n.st, H, G, [], [], (0, 0, 0)⟩ E Qe
def wCall (sp : DSp) (wr : WA) : WE := fun Qe s Q => wr Qe s fun ds s1 => sp ds s1.n (fun d n' => Q d ⟨s1.env, n'⟩) Qe.only
theorem Wish.at {K : PySem.W.Frag} {A : An} {E : XK} {Qe : WQ} {σ : L2.St} {H G : Hp} {s : S} (W : Wish K A E Qe) (R : Rel K A σ H G s) : Wish K ⟨A.pen, s.n.st, H, G, [], [], (0, 0, 0)⟩ E Qe.only :=
  ⟨fun C fs n' dx H' G' vfs g p h1 h2 q => W.er C fs n' dx H' G' vfs (R.an.trans g) p h1 h2 q, .inl rfl⟩
theorem simE_call {K : PySem.W.Frag} {E : XK} {sp : DSp} {t : TA} {wr : WA} (h : SimA K E t wr) : SimE K E (tCall (spD K sp) [] E t) (wCall sp wr) := fun A Qe W σ H G s Q P R q k =>
  h A Qe W σ H G s _ _ R q fun vs H1 G1 ds s1 R1 g1 d1 q1 => by
    rw [List.append_nil]
    exact ⟨A.pen, G1, s1.n, ds, _, Qe.only, R1.an.e, R1.pn, d1, q1, fun v H' G' d n' g p dd q2 => k _ _ _ _ _ (R1.grow g p) (g1.trans g.g) dd q2, W.at R1⟩
section
variable {X : Cx} {E : XK} {CX : CXT} {k : Nat} {f : Addr} {fd : FuncData} {ps : List Str} {sp : DSp} {x : Str} {p pos : Pos} {e : Expr} {es : List Expr} {wr : WA}
theorem de_call (F : FnOk X.prog X.w X.K X.mg X.base CX k f fd ps (spD X.K sp)) (hr : Room k X.A) (hg : Gl X x) (hm : X.mg x = some (.ref f)) (hk : PySem.W.keepIn X.K (.ref f) = true) (hb : Binds X.K fd ps []) (hx : Passes CX X E)
    (ha : DA X E (e :: es) wr) (hdb : (x == ("__debug__" : Str)) = false := by decide) (he : starEach (e :: es) X.env = (false, eval e X.env) :: starEach es X.env := by rfl) (hpl : (backTo pos (starEach es X.env)).any (·.1) = false := by rfl) :
    DE X E (.Call (.Name x p) (e :: es) [] pos) (wCall sp wr) := by
  obtain ⟨t, h1, h2⟩ := ha.ex
  exact ⟨_, pe_call F hr hg hm hk hb .nil hx h1 hdb he hpl, simE_call h2⟩
end
/-- a def that may be called, by data -/
structure CalF (P : Program) (w : World) (K : PySem.W.Frag) (mg : Str → Option Value) (base : Heap) (k : Nat) (x : Str) (ps : List Str) (sp : DSp) : Prop where
  ex : ∃ (f : Addr) (fd : FuncData), FnOk P w K mg base (L2.CX P w) k f fd ps (spD K sp) ∧ mg x = some (.ref f) ∧ PySem.W.keepIn K (.ref f) = true ∧ Binds K fd ps []
def env0 (N : List Str) (ds : List D) : List Cell := ds.map Cell.val ++ List.replicate (N.length - ds.length) .unb
theorem rel_start {K : PySem.W.Frag} {pen : Addr} {H G : Hp} {n : M} {vs : List V} {ds : List D} {N : List Str} (e : Ex G H) (p : PenG K pen n G H) (d : DxAll K pen G vs ds) : Rel K ⟨pen, n.st, H, G, [], [], (0, 0, 0)⟩ (L2.start N vs) H G ⟨env0 N ds, n⟩ := by
  have hl := d.length
  have un : ∀ (i : Nat) (c : Cell), (env0 N ds)[i]? = some c → SlotOk K ⟨pen, n.st, H, G, [], [], (0, 0, 0)⟩ n.st H G ((L2.start N vs)[i]?) c ∧ (∀ es, c ≠ .own es) ∧ ∀ C ns es, c ≠ .new C ns es := fun i c h => by
    unfold env0 at h
    by_cases z : i < ds.length
    · rw [List.getElem?_append_left (by simpa using z), List.getElem?_map] at h
      cases hd : ds[i]? with
      | none => rw [hd] at h; cases h
      | some d1 =>
        rw [hd] at h
        cases h
        obtain ⟨v, h1, h2⟩ := d.get hd
        refine ⟨?_, (fun es z => nomatch z), fun _ _ _ z => nomatch z⟩
        unfold L2.start
        rw [List.getElem?_append_left (by simpa [hl] using z), List.getElem?_map, h1]
        exact .val h2
    · rw [List.getElem?_append_right (by simpa using Nat.not_lt.mp z), List.getElem?_replicate] at h
      split at h
      · cases h
        exact ⟨.unb, (fun es z => nomatch z), fun _ _ _ z => nomatch z⟩
      · cases h
  refine ⟨Grow.refl e p.none p.noT, p, ?_, fun i c h => (un i c h).1, fun i j ds' es a _ h1 _ _ _ => ((un i _ h1).2.1 _ rfl).elim, .nil, (fun a xs h => nomatch h), (fun p hp => nomatch hp), (fun z => (z rfl).elim), fun i C ns ds h => ((un i _ h).2.2 _ _ _ rfl).elim⟩
  show (env0 N ds).length = (L2.start N vs).length
  unfold env0 L2.start
  simp [hl]
section
variable {P : Program} {w : World} {K : PySem.W.Frag} {mg : Str → Option Value} {base : Heap}
/-- THE RULE by data: a def keeps its contract if its body's reading does -/
theorem okD {x qual : Str} {st : Stmt} {f : Addr} {fd : FuncData} {N ps : List Str} {k : Nat} {sp : DSp} (F : Fun K x qual st f fd) (S : FnScope N ps (defScope st)) (len : ∀ ds n Qd Qe, sp ds n Qd Qe → ds.length = ps.length)
    (hbody : ∀ (cdv : Value) (A : Around) (outer : List Env) (s : Shared) (H : Hp) (E : XK), Room k (A.deeper (PyProof.Rows.envOfC qual (defScope st) s.heap.objs.size f cdv)) →
      ∃ wb, DSs (cxOf (L2.CX P w) P w K mg base N qual (defScope st) f cdv A outer s H E) E (defBody st) wb ∧
        ∀ ds n Qd Qe, sp ds n Qd Qe → wb Qe ⟨fun s1 => Qd .non s1.n, Qd, fun _ => False, fun _ => False⟩ ⟨env0 N ds, n⟩) : FnOk P w K mg base (L2.CX P w) (k + 1) f fd ps (spD K sp) := by
  refine F.okX S (fun vs H Q E h => ?_) (fun cdv A outer s H vs Q E hr h => ?_)
  · obtain ⟨pen, G, n, ds, Qd, Qe, h1, h2, h3, h4, _⟩ := h
    rw [h3.length]
    exact len _ _ _ _ h4
  · obtain ⟨pen, G, n, ds, Qd, Qe, h1, h2, h3, h4, h5, h6⟩ := h
    obtain ⟨wb, hb, hw⟩ := hbody cdv A outer s H E hr
    obtain ⟨t, g1, g2⟩ := hb.ex
    refine ⟨t, g1, g2 ⟨pen, n.st, H, G, [], [], (0, 0, 0)⟩ Qe h6 _ H G ⟨env0 N ds, n⟩ ⟨fun s1 => Qd .non s1.n, Qd, fun _ => False, fun _ => False⟩ _ (rel_start h1 h2 h3) ⟨fun σ' H' G' s' R' q' => h5 _ _ _ _ _ R'.an R'.pn .non q', fun σ' H' G' s' v d R' dd q' => h5 _ _ _ _ _ R'.an R'.pn dd q', fun _ _ _ _ _ z => False.elim z, fun _ _ _ _ _ z => False.elim z⟩ (hw ds n Qd Qe h4)⟩
end
/-- within a def that may raise: what it calls may raise -/
theorem passX {X : Cx} {E : XK} (hs : X.stack = X.env :: X.outer) (hf : X.env.frame = some X.env.locals) (hex : X.ex = []) {E₁ : Value → Shared → Prop}
    (hx : X.xe = fun e s' => wpAny (model X.prog X.w) X.A (leaving X.env e) (fun _ s'' => CX X.prog X.w X.outer X.H_0 X.s_0 E e s'') E₁ s') : Passes (L2.CX X.prog X.w) X E :=
  passes_call (E := E) (takes_of hs hf hex hx) fun _ _ _ _ h => h
/-! ### attributes of objects -/
def wFld (C : Addr) (f : Str) (wa : WE) : WE := fun Qe s Q => wa Qe s fun d s1 => match d with
  | .obj C' ns ds => C' = C ∧ ∃ z, (ns.zip ds).lookup f = some z ∧ Q z s1
  | _ => False
theorem look_of {K : PySem.W.Frag} {pen : Addr} {G : Hp} {f : Str} {z : D} : ∀ {ns : List Str} {xs : List V} {ds : List D}, DxAll K pen G xs ds → (ns.zip ds).lookup f = some z → ∃ v, (ns.zip xs).lookup f = some v ∧ Dx K pen G v z
  | [], _, _, _, h => by simp at h
  | n :: ns, _, _, .nil, h => by simp at h
  | n :: ns, _, _, .cons (v := v) h1 h2, h => by
    rw [List.zip_cons_cons, List.lookup_cons] at h ⊢
    split at h
    · cases h
      exact ⟨v, by simp [*], h1⟩
    · obtain ⟨u, e, q⟩ := look_of h2 h
      exact ⟨u, by simp [*], q⟩
section
variable {X : Cx} {E : XK} {a : Expr} {wa : WE} {pos p : Pos} {f : Str} {C : Addr}
theorem de_fld (hC : Cls X.K C) (hn : NoAttr X.K C f) (ha : DE X E a wa) (hb : attributeBase a f X.env (eval a X.env) = eval a X.env := by rfl) : DE X E (.Attribute a f pos) (wFld C f wa) := by
  obtain ⟨t, h1, h2⟩ := ha.ex
  refine ⟨_, pe_fld h1 hb, fun A Qe W σ H G s Q P R q k => h2 A Qe W σ H G s _ _ R q fun v H1 G1 d s1 R1 g1 d1 q1 => ?_⟩
  cases d with
  | obj C' ns ds =>
    obtain ⟨rfl, z, hz, q2⟩ := q1
    cases d1 with
    | obj hx hl hxa =>
      obtain ⟨u, u1, u2⟩ := look_of hxa hz
      exact ⟨_, _, _, _, u, rfl, R1.an.e _ _ hx, hC, hn, u1, k _ _ _ _ _ R1 g1 u2 q2⟩
  | _ => exact (show False from q1).elim
/-- isinstance(a, C), C a class of one's own -/
def isC (C : Addr) : D → Bool
  | .obj C' _ _ => decide (C' = C)
  | _ => false
def wIsC (C : Addr) (wa : WE) : WE := fun Qe s Q => wa Qe s fun d s1 => (d.bare = true ∨ ∃ ns ds, d = .obj C ns ds) ∧ Q (.bl (isC C d)) s1
/-- what the written part says of a class that is asked for -/
structure IsiC (K : PySem.W.Frag) (C : Addr) : Prop where
  no : KitT K (.ref C) fun _ => false
  yes : PySem.W.kitOne K (.ref C) (.ref C) = some true
  cl : Cls K C
  ha : PySem.W.findIn K (.ref C) "__class__" = some (some (.builtin "object.__class__"))
  hn : PySem.W.specialIn K (.builtin "object.__class__") "__get__" = some (some (.builtin "getset_descriptor.__get__"))
  ht : PySem.W.takesIn K (.builtin "object.__class__") = some true
  hm : PySem.W.mroIn K C (.type "object") = some true
theorem de_isC {b : Expr} (T : IsiC X.K C) (hg : Gl X "isinstance") (hm : X.mg "isinstance" = none) (hv : bootBuiltins "isinstance" = some (.builtin "isinstance")) (ha : DE X E a wa) (hT : PE X b (tC (.ref C)))
    (he : starEach [a, b] X.env = (false, eval a X.env) :: starEach [b] X.env := by rfl) (he2 : starEach [b] X.env = (false, eval b X.env) :: starEach [] X.env := by rfl) (hpl : (backTo pos (starEach [b] X.env)).any (·.1) = false := by rfl) :
    DE X E (.Call (.Name "isinstance" p) [a, b] [] pos) (wIsC C wa) := by
  obtain ⟨t, h1, h2⟩ := ha.ex
  refine ⟨_, pe_callB call_isi hg hm hv (pa_cons h1 (pa_cons hT pa_nil he2) he) (by decide) (by decide) he hpl, fun A Qe W σ H G s Q P R q k => h2 A Qe W σ H G s _ _ R q fun v H1 G1 d s1 R1 g1 d1 q1 => ?_⟩
  obtain ⟨hd, q1⟩ := q1
  have fin : ∀ t0 b0, TyX X.K H1 v t0 → PySem.W.kitOne X.K t0 (.ref C) = some b0 → isC C d = b0 → tCons t (tCons (tC (.ref C)) tNil) σ H (fun _ _ => True) → rIsi X.K [v, .ref C] H1 P := fun t0 b0 h3 h4 h5 _ => ⟨v, .ref C, t0, .ref C, b0, rfl, .own C, h3, h4, by rw [← h5]; exact k _ _ _ _ _ R1 g1 (.bl _) q1⟩
  rcases hd with hd | ⟨ns, ds, rfl⟩
  · refine ⟨v, .ref C, .type d.tyN, .ref C, false, rfl, .own C, d1.ty R1.an.e hd, T.no d hd, ?_⟩
    have e : isC C d = false := by
      cases d <;> first | rfl | cases hd
    rw [← e]
    exact k _ _ _ _ _ R1 g1 (.bl _) q1
  · cases hh : d1 with
    | obj hx hl hxa =>
      refine ⟨_, .ref C, .ref C, .ref C, true, rfl, .own C, .base (.ins (R1.an.e _ _ hx) T.cl T.ha T.hn T.ht T.hm), T.yes, ?_⟩
      have e : isC C (.obj C ns ds) = true := decide_eq_true rfl
      rw [← e]
      exact k _ _ _ _ _ R1 g1 (.bl _) q1
end
end DL
set_option Elab.async false
set_option linter.all false
set_option maxRecDepth 100000
set_option maxHeartbeats 4000000
namespace DL
open PySem L2 Evl
/-! ### one reading for all contexts -/
def tOf (K : PySem.W.Frag) (E : XK) (w : WE) : TE := fun σ H P => ∃ A Qe G s Q, Wish K A E Qe ∧ Rel K A σ H G s ∧ w Qe s Q ∧ ∀ v H' G' d s', Rel K A σ H' G' s' → Ex G G' → Dx K A.pen G' v d → Q d s' → P v H'
theorem sim_tOf (K : PySem.W.Frag) (E : XK) (w : WE) : SimE K E (tOf K E w) w := fun A Qe W σ H G s Q P R q k => ⟨A, Qe, G, s, Q, W, R, q, k⟩
theorem DE.pe {X : Cx} {E : XK} {e : Expr} {w : WE} (h : DE X E e w) : PE X e (tOf X.K E w) := by
  obtain ⟨t, h1, h2⟩ := h.ex
  refine ⟨fun pins s σ H Q I q => ?_⟩
  obtain ⟨A, Qe, G, s1, Q1, W, R, q1, k⟩ := q
  exact h1.run pins s σ H Q I (h2 A Qe W σ H G s1 Q1 Q R q1 k)
def ttOf (K : PySem.W.Frag) (E : XK) (w : WT) : TT := fun σ H P => ∃ A Qe G s Q, Wish K A E Qe ∧ Rel K A σ H G s ∧ w Qe s Q ∧ ∀ b H' G' s', Rel K A σ H' G' s' → Ex G G' → Q b s' → P b H'
theorem sim_ttOf (K : PySem.W.Frag) (E : XK) (w : WT) : SimT K E (ttOf K E w) w := fun A Qe W σ H G s Q P R q k => ⟨A, Qe, G, s, Q, W, R, q, k⟩
theorem DT.pt {X : Cx} {E : XK} {e : Expr} {w : WT} (h : DT X E e w) : PT X e (ttOf X.K E w) := by
  obtain ⟨t, h1, h2⟩ := h.ex
  refine ⟨fun pins s σ H Q I q => ?_⟩
  obtain ⟨A, Qe, G, s1, Q1, W, R, q1, k⟩ := q
  exact h1.run pins s σ H Q I (h2 A Qe W σ H G s1 Q1 Q R q1 k)
def tgOf (K : PySem.W.Frag) (E : XK) (w : WG) : TG := fun v σ H P => ∃ A Qe G s d Q, Wish K A E Qe ∧ Rel K A σ H G s ∧ Dx K A.pen G v d ∧ w d Qe s Q ∧ ∀ σ' H' G' s', Rel K A σ' H' G' s' → Ex G G' → Q s' → P σ' H'
theorem sim_tgOf (K : PySem.W.Frag) (E : XK) (w : WG) : SimG K E (tgOf K E w) w := fun A Qe W σ H G s v d Q P R hd q k => ⟨A, Qe, G, s, d, Q, W, R, hd, q, k⟩
theorem DG.pg {X : Cx} {E : XK} {e : Expr} {w : WG} (h : DG X E e w) : PG X e (tgOf X.K E w) := by
  obtain ⟨t, h1, h2⟩ := h.ex
  refine ⟨fun pins s σ H v u Q I r q => ?_⟩
  obtain ⟨A, Qe, G, s1, d, Q1, W, R, hd, q1, k⟩ := q
  exact h1.run pins s σ H v u Q I r (h2 A Qe W σ H G s1 v d Q1 Q R hd q1 k)
/-! ### what is walked -/
abbrev WI := WQ → S → (List D → S → Prop) → Prop
def Yl (K : PySem.W.Frag) (pen : Addr) (J : It) (G : Hp) (ds : List D) : Prop := ∀ (A : An) (σ : L2.St) (H1 G1 : Hp) (s : S) (i : Nat), A.pen = pen → Rel K A σ H1 G1 s → Ex G G1 →
  (∀ d, ds[i]? = some d → J.go i H1 ∧ ∀ x H', J.yld i H1 x H' → ∃ G', Rel K A σ H' G' s ∧ Ex G1 G' ∧ Dx K pen G' x d) ∧ (ds.length ≤ i → J.stop i H1)
theorem Yl.ex {K : PySem.W.Frag} {pen : Addr} {J : It} {G G' : Hp} {ds : List D} (h : Yl K pen J G ds) (e : Ex G G') : Yl K pen J G' ds := fun A σ H1 G1 s i hp R g => h A σ H1 G1 s i hp R (e.trans g)
def SimI (K : PySem.W.Frag) (E : XK) (t : TI) (w : WI) : Prop := ∀ (A : An) (Qe : WQ), Wish K A E Qe → ∀ (σ : L2.St) (H G : Hp) (s : S) (Q : List D → S → Prop) (P : It → Hp → Prop), Rel K A σ H G s → w Qe s Q →
  (∀ J H' G' ds s', Rel K A σ H' G' s' → Ex G G' → Yl K A.pen J G' ds → Q ds s' → P J H') → t σ H P
structure DI (X : Cx) (E : XK) (tg e : Expr) (w : WI) : Prop where
  ex : ∃ t, PI X tg e t ∧ SimI X.K E t w
/-- the items of a list or a tuple -/
def iSeq (K : PySem.W.Frag) (tl : TE) : TI := fun σ H R => tl σ H fun x H1 => (∃ a xs, x = .ref a ∧ SqL K H1 a xs ∧ R (Itl K a) H1) ∨ ∃ a xs, x = .ref a ∧ SqT K H1 a xs ∧ R (Itt K a) H1
theorem pi_seq {X : Cx} {tg l : Expr} {tl : TE} (hl : PE X l tl) : PI X tg l (iSeq X.K tl) := by
  refine ⟨fun pins s σ H R I hw => thn (hl.run pins s σ H _ I hw) fun v st ⟨x, Hn, Ist, rx, qx⟩ => ?_⟩
  have fpk : ∀ b ∈ [st.heap.objs.size], FpOk X pins Hn b := fun b hb => by
    cases List.mem_singleton.mp hb
    exact Ist.fpOk (Nat.le_refl _) (Ist.hok.fresh (Nat.le_refl _))
  rcases qx with ⟨a, xs, rfl, hs, q⟩ | ⟨a, xs, rfl, hs, q⟩
  · cases rx
    obtain ⟨its, _, pl, _⟩ := Ist.list hs
    exact wpAny_pyIter_list pl.isList ⟨st.heap.objs.size, [st.heap.objs.size], _, _, Hn, rfl, Ist.kept (t' := st.toks) (fun b o e => Heap.get?_push_of_some _ e), turn_list a _, ⟨_, Heap.get?_push_size _ rfl, rfl, rfl⟩, fpk, q⟩
  · cases rx
    obtain ⟨its, _, pt, _⟩ := Ist.tuple hs
    exact wpAny_pyIter_tuple (show st.heap.IsTuple a its.toArray from pt) ⟨st.heap.objs.size, [st.heap.objs.size], _, _, Hn, rfl, Ist.kept (t' := st.toks) (fun b o e => Heap.get?_push_of_some _ e), turn_tuple a _, ⟨_, Heap.get?_push_size _ rfl, rfl, rfl⟩, fpk, q⟩
def wSeqI (wa : WE) : WI := fun Qe s Q => wa Qe s fun d s1 => match d with
  | .lst l => Q l s1
  | .tup l => Q l s1
  | _ => False
theorem yl_list {K : PySem.W.Frag} {pen a : Addr} {G : Hp} {xs : List V} {ds : List D} (h : G a = some (.lst xs)) (hd : DxAll K pen G xs ds) : Yl K pen (Itl K a) G ds := fun A σ H1 G1 s i hp R g => by
  have hH : SqL K H1 a xs := sq_of (R.an.e _ _ (g _ _ h))
  refine ⟨fun d hi => ?_, fun hi => ⟨xs, hH, by rw [hd.length]; exact hi⟩⟩
  obtain ⟨v, h1, h2⟩ := hd.get hi
  refine ⟨⟨xs, v, hH, h1⟩, fun x H' y => ?_⟩
  obtain ⟨rfl, y⟩ := y
  have q := y xs hH
  rw [h1] at q
  cases q
  exact ⟨G1, R, Ex.refl _, h2.up g⟩
theorem yl_tup {K : PySem.W.Frag} {pen a : Addr} {G : Hp} {xs : List V} {ds : List D} (h : SqT K G a xs) (hd : DxAll K pen G xs ds) : Yl K pen (Itt K a) G ds := fun A σ H1 G1 s i hp R g => by
  have hH : SqT K H1 a xs := ex_t R.an.e (ex_t g h)
  refine ⟨fun d hi => ?_, fun hi => ⟨xs, hH, by rw [hd.length]; exact hi⟩⟩
  obtain ⟨v, h1, h2⟩ := hd.get hi
  refine ⟨⟨xs, v, hH, h1⟩, fun x H' y => ?_⟩
  obtain ⟨rfl, y⟩ := y
  have q := y xs hH
  rw [h1] at q
  cases q
  exact ⟨G1, R, Ex.refl _, h2.up g⟩
section
variable {X : Cx} {E : XK} {tg a b : Expr} {wa wb : WE} {wr : WA} {pos p tpos : Pos}
theorem di_seq (ha : DE X E a wa) : DI X E tg a (wSeqI wa) := by
  obtain ⟨t, h1, h2⟩ := ha.ex
  refine ⟨_, pi_seq h1, fun A Qe W σ H G s Q P R q k => h2 A Qe W σ H G s _ _ R q fun v H1 G1 d s1 R1 g1 d1 q1 => ?_⟩
  cases d with
  | lst l =>
    cases d1 with
    | lst hx hxa => exact .inl ⟨_, _, rfl, sq_of (R1.an.e _ _ hx), k _ _ _ _ _ R1 g1 (yl_list hx hxa) q1⟩
  | tup l =>
    cases d1 with
    | tup hx hxa => exact .inr ⟨_, _, rfl, ex_t R1.an.e hx, k _ _ _ _ _ R1 g1 (yl_tup hx hxa) q1⟩
  | _ => exact (show False from q1).elim
/-! range -/
def rng (n : Nat) : List D := (List.range n).map fun i => D.int (i : Nat)
def wRangeI (wr : WA) : WI := fun Qe s Q => wr Qe s fun ds s1 => ∃ j : Int, ds = [.int j] ∧ j < 100000 ∧ -100000 < j ∧ Q (rng j.toNat) s1
theorem yl_rng {K : PySem.W.Frag} {pen : Addr} {G : Hp} (n : Nat) : Yl K pen (Itr 0 n) G (rng n) := fun A σ H1 G1 s i hp R g => by
  unfold rng
  refine ⟨fun d hi => ?_, fun hi => (show n ≤ i by simpa using hi)⟩
  rw [List.getElem?_map] at hi
  have hlt : i < n := by
    by_cases z : i < n
    · exact z
    · rw [List.getElem?_eq_none (by simpa using Nat.not_lt.mp z)] at hi; cases hi
  rw [List.getElem?_range hlt] at hi
  cases hi
  refine ⟨hlt, fun x H' y => ?_⟩
  obtain ⟨rfl, rfl⟩ := y
  refine ⟨G1, R, Ex.refl _, ?_⟩
  rw [Int.zero_add]
  exact .int _
theorem di_range (hg : Gl X "range") (hm : X.mg "range" = none) (ha : DA X E [a] wr) (hs : starEach [a] X.env = [(false, eval a X.env)] := by rfl) : DI X E tg (.Call (.Name "range" p) [a] [] pos) (wRangeI wr) := by
  obtain ⟨t, h1, h2⟩ := ha.ex
  refine ⟨_, pi_range1 hg hm h1 hs, fun A Qe W σ H G s Q P R q k => h2 A Qe W σ H G s _ _ R q fun vs H1 G1 ds s1 R1 g1 d1 q1 => ?_⟩
  obtain ⟨j, rfl, h3, h4, q2⟩ := q1
  cases d1 with
  | cons e1 e2 =>
    cases e2
    cases e1
    exact ⟨j, rfl, by omega, by omega, k _ _ _ _ _ R1 g1 (yl_rng _) q2⟩
/-! zip, enumerate -/
def pairD : D → D → D := fun x y => .tup [x, y]
def zipD (xs ys : List D) : List D := List.zipWith pairD xs ys
theorem zip_get {xs ys : List D} {i : Nat} {d : D} (h : (zipD xs ys)[i]? = some d) : ∃ x y, xs[i]? = some x ∧ ys[i]? = some y ∧ d = .tup [x, y] := by
  unfold zipD at h
  rw [List.getElem?_zipWith] at h
  cases hx : xs[i]? with
  | none => simp [hx] at h
  | some x =>
    cases hy : ys[i]? with
    | none => simp [hx, hy] at h
    | some y =>
      simp [hx, hy] at h
      exact ⟨x, y, rfl, rfl, h.symm⟩
theorem pair_new {K : PySem.W.Frag} {A : An} {σ : L2.St} {H G : Hp} {s : S} {T : Addr} {x y : V} {d e : D} (R : Rel K A σ H G s) (hT : H T = none) (hx : Dx K A.pen G x d) (hy : Dx K A.pen G y e) :
    ∃ G', Rel K A σ (upd H T (.tup [x, y])) G' s ∧ Ex G G' ∧ Dx K A.pen G' (.ref T) (.tup [d, e]) :=
  ⟨_, R.new hT, R.gnew hT, .tup (st_of upd_same) (.cons (hx.up (R.gnew hT)) (.cons (hy.up (R.gnew hT)) .nil))⟩
theorem yl_zipL {K : PySem.W.Frag} {pen a b : Addr} {G : Hp} {xs ys : List V} {ds es : List D} (ha : G a = some (.lst xs)) (hd : DxAll K pen G xs ds) (hb : G b = some (.lst ys)) (he : DxAll K pen G ys es) : Yl K pen (Itz K a b) G (zipD ds es) := fun A σ H1 G1 s i hp R g => by
  have hA : SqL K H1 a xs := sq_of (R.an.e _ _ (g _ _ ha))
  have hB : SqL K H1 b ys := sq_of (R.an.e _ _ (g _ _ hb))
  subst hp
  refine ⟨fun d hi => ?_, fun hi => ⟨xs, ys, hA, hB, ?_⟩⟩
  · obtain ⟨d1, e1, h1, h2, rfl⟩ := zip_get hi
    obtain ⟨v, g1, g2⟩ := hd.get h1
    obtain ⟨u, g3, g4⟩ := he.get h2
    refine ⟨⟨xs, ys, v, u, hA, hB, g1, g3⟩, fun x H' y => ?_⟩
    obtain ⟨T, x1, y1, rfl, hT, rfl, z1, z2⟩ := y
    have q1 := z1 xs hA
    have q2 := z2 ys hB
    rw [g1] at q1
    rw [g3] at q2
    cases q1
    cases q2
    exact pair_new R hT (g2.up g) (g4.up g)
  · rw [hd.length, he.length]
    unfold zipD at hi
    rw [List.length_zipWith] at hi
    omega
theorem yl_zipT {K : PySem.W.Frag} {pen a b : Addr} {G : Hp} {xs ys : List V} {ds es : List D} (ha : SqT K G a xs) (hd : DxAll K pen G xs ds) (hb : SqT K G b ys) (he : DxAll K pen G ys es) : Yl K pen (RZ.ItzT K a b) G (zipD ds es) := fun A σ H1 G1 s i hp R g => by
  have hA : SqT K H1 a xs := ex_t R.an.e (ex_t g ha)
  have hB : SqT K H1 b ys := ex_t R.an.e (ex_t g hb)
  subst hp
  refine ⟨fun d hi => ?_, fun hi => ⟨xs, ys, hA, hB, ?_⟩⟩
  · obtain ⟨d1, e1, h1, h2, rfl⟩ := zip_get hi
    obtain ⟨v, g1, g2⟩ := hd.get h1
    obtain ⟨u, g3, g4⟩ := he.get h2
    refine ⟨⟨xs, ys, v, u, hA, hB, g1, g3⟩, fun x H' y => ?_⟩
    obtain ⟨T, x1, y1, rfl, hT, rfl, z1, z2⟩ := y
    have q1 := z1 xs hA
    have q2 := z2 ys hB
    rw [g1] at q1
    rw [g3] at q2
    cases q1
    cases q2
    exact pair_new R hT (g2.up g) (g4.up g)
  · rw [hd.length, he.length]
    unfold zipD at hi
    rw [List.length_zipWith] at hi
    omega
def wZipI (wr : WA) : WI := fun Qe s Q => wr Qe s fun ds s1 => match ds with
  | [.lst xs, .lst ys] => Q (zipD xs ys) s1
  | [.tup xs, .tup ys] => Q (zipD xs ys) s1
  | _ => False
theorem di_zip {elts : List Expr} {kk : Nat} (hg : Gl X "zip") (hm : X.mg "zip" = none) (ha : DA X E [a, b] wr) (hs : starEach [a, b] X.env = (false, eval a X.env) :: starEach [b] X.env := by rfl) (hpl : (backTo pos (starEach [b] X.env)).any (·.1) = false := by rfl) :
    DI X E (.Tuple elts kk tpos) (.Call (.Name "zip" p) [a, b] [] pos) (wZipI wr) := by
  obtain ⟨t, h1, h2⟩ := ha.ex
  refine ⟨_, RZ.pi_zipA hg hm h1 hs hpl, fun A Qe W σ H G s Q P R q k => h2 A Qe W σ H G s _ _ R q fun vs H1 G1 ds s1 R1 g1 d1 q1 => ?_⟩
  unfold wZipI at q1
  split at q1
  · cases d1 with
    | cons e1 e2 => cases e2 with
      | cons e2 e3 =>
        cases e3
        cases e1 with
        | lst ha hxa => cases e2 with
          | lst hb hya => exact ⟨_, _, _, _, rfl, .inl ⟨sq_of (R1.an.e _ _ ha), sq_of (R1.an.e _ _ hb), k _ _ _ _ _ R1 g1 (yl_zipL ha hxa hb hya) q1⟩⟩
  · cases d1 with
    | cons e1 e2 => cases e2 with
      | cons e2 e3 =>
        cases e3
        cases e1 with
        | tup ha hxa => cases e2 with
          | tup hb hya => exact ⟨_, _, _, _, rfl, .inr ⟨ex_t R1.an.e ha, ex_t R1.an.e hb, k _ _ _ _ _ R1 g1 (yl_zipT ha hxa hb hya) q1⟩⟩
  · exact q1.elim
end
/-! ### for, while -/
def wForL (wg : WG) (wb : WS) (Qe : WQ) (De : DEnds) : List D → S → Prop
  | [], s => De.nx s
  | d :: ds, s => wg d Qe s fun s1 => wb Qe { De with nx := fun s2 => wForL wg wb Qe De ds s2, ct := fun s2 => wForL wg wb Qe De ds s2, bk := De.nx } s1
def wFor (wi : WI) (wg : WG) (wb : WS) : WS := fun Qe De s => wi Qe s fun ds s1 => wForL wg wb Qe De ds s1
def wWhile (wc : WT) (wb : WS) : WS := fun Qe De s => ∃ I : Nat → S → Prop, (∃ m, I m s) ∧ ∀ m s, I m s → wc Qe s fun b s1 => if b = true then wb Qe { De with nx := fun s2 => ∃ m', m' < m ∧ I m' s2, ct := fun s2 => ∃ m', m' < m ∧ I m' s2, bk := De.nx } s1 else De.nx s1
/-- the anchor's frozen part, taken anew -/
def reG (A : An) (G : Hp) : An := { A with G0 := G }
section
variable {K : PySem.W.Frag} {A : An} {σ : L2.St} {H G H1 G1 : Hp} {s s1 : S} {E : XK} {Qe : WQ}
theorem grow_re {pen : Addr} {S0 S1 S2 : Sto} {H0 G0 H1 G1 H G : Hp} (g1 : Grow pen S0 H0 G0 S1 H1 G1) (g : Grow pen S0 H0 G1 S2 H G) : Grow pen S0 H0 G0 S2 H G := ⟨g.h, g1.g.trans g.g, fun a h1 h2 => (g1.n a h1 h2).elim (fun z => g.n a h1 z) .inr, g.e, g.p, g.t, g.m, g.l⟩
theorem slot_re {T : Sto} {o : Option (Option V)} {c : Cell} (h : SlotOk K A T H G o c) : SlotOk K (reG A G1) T H G o c := by
  cases h with
  | unb => exact .unb
  | val hd => exact .val hd
  | own q1 q2 q3 q4 q5 q6 => exact .own q1 q2 q3 q4 q5 q6
  | new qm q1 ql q2 q3 q4 q5 q6 => exact .new qm q1 ql q2 q3 q4 q5 q6
theorem slot_un {T : Sto} {o : Option (Option V)} {c : Cell} (h : SlotOk K (reG A G1) T H G o c) : SlotOk K A T H G o c := by
  cases h with
  | unb => exact .unb
  | val hd => exact .val hd
  | own q1 q2 q3 q4 q5 q6 => exact .own q1 q2 q3 q4 q5 q6
  | new qm q1 ql q2 q3 q4 q5 q6 => exact .new qm q1 ql q2 q3 q4 q5 q6
theorem Rel.re (R : Rel K A σ H G s) (g : Ex G1 G) (n : ∀ a, A.H0 a ≠ none → G1 a = none → G a = none ∨ A.S0 a ≠ none) : Rel K (reG A G1) σ H G s := ⟨⟨R.an.h, g, n, R.an.e, R.an.p, R.an.t, R.an.m, R.an.l⟩, R.pn, R.len, fun i c h => slot_re (R.sl i c h), R.nd, R.tn, R.tm, R.tb, R.ta, R.nn⟩
theorem Rel.un {S1 : Sto} (R : Rel K (reG A G1) σ H G s) (g1 : Grow A.pen A.S0 A.H0 A.G0 S1 H1 G1) : Rel K A σ H G s ∧ Ex G1 G ∧ ∀ a, A.H0 a ≠ none → G1 a = none → G a = none ∨ A.S0 a ≠ none := ⟨⟨grow_re g1 R.an, R.pn, R.len, fun i c h => slot_un (R.sl i c h), R.nd, R.tn, R.tm, R.tb, R.ta, R.nn⟩, R.an.g, R.an.n⟩
theorem Wish.re {S1 : Sto} (W : Wish K A E Qe) (g1 : Grow A.pen A.S0 A.H0 A.G0 S1 H1 G1) : Wish K (reG A G1) E Qe := ⟨fun C fs n' dx H' G' vfs g p h1 h2 q => W.er C fs n' dx H' G' vfs (grow_re g1 g) p h1 h2 q, W.tb⟩
end
section
variable {X : Cx} {E : XK} {tg it : Expr} {body : List Stmt} {wi : WI} {wg : WG} {wb : WS} {wc : WT} {pos : Pos}
theorem ds_for (hp : PassesOwn (model X.prog X.w) X.A X.env X.xe) (hc : X.calm = true) (hi : DI X E tg it wi) (hg : DG X E tg wg) (hb : DSs X E body wb) (hs : ∀ x, foldedSetIterable it X.env x = pure x := by intro _; rfl) : DS X E (.For tg it body [] pos) (wFor wi wg wb) := by
  obtain ⟨ti, h1, h2⟩ := hi.ex
  obtain ⟨tg', h3, h4⟩ := hg.ex
  obtain ⟨tb, h5, h6⟩ := hb.ex
  refine ⟨_, ps_for hp hc h1 h3 h5 hs, fun A Qe W σ H G s De Dh R eo q => h2 A Qe W σ H G s _ _ R q fun J H1 G1 ds s1 R1 g1 y q1 => ?_⟩
  have go1 := R1.an
  refine ⟨fun i m σ2 H2 => m = ds.length - i ∧ i ≤ ds.length ∧ ∃ G2 s2, Rel X.K (reG A G1) σ2 H2 G2 s2 ∧ wForL wg wb Qe De (ds.drop i) s2, ⟨ds.length, by simp, Nat.zero_le _, G1, s1, R1.re (Ex.refl _) (fun _ _ h => .inl h), by rw [List.drop_zero]; exact q1⟩, ?_⟩
  rintro i m σ2 H2 ⟨rfl, hi, G2, s2, R2', q2⟩
  obtain ⟨R2, g2, n2⟩ := R2'.un go1
  obtain ⟨y1, y2⟩ := y A σ2 H2 G2 s2 i rfl R2 g2
  by_cases hlt : i < ds.length
  · have hd : ds[i]? = some ds[i] := List.getElem?_eq_getElem hlt
    rw [List.drop_eq_getElem_cons hlt] at q2
    obtain ⟨go, yl⟩ := y1 _ hd
    refine .inr ⟨go, fun σ3 H3 => ∃ G3 s3, Rel X.K (reG A G1) σ3 H3 G3 s3 ∧ wForL wg wb Qe De (ds.drop (i + 1)) s3, fun σ3 H3 h => ⟨ds.length - (i + 1), by omega, rfl, hlt, h⟩, fun x H' yy => ?_⟩
    obtain ⟨G', R', g', d'⟩ := yl x H' yy
    have Rz : Rel X.K (reG A G1) σ2 H' G' s2 := R'.re (g2.trans g') fun a h1 h2 => by
      have h3 := n2 a h1 h2
      by_cases hp : a = A.pen
      · rw [hp]; exact .inl R'.pn.none
      · have h4 : A.G0 a = none := by
          cases e : A.G0 a with
          | none => rfl
          | some o => rw [go1.g _ _ e] at h2; cases h2
        exact R'.an.n a h1 h4
    refine h4 (reG A G1) Qe (W.re go1) σ2 H' G' s2 x _ _ _ Rz d' q2 fun σ3 H3 G3 s3 R3 g3 q3 => ?_
    exact h6 (reG A G1) Qe (W.re go1) σ3 H3 G3 s3 { De with nx := fun s2 => wForL wg wb Qe De (ds.drop (i + 1)) s2, ct := fun s2 => wForL wg wb Qe De (ds.drop (i + 1)) s2, bk := De.nx } _ R3
      ⟨fun σ4 H4 G4 s4 R4 q4 => ⟨G4, s4, R4, q4⟩, fun σ4 H4 G4 s4 v d R4 d4 q4 => eo.rt _ _ _ _ _ _ (R4.un go1).1 d4 q4, fun σ4 H4 G4 s4 R4 q4 => eo.nx _ _ _ _ (R4.un go1).1 q4, fun σ4 H4 G4 s4 R4 q4 => ⟨G4, s4, R4, q4⟩⟩ q3
  · have e : i = ds.length := by omega
    subst e
    rw [List.drop_length] at q2
    exact .inl ⟨y2 (Nat.le_refl _), eo.nx _ _ _ _ R2 q2⟩
theorem ds_while {c : Expr} (hp : PassesOwn (model X.prog X.w) X.A X.env X.xe) (hc : DT X E c wc) (hb : DSs X E body wb) : DS X E (.While c body [] pos) (wWhile wc wb) := by
  obtain ⟨tc, h1, h2⟩ := hc.ex
  obtain ⟨tb, h3, h4⟩ := hb.ex
  refine ⟨_, ps_while hp h1 h3, fun A Qe W σ H G s De Dh R eo q => ?_⟩
  obtain ⟨I, ⟨m0, q0⟩, hI⟩ := q
  refine ⟨fun m σ2 H2 => ∃ G2 s2, Rel X.K A σ2 H2 G2 s2 ∧ I m s2, ⟨m0, G, s, R, q0⟩, ?_⟩
  rintro m σ2 H2 ⟨G2, s2, R2, q2⟩
  refine h2 A Qe W σ2 H2 G2 s2 _ _ R2 (hI m s2 q2) fun b H3 G3 s3 R3 g3 q3 => ?_
  cases b with
  | true =>
    refine iteT ⟨fun σ4 H4 => ∃ G4 s4, Rel X.K A σ4 H4 G4 s4 ∧ ∃ m', m' < m ∧ I m' s4, ?_, ?_⟩
    · rintro σ4 H4 ⟨G4, s4, R4, m', hm, q4⟩
      exact ⟨m', hm, G4, s4, R4, q4⟩
    · exact h4 A Qe W σ2 H3 G3 s3 { De with nx := fun s2 => ∃ m', m' < m ∧ I m' s2, ct := fun s2 => ∃ m', m' < m ∧ I m' s2, bk := De.nx } _ R3
        ⟨fun σ4 H4 G4 s4 R4 q4 => ⟨G4, s4, R4, q4⟩, eo.rt, fun σ4 H4 G4 s4 R4 q4 => eo.nx _ _ _ _ R4 q4, fun σ4 H4 G4 s4 R4 q4 => ⟨G4, s4, R4, q4⟩⟩ q3
  | false => exact iteF (eo.nx _ _ _ _ R3 q3)
end
/-! ### comprehensions -/
def Qf : WQ := ⟨fun _ _ _ => False, []⟩
theorem wish0 {K : PySem.W.Frag} {A : An} : Wish K A E0 Qf := ⟨fun _ _ _ _ _ _ _ _ _ _ _ q => q.elim, .inl rfl⟩
def wipeE (env : List Cell) : List Nat → List Cell
  | [] => env
  | v :: vs => (wipeE env vs).set v .unb
def wipeS (vs : List Nat) (s : S) : S := ⟨wipeE s.env vs, s.n⟩
def wTrue : WT := fun _ s Q => Q true s
def wLcL (vs : List Nat) (wg : WG) (wt : WT) (we : WE) (Q : List D → S → Prop) : List D → List D → S → Prop
  | [], acc, s => Q acc (wipeS vs s)
  | d :: ds, acc, s => acc.length < 100000 ∧ wg d Qf (wipeS vs s) fun s1 => wt Qf s1 fun b s2 => if b = true then we Qf s2 fun y s3 => wLcL vs wg wt we Q ds (acc ++ [y]) s3 else wLcL vs wg wt we Q ds acc s2
def wLc (vs : List Nat) (wi : WI) (wg : WG) (wt : WT) (we : WE) : WF := fun Qe s Q => wi Qe s fun ds s1 => wLcL vs wg wt we Q ds [] s1
section
variable {K : PySem.W.Frag} {A : An} {σ σ2 : L2.St} {H G : Hp} {s : S}
theorem wipeE_len (env : List Cell) : ∀ vs, (wipeE env vs).length = env.length
  | [] => rfl
  | v :: vs => by rw [wipeE, List.length_set, wipeE_len env vs]
theorem wipe_get {α : Type} (x : α) : ∀ (vs : List Nat) (l : List α) (i : Nat), i ∉ vs → (vs.foldr (fun v l => l.set v x) l)[i]? = l[i]?
  | [], l, i, _ => rfl
  | v :: vs, l, i, h => by
    rw [List.foldr_cons, List.getElem?_set_ne (fun z => h (by rw [z]; exact List.mem_cons_self)), wipe_get x vs l i fun z => h (List.mem_cons_of_mem _ z)]
theorem wipeE_fold (env : List Cell) : ∀ vs, wipeE env vs = vs.foldr (fun v l => l.set v Cell.unb) env
  | [] => rfl
  | v :: vs => by rw [wipeE, wipeE_fold env vs, List.foldr_cons]
theorem wipe_fold (σ : L2.St) : ∀ vs, wipe σ vs = vs.foldr (fun v l => l.set v none) σ
  | [] => rfl
  | v :: vs => by rw [wipe, wipe_fold σ vs, List.foldr_cons]
theorem wipeE_at (env : List Cell) : ∀ (vs : List Nat) (i : Nat) (c : Cell), i ∈ vs → (wipeE env vs)[i]? = some c → c = .unb
  | v :: vs, i, c, h, e => by
    rw [wipeE] at e
    by_cases z : v = i
    · subst z
      by_cases hl : v < (wipeE env vs).length
      · rw [List.getElem?_set_self hl] at e; cases e; rfl
      · rw [List.getElem?_eq_none (by rw [List.length_set]; omega)] at e; cases e
    · rw [List.getElem?_set_ne z] at e
      rcases List.mem_cons.mp h with y | y
      · exact absurd y.symm z
      · exact wipeE_at env vs i c y e
/-- the block's own names forgotten -/
theorem Rel.wipe (vs : List Nat) (R : Rel K A σ H G s) (h : L2.wipe σ2 vs = L2.wipe σ vs) : Rel K A σ2 H G (wipeS vs s) := by
  have same : ∀ i : Nat, i ∉ vs → σ2[i]? = σ[i]? := fun i hi => by
    have e := congrArg (fun l => l[i]?) h
    simp only [wipe_fold] at e
    rw [wipe_get none vs σ2 i hi, wipe_get none vs σ i hi] at e
    exact e
  have key : ∀ (i : Nat) (c : Cell), (wipeE s.env vs)[i]? = some c → c = .unb ∨ (i ∉ vs ∧ s.env[i]? = some c) := fun i c e => by
    by_cases hi : i ∈ vs
    · exact .inl (wipeE_at _ vs i c hi e)
    · rw [wipeE_fold, wipe_get _ vs _ i hi] at e
      exact .inr ⟨hi, e⟩
  refine ⟨R.an, R.pn, ?_, fun i c e => ?_, fun i j ds es a n h1 h2 h3 h4 => ?_, R.tn, fun a xs hm => ?_, R.tb, R.ta, fun i C ns ds h => by
    rcases key i _ h with z | ⟨_, z⟩
    · cases z
    · exact R.nn i C ns ds z⟩
  · show (wipeE s.env vs).length = σ2.length
    rw [wipeE_len, R.len, ← wipe_length σ vs, ← h, wipe_length]
  · rcases key i c e with rfl | ⟨hi, e2⟩
    · exact .unb
    · rw [same i hi]; exact R.sl i c e2
  · rcases key i _ h1 with z | ⟨hi, e1⟩
    · cases z
    rcases key j _ h2 with z | ⟨hj, e2⟩
    · cases z
    rw [same i hi] at h3
    rw [same j hj] at h4
    exact R.nd i j ds es a n e1 e2 h3 h4
  · obtain ⟨q1, q2, q3, q4, q5, q6⟩ := R.tm a xs hm
    refine ⟨q1, q2, q3, q4, fun j es hj => ?_, q6⟩
    rcases key j _ hj with z | ⟨hi, e2⟩
    · cases z
    rw [same j hi]
    exact q5 j es e2
end
end DL
set_option Elab.async false
set_option linter.all false
set_option maxRecDepth 100000
set_option maxHeartbeats 4000000
namespace DL
open PySem L2 Evl
theorem wipe_none (σ : L2.St) : ∀ (vs : List Nat) (i : Nat), i ∈ vs → (L2.wipe σ vs)[i]? = if i < σ.length then some none else none
  | v :: vs, i, h => by
    rw [L2.wipe]
    by_cases z : v = i
    · subst z
      by_cases hl : v < σ.length
      · rw [List.getElem?_set_self (by rw [wipe_length]; exact hl), if_pos hl]
      · rw [List.getElem?_eq_none (by rw [List.length_set, wipe_length]; omega), if_neg hl]
    · rw [List.getElem?_set_ne z]
      rcases List.mem_cons.mp h with y | y
      · exact absurd y.symm z
      · exact wipe_none σ vs i y
theorem wipe_out (σ : L2.St) (vs : List Nat) (i : Nat) (h : i ∉ vs) : (L2.wipe σ vs)[i]? = σ[i]? := by
  rw [wipe_fold]
  exact wipe_get none vs σ i h
theorem wipe_ext {σ σ2 : L2.St} {vs : List Nat} (hl : σ2.length = σ.length) (h : ∀ i : Nat, i ∉ vs → σ2[i]? = σ[i]?) : L2.wipe σ2 vs = L2.wipe σ vs := by
  refine List.ext_getElem? fun i => ?_
  by_cases hi : i ∈ vs
  · rw [wipe_none _ vs i hi, wipe_none _ vs i hi, hl]
  · rw [wipe_out _ vs i hi, wipe_out _ vs i hi, h i hi]
theorem wipe_set {σ : L2.St} {vs : List Nat} {i : Nat} {x : Option V} (h : i ∈ vs) : L2.wipe (σ.set i x) vs = L2.wipe σ vs :=
  wipe_ext (by simp) fun j hj => List.getElem?_set_ne fun z => hj (by rw [← z]; exact h)
theorem wipe_twice (σ : L2.St) (vs : List Nat) : L2.wipe (L2.wipe σ vs) vs = L2.wipe σ vs := wipe_ext (wipe_length σ vs) fun j hj => wipe_out σ vs j hj
/-- a block's target: it stores to the block's own names -/
def SimW (K : PySem.W.Frag) (vs : List Nat) (g : TG) (w : WG) : Prop := ∀ (A : An) (σ : L2.St) (H G : Hp) (s : S) (v : V) (d : D) (Q : S → Prop) (P : L2.St → Hp → Prop), Rel K A σ H G s → Dx K A.pen G v d → w d Qf s Q →
  (∀ σ' H' G' s', Rel K A σ' H' G' s' → Ex G G' → L2.wipe σ' vs = L2.wipe σ vs → Q s' → P σ' H') → g v σ H P
theorem simW_name (K : PySem.W.Frag) {vs : List Nat} {i : Nat} (h : i ∈ vs) : SimW K vs (gName i) (wgName i) := fun A σ H G s v d Q P R hd q k => k _ _ G _ (R.setV hd) (Ex.refl _) (wipe_set h) q
def wg2 (i j : Nat) : WG := fun d _ s Q => ∃ a b, d = .tup [a, b] ∧ Q ⟨(s.env.set i (.val a)).set j (.val b), s.n⟩
theorem simW_two (K : PySem.W.Frag) {vs : List Nat} {i j : Nat} (h : i ∈ vs) (h' : j ∈ vs) : SimW K vs (gTup K 2 (gCons (gName i) (gCons (gName j) gNil))) (wg2 i j) := fun A σ H G s v d Q P R hd q k => by
  obtain ⟨a, b, rfl, q⟩ := q
  cases hd with
  | tup hx hxa => cases hxa with
    | cons h1 hxa => cases hxa with
      | cons h2 hxa =>
        cases hxa
        exact ⟨_, _, rfl, ex_t R.an.e hx, rfl, _, _, rfl, _, _, rfl, rfl, k _ _ G _ ((R.setV h1).setV h2) (Ex.refl _) ((wipe_set h').trans (wipe_set h)) q⟩
section
variable {K : PySem.W.Frag} {A : An} {σ : L2.St} {H G : Hp} {s : S}
theorem simF_lc {E : XK} {wi : TI} {g : TG} {tt : TT} {te : TE} {vs : List Nat} {w1 : WI} {w2 : WG} {w3 : WT} {w4 : WE} (h1 : SimI K E wi w1) (h2 : SimW K vs g w2) (h3 : SimT K E0 tt w3) (h4 : SimE K E0 te w4) :
    SimF K E (tLc wi g tt te vs) (wLc vs w1 w2 w3 w4) := fun A Qe W σ H G s Q P R q k =>
  h1 A Qe W σ H G s _ _ R q fun J H1 G1 ds s1 R1 g1 y q1 Dl hD => by
    obtain ⟨R2, o2⟩ := R1.lst (xs := []) hD .nil
    have R3 := R2.hold o2 upd_same
    refine ⟨fun i m H2 => m = ds.length - i ∧ i ≤ ds.length ∧ ∃ G2 s2 σ2 xs acc, Rel K (hold A Dl xs) σ2 H2 G2 s2 ∧ L2.wipe σ2 vs = L2.wipe σ vs ∧ Ex G1 G2 ∧ DxAll K A.pen G2 xs acc ∧ wLcL vs w2 w3 w4 Q (ds.drop i) acc s2, ⟨ds.length, by simp, Nat.zero_le _, G1, s1, σ, [], [], R3, rfl, Ex.refl _, .nil, by rw [List.drop_zero]; exact q1⟩, ?_⟩
    rintro i m H2 ⟨rfl, hi, G2, s2, σ2, xs, acc, R4, hw, g2, hacc, q2⟩
    have R5 := R4.wipe (σ2 := L2.wipe σ vs) vs ((wipe_twice σ vs).trans hw.symm)
    obtain ⟨y1, y2⟩ := y (hold A Dl xs) (L2.wipe σ vs) H2 G2 _ i rfl R5 g2
    by_cases hlt : i < ds.length
    · have hd : ds[i]? = some ds[i] := List.getElem?_eq_getElem hlt
      rw [List.drop_eq_getElem_cons hlt] at q2
      obtain ⟨hal, q2⟩ := q2
      obtain ⟨go, yl⟩ := y1 _ hd
      refine .inr ⟨go, fun H3 => ∃ G3 s3 σ3 xs acc, Rel K (hold A Dl xs) σ3 H3 G3 s3 ∧ L2.wipe σ3 vs = L2.wipe σ vs ∧ Ex G1 G3 ∧ DxAll K A.pen G3 xs acc ∧ wLcL vs w2 w3 w4 Q (ds.drop (i + 1)) acc s3, fun H3 h => ⟨ds.length - (i + 1), by omega, rfl, hlt, h⟩, fun x H' yy => ?_⟩
      obtain ⟨G', R', g', d'⟩ := yl x H' yy
      refine h2 (hold A Dl xs) (L2.wipe σ vs) H' G' _ x _ _ _ R' d' q2 fun σ3 H3 G3 s3 R6 g3 hw3 q3 => ⟨hw3.trans (wipe_twice σ vs), ?_⟩
      refine h3 (hold A Dl xs) Qf wish0 σ3 H3 G3 s3 _ _ R6 q3 fun b H4 G4 s4 R7 g4 q4 => ?_
      have gg := g'.trans (g3.trans g4)
      cases b with
      | false => exact iteF ⟨G4, s4, σ3, xs, acc, R7, hw3.trans (wipe_twice σ vs), g2.trans gg, hacc.up gg, q4⟩
      | true =>
        refine iteT (h4 (hold A Dl xs) Qf wish0 σ3 H4 G4 s4 _ _ R7 q4 fun v H5 G5 d s5 R8 g5 d5 q5 => ?_)
        have hx5 := (R8.tm Dl xs List.mem_cons_self).1
        exact ⟨xs, hx5, sz_lt (by rw [hacc.length]; exact hal), G5, s5, σ3, xs ++ [v], acc ++ [d], R8.wtmp, hw3.trans (wipe_twice σ vs), g2.trans (gg.trans g5), (hacc.up (gg.trans g5)).append (.one d5), q5⟩
    · have e : i = ds.length := by omega
      subst e
      rw [List.drop_length] at q2
      refine .inl ⟨y2 (Nat.le_refl _), ?_⟩
      have R9 := R4.wipe (σ2 := σ) vs hw.symm
      obtain ⟨Ra, oa, _⟩ := R9.unhold hacc
      exact k _ _ _ _ _ Ra (g1.trans g2) oa q2
end
section
variable {X : Cx} {E : XK} {elt iter : Expr} {scope : Scope} {own : List (Str × Nat)} {pos p : Pos} {w1 : WI} {w3 : WT} {w4 : WE} {x : Str} {i j : Nat}
/-- a block's tests -/
structure DTs (X : Cx) (ifs : List Expr) (w : WT) : Prop where
  ex : ∃ t, PTs X ifs t ∧ SimT X.K E0 t w
theorem dts_nil : DTs X [] wTrue := ⟨_, pts_nil, fun A Qe W σ H G s Q P R q k => k _ _ _ _ R (Ex.refl _) q⟩
theorem dts_one {c : Expr} {w : WT} (h : DT X E0 c w) : DTs X [c] w := by
  obtain ⟨t, h1, h2⟩ := h.ex
  exact ⟨_, pts_one h1, h2⟩
theorem DTs.pts {ifs : List Expr} {w : WT} (h : DTs X ifs w) : PTs X ifs (ttOf X.K E0 w) := by
  obtain ⟨t, h1, h2⟩ := h.ex
  refine ⟨fun pins s σ H Q I q => ?_⟩
  obtain ⟨A, Qe, G, s1, Q1, W, R, q1, k⟩ := q
  exact h1.run pins s σ H Q I (h2 A Qe W σ H G s1 Q1 Q R q1 k)
/-- [e for x in l if t] -/
theorem df_lc {ifs : List Expr} (hc : X.calm = true) (hN : X.N.Nodup) (hi : DI X E (.Name x p) iter w1) (ok : BlkOk X.N X.env.scope scope own) (hm : i ∈ own.map (·.2))
    (hg : ∀ (s : Shared) (H : Hp) (C : Addr) (cl : List (Str × Addr)) (fp : List Addr), PG (X.blk s H scope (compEnvC scope cl C X.env) fp) (.Name x p) (gName i)) (ht : ∀ (s : Shared) (H : Hp) (C : Addr) (cl : List (Str × Addr)) (fp : List Addr), DTs (X.blk s H scope (compEnvC scope cl C X.env) fp) ifs w3)
    (he : ∀ (s : Shared) (H : Hp) (C : Addr) (cl : List (Str × Addr)) (fp : List Addr), DE (X.blk s H scope (compEnvC scope cl C X.env) fp) E0 elt w4) (hs : ∀ x, foldedSetIterable iter X.env x = pure x := by intro _; rfl) :
    DF X E (.ListComp elt [⟨.Name x p, iter, ifs, 0⟩] scope pos) (wLc (own.map (·.2)) w1 (wgName i) w3 w4) := by
  obtain ⟨ti, h1, h2⟩ := hi.ex
  exact ⟨_, pe_lc hc hN h1 ok hg (fun s H C cl fp => (ht s H C cl fp).pts) (fun s H C cl fp => (he s H C cl fp).pe) hs, simF_lc h2 (simW_name _ hm) (sim_ttOf _ _ _) (sim_tOf _ _ _)⟩
/-- [e for x, y in l if t] -/
theorem df_lc2 {ifs : List Expr} {x y : Str} {px py pt : Pos} {kk : Nat} (hc : X.calm = true) (hN : X.N.Nodup) (hi : DI X E (.Tuple [.Name x px, .Name y py] kk pt) iter w1) (ok : BlkOk X.N X.env.scope scope own) (hm : i ∈ own.map (·.2)) (hm2 : j ∈ own.map (·.2))
    (hg : ∀ (s : Shared) (H : Hp) (C : Addr) (cl : List (Str × Addr)) (fp : List Addr), PG (X.blk s H scope (compEnvC scope cl C X.env) fp) (.Tuple [.Name x px, .Name y py] kk pt) (gTup X.K 2 (gCons (gName i) (gCons (gName j) gNil))))
    (ht : ∀ (s : Shared) (H : Hp) (C : Addr) (cl : List (Str × Addr)) (fp : List Addr), DTs (X.blk s H scope (compEnvC scope cl C X.env) fp) ifs w3)
    (he : ∀ (s : Shared) (H : Hp) (C : Addr) (cl : List (Str × Addr)) (fp : List Addr), DE (X.blk s H scope (compEnvC scope cl C X.env) fp) E0 elt w4) (hs : ∀ x, foldedSetIterable iter X.env x = pure x := by intro _; rfl) :
    DF X E (.ListComp elt [⟨.Tuple [.Name x px, .Name y py] kk pt, iter, ifs, 0⟩] scope pos) (wLc (own.map (·.2)) w1 (wg2 i j) w3 w4) := by
  obtain ⟨ti, h1, h2⟩ := hi.ex
  exact ⟨_, pe_lc hc hN h1 ok hg (fun s H C cl fp => (ht s H C cl fp).pts) (fun s H C cl fp => (he s H C cl fp).pe) hs, simF_lc h2 (simW_two _ hm hm2) (sim_ttOf _ _ _) (sim_tOf _ _ _)⟩
end
end DL
set_option Elab.async false
set_option linter.all false
set_option maxRecDepth 100000
set_option maxHeartbeats 4000000
namespace DL
open PySem L2 Evl
/-! ### name = [..] -/
section
variable {K : PySem.W.Frag} {E : XK} {te : TE} {wf : WF} {wa : WE} {i : Nat}
theorem simS_asgF (h : SimF K E te wf) : SimS K E (tAsg te (gName i)) (wSetF i wf) := fun A Qe W σ H G s De Dh R eo q => h A Qe W σ H G s _ _ R q fun v H1 G1 d s1 R1 e1 d1 q1 => eo.nx _ _ _ _ (R1.takeO d1) q1
theorem simS_asgE (h : SimE K E te wa) : SimS K E (tAsg te (gName i)) (wAsg wa (wgName i)) := fun A Qe W σ H G s De Dh R eo q => h A Qe W σ H G s _ _ R q fun v H1 G1 d s1 R1 e1 d1 q1 => eo.nx _ _ _ _ (R1.setV d1) q1
theorem simE_give (h : SimF K E te wf) : SimE K E te (wGive wf) := fun A Qe W σ H G s Q P R q k => h A Qe W σ H G s _ _ R q fun a H1 G1 ds s1 R1 g1 o1 q1 => by
  obtain ⟨G2, g2, d2, R2⟩ := o1.give R1
  exact k _ _ _ _ _ R2 (g1.trans g2) d2 q1
end
section
variable {X : Cx} {E : XK} {elt iter : Expr} {scope : Scope} {own : List (Str × Nat)} {pos spos p py : Pos} {w1 : WI} {w3 : WT} {w4 : WE} {x y : Str} {i j n : Nat} {ifs : List Expr}
theorem ps_lc1 (hc : X.calm = true) (hN : X.N.Nodup) (hy : X.N[n]? = some y) (hyl : X.env.scope.names.lookup y = some .local) (hsw : swapsWith (.ListComp elt [⟨.Name x p, iter, ifs, 0⟩] scope pos) (some (.Name y py)) spos.line X.env = pure true)
    (hi : DI X E (.Name x p) iter w1) (ok : BlkOk X.N X.env.scope scope own) (hm : i ∈ own.map (·.2))
    (hg : ∀ (s : Shared) (H : Hp) (C : Addr) (cl : List (Str × Addr)) (fp : List Addr), PG (X.blk s H scope (compEnvC scope cl C X.env) fp) (.Name x p) (gName i)) (ht : ∀ (s : Shared) (H : Hp) (C : Addr) (cl : List (Str × Addr)) (fp : List Addr), DTs (X.blk s H scope (compEnvC scope cl C X.env) fp) ifs w3)
    (he : ∀ (s : Shared) (H : Hp) (C : Addr) (cl : List (Str × Addr)) (fp : List Addr), DE (X.blk s H scope (compEnvC scope cl C X.env) fp) E0 elt w4) (hs : ∀ x, foldedSetIterable iter X.env x = pure x) :
    ∃ t, PS X (.Assign [.Name y py] (.ListComp elt [⟨.Name x p, iter, ifs, 0⟩] scope pos) spos) (tAsg t (gName n)) ∧ SimF X.K E t (wLc (own.map (·.2)) w1 (wgName i) w3 w4) := by
  obtain ⟨ti, h1, h2⟩ := hi.ex
  exact ⟨_, ps_setLc hc hN hy hyl hsw h1 ok hg (fun s H C cl fp => (ht s H C cl fp).pts) (fun s H C cl fp => (he s H C cl fp).pe) hs, simF_lc h2 (simW_name _ hm) (sim_ttOf _ _ _) (sim_tOf _ _ _)⟩
/-- name = [e for x in l if t], a list of one's own -/
theorem ds_setLcF (hc : X.calm = true) (hN : X.N.Nodup) (hy : X.N[n]? = some y) (hyl : X.env.scope.names.lookup y = some .local) (hsw : swapsWith (.ListComp elt [⟨.Name x p, iter, ifs, 0⟩] scope pos) (some (.Name y py)) spos.line X.env = pure true)
    (hi : DI X E (.Name x p) iter w1) (ok : BlkOk X.N X.env.scope scope own) (hm : i ∈ own.map (·.2))
    (hg : ∀ (s : Shared) (H : Hp) (C : Addr) (cl : List (Str × Addr)) (fp : List Addr), PG (X.blk s H scope (compEnvC scope cl C X.env) fp) (.Name x p) (gName i)) (ht : ∀ (s : Shared) (H : Hp) (C : Addr) (cl : List (Str × Addr)) (fp : List Addr), DTs (X.blk s H scope (compEnvC scope cl C X.env) fp) ifs w3)
    (he : ∀ (s : Shared) (H : Hp) (C : Addr) (cl : List (Str × Addr)) (fp : List Addr), DE (X.blk s H scope (compEnvC scope cl C X.env) fp) E0 elt w4) (hs : ∀ x, foldedSetIterable iter X.env x = pure x := by intro _; rfl) :
    DS X E (.Assign [.Name y py] (.ListComp elt [⟨.Name x p, iter, ifs, 0⟩] scope pos) spos) (wSetF n (wLc (own.map (·.2)) w1 (wgName i) w3 w4)) := by
  obtain ⟨t, g1, g2⟩ := ps_lc1 hc hN hy hyl hsw hi ok hm hg ht he hs
  exact ⟨_, g1, simS_asgF g2⟩
theorem ds_setLcV (hc : X.calm = true) (hN : X.N.Nodup) (hy : X.N[n]? = some y) (hyl : X.env.scope.names.lookup y = some .local) (hsw : swapsWith (.ListComp elt [⟨.Name x p, iter, ifs, 0⟩] scope pos) (some (.Name y py)) spos.line X.env = pure true)
    (hi : DI X E (.Name x p) iter w1) (ok : BlkOk X.N X.env.scope scope own) (hm : i ∈ own.map (·.2))
    (hg : ∀ (s : Shared) (H : Hp) (C : Addr) (cl : List (Str × Addr)) (fp : List Addr), PG (X.blk s H scope (compEnvC scope cl C X.env) fp) (.Name x p) (gName i)) (ht : ∀ (s : Shared) (H : Hp) (C : Addr) (cl : List (Str × Addr)) (fp : List Addr), DTs (X.blk s H scope (compEnvC scope cl C X.env) fp) ifs w3)
    (he : ∀ (s : Shared) (H : Hp) (C : Addr) (cl : List (Str × Addr)) (fp : List Addr), DE (X.blk s H scope (compEnvC scope cl C X.env) fp) E0 elt w4) (hs : ∀ x, foldedSetIterable iter X.env x = pure x := by intro _; rfl) :
    DS X E (.Assign [.Name y py] (.ListComp elt [⟨.Name x p, iter, ifs, 0⟩] scope pos) spos) (wAsg (wGive (wLc (own.map (·.2)) w1 (wgName i) w3 w4)) (wgName n)) := by
  obtain ⟨t, g1, g2⟩ := ps_lc1 hc hN hy hyl hsw hi ok hm hg ht he hs
  exact ⟨_, g1, simS_asgE (simE_give g2)⟩
/-! ### a new list beside [] -/
def wNilA (neg : Bool) (wa : WE) : WE := fun Qe s Q => wa Qe s fun d s1 => match d with
  | .lst ds => Q (.bl (if neg then !ds.isEmpty else ds.isEmpty)) s1
  | _ => False
variable {a : Expr} {wa : WE} {p2 : Pos}
theorem dt_neNilA (hu : X.A.units < cLine) (ha : DE X E a wa) : DT X E (.Compare a [.NotEq] [.List [] p2] pos) (wT (wNilA true wa)) := by
  obtain ⟨t, h1, h2⟩ := ha.ex
  refine ⟨_, pt_cmpR (op_neE hu) h1 (pe_lst pa_nil) (nomark _), simT_test fun A Qe W σ H G s Q P R q k => h2 A Qe W σ H G s _ _ R q fun v H1 G1 d s1 R1 g1 d1 q1 => ?_⟩
  cases d with
  | lst ds =>
    cases d1 with
    | lst hx hxa =>
      refine ⟨Nat.zero_le _, fun b hb => ⟨_, b, _, rfl, rfl, sq_of (Ex.new hb _ _ (R1.an.e _ _ hx)), sq_of upd_same, k _ _ _ _ _ (R1.temp hb) g1 (.bl _) ?_⟩⟩
      rw [nil_iff hxa]
      exact q1
  | _ => exact (show False from q1).elim
theorem dt_eqNilA (hu : X.A.units < cLine) (ha : DE X E a wa) : DT X E (.Compare a [.Eq] [.List [] p2] pos) (wT (wNilA false wa)) := by
  obtain ⟨t, h1, h2⟩ := ha.ex
  refine ⟨_, pt_cmpR (op_eqE hu) h1 (pe_lst pa_nil) (nomark _), simT_test fun A Qe W σ H G s Q P R q k => h2 A Qe W σ H G s _ _ R q fun v H1 G1 d s1 R1 g1 d1 q1 => ?_⟩
  cases d with
  | lst ds =>
    cases d1 with
    | lst hx hxa =>
      refine ⟨Nat.zero_le _, fun b hb => ⟨_, b, _, rfl, rfl, sq_of (Ex.new hb _ _ (R1.an.e _ _ hx)), sq_of upd_same, k _ _ _ _ _ (R1.temp hb) g1 (.bl _) ?_⟩⟩
      rw [nil_iff hxa]
      exact q1
  | _ => exact (show False from q1).elim
end
/-- no global of this name: the built-in one is meant -/
structure Bl (mg : Str → Option Value) : Prop where
  isi : mg "isinstance" = none
  list : mg "list" = none
  tuple : mg "tuple" = none
  str : mg "str" = none
  len : mg "len" = none
  all : mg "all" = none
  any : mg "any" = none
  sum : mg "sum" = none
  repr : mg "repr" = none
  abs : mg "abs" = none
  int : mg "int" = none
  bool : mg "bool" = none
  range : mg "range" = none
  zip : mg "zip" = none
  enum : mg "enumerate" = none
theorem bIsi : bootBuiltins "isinstance" = some (.builtin "isinstance") := by decide +kernel
theorem bLen : bootBuiltins "len" = some (.builtin "len") := by decide +kernel
theorem bSum : bootBuiltins "sum" = some (.builtin "sum") := by decide +kernel
theorem bAll : bootBuiltins "all" = some (.builtin "all") := by decide +kernel
theorem bAny : bootBuiltins "any" = some (.builtin "any") := by decide +kernel
theorem bRepr : bootBuiltins "repr" = some (.builtin "repr") := by decide +kernel
theorem bAbs : bootBuiltins "abs" = some (.builtin "abs") := by decide +kernel
theorem bInt : bootBuiltins "int" = some (.type "int") := by decide +kernel
theorem bBool : bootBuiltins "bool" = some (.type "bool") := by decide +kernel
theorem bStr : bootBuiltins "str" = some (.type "str") := by decide +kernel
theorem bList : bootBuiltins "list" = some (.type "list") := by decide +kernel
theorem bTuple : bootBuiltins "tuple" = some (.type "tuple") := by decide +kernel
theorem isT_int (d : D) : isT "int" d = (match d with | .int _ => true | .bl _ => true | _ => false) := by
  cases d with
  | non => exact (show (kitB "NoneType" "int").getD false = false by decide +kernel)
  | bl b => exact (show (kitB "bool" "int").getD false = true by decide +kernel)
  | int i => exact (show (kitB "int" "int").getD false = true by decide +kernel)
  | str x => exact (show (kitB "str" "int").getD false = false by decide +kernel)
  | lst l => exact (show (kitB "list" "int").getD false = false by decide +kernel)
  | tup l => exact (show (kitB "tuple" "int").getD false = false by decide +kernel)
  | dct _ _ => exact (show (kitB "dict" "int").getD false = false by decide +kernel)
  | pen => exact (show (kitB "list" "int").getD false = false by decide +kernel)
  | obj C ns ds => exact (show (kitB "" "int").getD false = false by decide +kernel)
  | loc a => exact (show (kitB "" "int").getD false = false by decide +kernel)
theorem isT_bool (d : D) : isT "bool" d = (match d with | .bl _ => true | _ => false) := by
  cases d with
  | non => exact (show (kitB "NoneType" "bool").getD false = false by decide +kernel)
  | bl b => exact (show (kitB "bool" "bool").getD false = true by decide +kernel)
  | int i => exact (show (kitB "int" "bool").getD false = false by decide +kernel)
  | str x => exact (show (kitB "str" "bool").getD false = false by decide +kernel)
  | lst l => exact (show (kitB "list" "bool").getD false = false by decide +kernel)
  | tup l => exact (show (kitB "tuple" "bool").getD false = false by decide +kernel)
  | dct _ _ => exact (show (kitB "dict" "bool").getD false = false by decide +kernel)
  | pen => exact (show (kitB "list" "bool").getD false = false by decide +kernel)
  | obj C ns ds => exact (show (kitB "" "bool").getD false = false by decide +kernel)
  | loc a => exact (show (kitB "" "bool").getD false = false by decide +kernel)
theorem isT_str (d : D) : isT "str" d = (match d with | .str _ => true | _ => false) := by
  cases d with
  | non => exact (show (kitB "NoneType" "str").getD false = false by decide +kernel)
  | bl b => exact (show (kitB "bool" "str").getD false = false by decide +kernel)
  | int i => exact (show (kitB "int" "str").getD false = false by decide +kernel)
  | str x => exact (show (kitB "str" "str").getD false = true by decide +kernel)
  | lst l => exact (show (kitB "list" "str").getD false = false by decide +kernel)
  | tup l => exact (show (kitB "tuple" "str").getD false = false by decide +kernel)
  | dct _ _ => exact (show (kitB "dict" "str").getD false = false by decide +kernel)
  | pen => exact (show (kitB "list" "str").getD false = false by decide +kernel)
  | obj C ns ds => exact (show (kitB "" "str").getD false = false by decide +kernel)
  | loc a => exact (show (kitB "" "str").getD false = false by decide +kernel)
theorem room65 {A : Around} {k : Nat} (r : Room k A) : A.units + 65 < cLine := by have := r.un; omega
/-- a promise that asks what is never so -/
theorem ok_never {P : Program} {w : World} {K : PySem.W.Frag} {mg : Str → Option Value} {base : Heap} {CX : CXT} {k : Nat} {f : Addr} {fd : FuncData} {ps : List Str} {sp : DSp} (h : ∀ ds n Qd Qe, ¬ sp ds n Qd Qe) : FnOk P w K mg base CX k f fd ps (spD K sp) :=
  ⟨fun vs H Q E z => by
    obtain ⟨_, _, _, _, _, _, _, _, _, z, _⟩ := z
    exact (h _ _ _ _ z).elim, fun A outer s H args us vs Q E hr he hb hv z => by
    obtain ⟨_, _, _, _, _, _, _, _, _, z, _⟩ := z
    exact (h _ _ _ _ z).elim⟩
end DL
set_option Elab.async false
set_option linter.all false
set_option maxRecDepth 100000
set_option maxHeartbeats 4000000
/-! own: super().__init__(..) in the __init__ of an own exception over ValueError, in the hand layer -/
namespace XcS
open PySem PySem.Spec PyProof.Rows PySem.W PySem.Calls L2 NdefX

/-- the call of the bound ValueError.__init__ -/
theorem mw_call {X : Cx} {pins : List (Addr × Obj)} {σ : L2.St} {H : Hp} {s : Shared} {u a C : Addr} {us : List Value} {Q : Value → Shared → Prop} {E : Value → Shared → Prop} (T : OexC X.K C) (I : Inv X pins σ H s) (e : H a = some (exo a C none))
    (hu : s.heap.get? u = some (kxs_mw "ValueError.__init__" a)) (hl : us.length ≤ sizeLine) (h : ∀ s', Inv X pins σ H s' → Q .none s') : wpAny (model X.prog X.w) X.A (call (.ref u) us) Q E s := by
  obtain ⟨nm, q, N, bs, bm, sn, sub, ab, col, dd, k0, k1, k2, k3, k5, hC, hbm⟩ := T.cls
  obtain ⟨t1, ho⟩ := exo_at I.hok e
  have hC' := I.kIn _ _ hC
  obtain ⟨hh, g, d, tk, os⟩ := s
  refine wpAny_call (codeAny_of_tree ?_)
  show wpAny _ X.A.in1 (callAny (.ref u) ⟨us, []⟩) _ _ _
  simp only [callAny]
  refine wpAny_bind (wpAny_load hu ?_)
  simp only [kxs_mw, show (Value.type "method-wrapper" == Value.type "method" || Value.type "method-wrapper" == Value.type "builtin_function_or_method" || Value.type "method-wrapper" == Value.type "method-wrapper") = true by decide, if_true]
  refine KFB.if_so (by decide) ?_
  refine wpAny_bind (check_bound_init F.excBase_ValueError.toExcCallFacts hC' ho rfl ?_)
  refine wpAny_bind (wpAny_pure (wpAny_pure ?_))
  refine ⟨plainId_quiet F.excBase_ValueError.init.plain _, codeAny_builtin F.excBase_ValueError.initEntry ?_⟩
  refine exc_init_tree (cls := .ref C) (t0 := t1) (dv := none) (c2 := .none) (c3 := .none) (b4 := .bool false) ho hl fun h' k e' t' => ?_
  have J := I.write (t' := tk) (x := a) (e := a) (o := exo a C none) (by rw [e]; exact True.intro) (.inl rfl) k ⟨_, e'⟩ (exo_ok e')
  have eu : upd H a (exo a C none) = H := by
    funext b
    by_cases hb : b = a
    · rw [hb, upd_same, e]
    · rw [upd_ne hb]
  rw [eu] at J
  exact h _ J

theorem cw_mw {M : Model} {A : Around} {E : Value → Shared → Prop} {s : Shared} {i : String} {u x : Addr} {pos : Pos} {env : Env} {e : Expr} {rest : List Expr} {Q : Value → Shared → Prop}
    (he : starEach (e :: rest) env = (false, eval e env) :: starEach rest env) (hplain : (backTo pos (starEach rest env)).any (·.1) = false)
    (h : wpAny M A (spliced (backTo pos (starEach (e :: rest) env))) (fun vs s₁ => KxsAt i u x s₁.heap ∧ wpAny M A (call (.ref u) vs) Q E s₁) E s) : wpAny M A (callWith pos (.ref u) [] (backTo pos (starEach (e :: rest) env)) []) Q E s := by
  rw [he] at h ⊢
  refine kxs_callWith (i := i) (x := x) (by show (false || (backTo pos (starEach rest env)).any (·.1)) = false; rw [hplain]; rfl) ?_
  exact evalArgs_plain h
/-- the words of the __init__ (its code object at cda, the class cell at cc) -/
abbrev sNF (name qual : Str) (params : Arguments) (body : List Stmt) (scope : Scope) (cc cda : Addr) : NF := ⟨name, qual, params, body, scope, [("__class__", cc)], cda⟩
/-- what the written part says of the __init__ that says super() -/
structure SupK (P : Program) (K : PySem.W.Frag) (mg : Str → Option Value) (qual : Str) (cc cda D : Addr) : Prop where
  cell : ∃ cl cld csl, K.lookup cc = some ⟨cl, cld, .cell (some (.ref D)), csl⟩
  code : ∃ ccl cdd vs ccs file tf, K.lookup cda = some ⟨ccl, cdd, .fields vs, ccs⟩ ∧ vs[2]? = some (.str file tf) ∧ ((P.main.file : Str) == file) = true
  cd : PySem.W.codeIn K (.ref cda) qual = true
  clsD : ∃ cdD, PySem.W.clsIn K D = some cdD
  nosup : mg "super" = none
  top : (P.main.scope.names.lookup ("super" : Str)).isSome = false
  noth : PySem.W.nsIn K PySem.cStatics "thirdparty.any" = some none
/-- what it says of the class at C that is made -/
structure SupC (K : PySem.W.Frag) (D C : Addr) : Prop where
  ox : OexC K C
  sub : PySem.W.mroIn K C (.ref D) = some true
  ini : ks_superIn K C D "__init__" = some (some (.builtin "ValueError.__init__"))
  ve : PySem.W.subIn K (.ref C) (.type "ValueError") = some true

section
variable {CX : CXT} {P : Program} {w : World} {K : PySem.W.Frag} {mg : Str → Option Value} {base : Heap} {N ps : List Str} {k : Nat} {f cc cda D : Addr} {name qual : Str} {params : Arguments} {scope : Scope} {dV kV doc pm ct oc : Value} {an od : Option Addr} {osl : Array (Option Value)} {sp : Sp}
  {e : Expr} {es : List Expr} {body : List Stmt} {p0 p1 p2 p3 p4 : Pos} {ar : Arg}
theorem fn_super (lk : K.lookup f = some ⟨oc, od, .func (ksFn name qual params (.Expr (.Call (.Attribute (.Call (.Name "super" p0) [] [] p1) "__init__" p2) (e :: es) [] p3) p4 :: body) scope dV kV doc pm an (.ref cda) ct cc), osl⟩)
    (SK : SupK P K mg qual cc cda D) (S : NScope N ps ["__class__"] scope) (len : ∀ vs H Q E, sp vs H Q E → vs.length = ps.length)
    (hp : (params.posonlyargs ++ params.args).head? = some ar) (hka : N[0]? = some ar.arg) (hps : 0 < ps.length) (hks : scope.names.lookup ("super" : Str) = some .globalImplicit)
    (hbody : ∀ (A : Around) (outer : List Env) (s : Shared) (H : Hp) (vs : List V) (Q : VK) (E : XK), Room k (A.deeper (envF (sNF name qual params [] scope cc cda) f s.heap.objs.size)) → sp vs H Q E →
      ∃ a C ws ta t, vs = .ref a :: ws ∧ H a = some (exo a C none) ∧ SupC K D C ∧ PA (ncx CX P w K mg base N (sNF name qual params [] scope cc cda) f A outer s H E) (e :: es) ta ∧
        PSs (ncx CX P w K mg base N (sNF name qual params [] scope cc cda) f A outer s H E) body t ∧
        ta (startF N vs [some (.ref D)]) H (fun us H1 => us.length ≤ 1000 ∧ H1 a = some (exo a C none) ∧ t { nx := fun _ H' => Q .non H', rt := Q } (startF N vs [some (.ref D)]) H1))
    (hc : ∀ env : Env, ∃ pl : Sem Bool, eval (.Call (.Attribute (.Call (.Name "super" p0) [] [] p1) "__init__" p2) (e :: es) [] p3) env = (do
      let ov ← attributeBase (.Call (.Name "super" p0) [] [] p1) "__init__" env (eval (.Call (.Name "super" p0) [] [] p1) env)
      standAt p2.atName
      let (f, first) ← holding [ov] (getMethod ov "__init__" pl)
      callWith p3 f first (backTo p3 (starEach (e :: es) env)) []) := by exact fun env => ⟨_, rfl⟩)
    (he : ∀ env : Env, starEach (e :: es) env = (false, eval e env) :: starEach es env := by exact fun _ => rfl) (hpl : ∀ env : Env, (backTo p3 (starEach es env)).any (·.1) = false := by exact fun _ => rfl) :
    FnOk P w K mg base CX (k + 1) f (ksFn name qual params (.Expr (.Call (.Attribute (.Call (.Name "super" p0) [] [] p1) "__init__" p2) (e :: es) [] p3) p4 :: body) scope dV kV doc pm an (.ref cda) ct cc) ps sp := by
  refine ⟨len, fun A outer s H args us vs Q E hr e0 hb r hsp => ?_⟩
  have hl := len _ _ _ _ hsp
  have KX : K.In s.heap := e0.mod.kin.keeps fun b o e => (e0.bs b o e).1
  have lim : s.heap.NoLimit := e0.mod.nolimit.keeps fun b o e => (e0.bs b o e).1
  obtain ⟨cl, cld, csl, hcell⟩ := SK.cell
  obtain ⟨ccl, cdd, cvs, ccs, file, tf, hcode, hcv, hfile⟩ := SK.code
  obtain ⟨cdD, hclsD⟩ := SK.clsD
  have hccb : H cc = none := (e0.bs cc _ (e0.mod.kin _ _ hcell)).2
  refine codeAny_call_function hr.depth (KX _ _ lk) rfl S.co S.gen rfl (codeRec_of KX SK.cd) (hb _ _ _ _ ?_)
  refine wpAny_newFunctionEnv S.nocell (fun ⟨n, _⟩ hy => S.par n (List.of_mem_zip hy).1) (fun h₁ hns hsb => ⟨lim.fresh _ hsb, ?_⟩) S.kind
  show codeAny _ _ (.func _ (envF (sNF name qual params [] scope cc cda) f s.heap.objs.size)) _ _
  refine ks_codeAny_funcAt ?_
  have kp : ∀ b o, s.heap.get? b = some o → h₁.get? b = some o := fun b o e => hsb.extBut b o (Nat.ne_of_lt (Heap.lt_size e)) (Heap.get?_push_of_some _ e)
  have Cs : CellsAt [("__class__", cc)] ["__class__"] [some (V.ref D)] s.heap H := by
    refine ⟨rfl, fun y c e => ?_, fun x y c e1 e2 => ?_, fun i y e => ?_⟩
    · have q := PySem.mem_of_lookup e
      simp only [List.mem_singleton, Prod.mk.injEq] at q
      rw [q.2]
      exact ⟨hccb, _, _, KX _ _ hcell, rfl⟩
    · have q1 := PySem.mem_of_lookup e1
      have q2 := PySem.mem_of_lookup e2
      simp only [List.mem_singleton, Prod.mk.injEq] at q1 q2
      rw [q1.1, q2.1]
    · cases i with
      | zero =>
        simp at e
        subst e
        refine ⟨cc, by simp [List.lookup], fun v ev => ?_⟩
        simp at ev
        subst ev
        exact ⟨.ref D, rfl, _, KX _ _ hcell, rfl⟩
      | succ i => simp at e
  obtain ⟨a, C, ws, ta, t, ev, ea, SC, hA, hS, hq⟩ := hbody A outer s H vs Q E (hr.deeper _) hsp
  have I : Inv (ncx CX P w K mg base N (sNF name qual params [] scope cc cda) f A outer s H E) [] (startF N vs [some (V.ref D)]) H { s with heap := h₁, toks := s.toks + (ps.zip us).length } := inv_startN S hr.hd e0 hl r Cs hns kp
  have hLn : s.heap.objs.size < h₁.objs.size := hns.lt
  have hint : interactive (envF (sNF name qual params [] scope cc cda) f s.heap.objs.size) = false := by
    unfold interactive
    simp [S.kind]
  obtain ⟨pl, hc⟩ := hc (envF (sNF name qual params [] scope cc cda) f s.heap.objs.size)
  have hkc : scope.names.lookup ("__class__" : Str) = some .free := S.frk _ (List.mem_singleton.mpr rfl)
  obtain ⟨oD, hD1, hD2⟩ : ∃ oD, K.lookup D = some oD ∧ oD.data = .cls cdD := by
    unfold clsIn at hclsD
    split at hclsD
    · rename_i c d cd' sl ho
      cases hclsD
      exact ⟨_, ho, rfl⟩
    · cases hclsD
  obtain ⟨mb, hb1, hb2⟩ := I.mod.blt
  obtain ⟨mL, hnsL, hlL⟩ := I.loc
  have hka0 : ps[0]? = some ar.arg := by
    have e1 : (N.take (ps.length + 1))[0]? = some ar.arg := by
      rw [List.getElem?_take_of_lt (by omega)]
      exact hka
    have e2 := S.pre
    rw [show (["__class__"] : List Str).length = 1 from rfl] at e2
    rw [e2, List.getElem?_append_left hps] at e1
    exact e1
  have hpar : scope.names.lookup ar.arg = some .local := S.par _ (List.mem_of_getElem? hka0)
  obtain ⟨u0, ru0, lk0⟩ := hlL 0 ar.arg (.ref a) hka (by rw [ev]; rfl) (.inl hpar)
  obtain rfl : u0 = Value.ref a := ru0
  have hself : mL ar.arg = some (.ref a) := by
    rcases lk0 with ⟨_, z⟩ | ⟨z, _⟩
    · exact z
    · have z' : scope.names.lookup ar.arg = some .cell ∨ scope.names.lookup ar.arg = some .free := z
      rw [hpar] at z'
      rcases z' with z' | z' <;> cases z'
  obtain ⟨nm, q, Nn, bs, bm, sn, sub, ab, col, dd, k0, k1, k2, k3, k5, hC, hbm⟩ := SC.ox.cls
  have X1 := I.kIn
  refine ks_wpAt_execs_cons (ks_wpAt_Expr_any (ks_wpAt_MethodCall (pl := pl) ?_ hc) hint)
  refine ks_wpAt_super_base (env := envF (sNF name qual params [] scope cc cda) f s.heap.objs.size) hks hkc rfl rfl (X1 _ _ lk) rfl hp rfl (X1 _ _ hcode) rfl hcv hfile SK.top ?_
  refine ks_loadName_global S.kind hks (loadGlobal_builtin (env := envF (sNF name qual params [] scope cc cda) f s.heap.objs.size) (I.mod.glob.keeps I.bk) SK.nosup (hb1.keeps I.bk) ((hb2 _ (by decide +kernel)).trans Boot.«super») ⟨rfl, ?_⟩)
  refine wpAny_loadName_free S.kind hkc (by simp [List.lookup]) ⟨_, X1 _ _ hcell, rfl⟩ ?_
  refine wpAny_loadName_local S.kind hpar hnsL hself ?_
  refine ks_wpAny_isType_cls (X1 _ _ hD1) hD2 ⟨rfl, ?_⟩
  obtain ⟨t1, ho⟩ := exo_at I.hok ea
  refine ks_wpAny_call_super (X1 _ _ hD1) hD2 ho rfl (fun c e => by cases e) (looks_mroIn X1 SC.sub) (fun h2 hso k2 => ?_)
  have I2 := I.kept (h' := h2) (t' := s.toks + (ps.zip us).length) k2
  have X2 := I2.kIn
  have hCl : clsIn K C = some { name := nm, bases := bs, mro := .ref C :: bm, ns := Nn, qualname := q, hasDict := true, slotNames := sn, subclasses := sub, abstract := ab, collection := col, hasDel := false } := by unfold clsIn; rw [hC] <;> rfl
  have hini := SC.ini
  unfold ks_superIn at hini
  rw [hCl] at hini
  have hne : a ≠ C := by
    rintro rfl
    have z := X1 _ _ hC
    rw [ho] at z
    cases z
  refine kxs_getMethod kxs_ValueError hso (looks_opaque X2 SK.noth) (l₀ := .ref C :: bm) ?_ rfl X2 hini ?_ hne (by decide +kernel) ?_
  · exact fun A Q E s k q => wpAny_bind ((looks_clsIn X2 hCl) A _ E s k (wpAny_pure q))
  · have IA : InstAt h2 a _ C none := ⟨k2 _ _ ho, rfl, rfl, trivial⟩
    exact IA.type.andThen (looks_subIn X2 SC.ve)
  · have hmw : (h2.push (kxs_mw "ValueError.__init__" a)).get? h2.objs.size = some (kxs_mw "ValueError.__init__" a) := Heap.get?_push_size _ rfl
    have I3 := I2.kept (h' := h2.push (kxs_mw "ValueError.__init__" a)) (t' := s.toks + (ps.zip us).length + 1) (fun b o e => Heap.get?_push_of_some _ e)
    have I4 := I3.pins_of (pins' := [(h2.objs.size, kxs_mw "ValueError.__init__" a)]) (fun p hp => by
      rw [List.mem_singleton] at hp
      subst hp
      refine ⟨hmw, I2.hok.fresh (Nat.le_refl _), fun z => ?_, I2.nofs (Nat.le_refl _), fun v z => by cases z⟩
      exact absurd I2.lt (by rw [← z]; exact Nat.lt_irrefl _))
    refine cw_mw (i := "ValueError.__init__") (x := a) (he _) (hpl _) (thn (hA.run p3 _ _ _ _ _ I4 hq) fun us s5 ⟨vs5, H5, I5, r5, hz, ea5, q5⟩ => ⟨(I5.pin _ (List.mem_append_right _ (List.mem_singleton.mpr rfl))).1, ?_⟩)
    have hlen : us.length ≤ sizeLine := by
      rw [← Paired.length r5, sizeLine_eq]
      omega
    have I6 := I5.pins_of (pins' := []) (fun p hp => absurd hp (by simp))
    refine mw_call SC.ox I6 ea5 (I5.pin _ (List.mem_append_right _ (List.mem_singleton.mpr rfl))).1 hlen fun s7 I7 => ?_
    refine wpAt_of_wpAny (wpAny_mono (hS.run [] _ _ _ _ I7 q5) (fun fl s' hs => ?_) fun e s' hs => hs)
    have fin : ∀ {σ' : L2.St} {H' : Hp} {v : V} {u : Value}, L2.Inv (ncx CX P w K mg base N (sNF name qual params [] scope cc cda) f A outer s H E) [] σ' H' s' → L2.RelV v u → Q v H' → CE outer P w H s Q u s' :=
      fun {σ' H' v u} J rv q => ⟨v, H', J.os, J.bare, J.base, J.hok, rv, q⟩
    cases fl with
    | ret u =>
      obtain ⟨v, σ', H', J, rv, q⟩ := hs
      exact fin J rv q
    | next =>
      obtain ⟨σ', H', J, q⟩ := hs
      exact fin (v := V.non) (u := Value.none) J rfl q
    | brk =>
      obtain ⟨_, _, _, q⟩ := hs
      exact False.elim q
    | cont =>
      obtain ⟨_, _, _, q⟩ := hs
      exact False.elim q
end
end XcS
set_option Elab.async false
set_option linter.all false
set_option maxRecDepth 100000
set_option maxHeartbeats 4000000
/-! own: a caught exception of an own class (with or without a dict) kept beyond its suite: isinstance, fields -/
namespace XcH
open PySem PySem.Spec PyProof.Rows L2

/-- at a: a caught exception of the class cls with its dict at d -/
def ExT (cls : Value) (d : Option Addr) (a : Addr) : HO := .ext fun h => ∃ (oe : Obj) (vs : Array Value), h.get? a = some oe ∧ Zc cls d oe ∧ oe.data = .fields vs
theorem exT_ok {P : Program} {w : World} {H : Hp} {h : Heap} {a : Addr} {cls : Value} {d : Option Addr} {oe : Obj} {vs : Array Value} (e : h.get? a = some oe) (z : Zc cls d oe) (hd : oe.data = .fields vs) : ObjOk P w H h a (ExT cls d a) :=
  ⟨⟨oe, vs, e, z, hd⟩, ⟨oe, e⟩, fun _ _ ⟨o, v, q, r⟩ k => ⟨o, v, k o q, r⟩⟩
theorem exT_at {P : Program} {w : World} {H : Hp} {h : Heap} {a : Addr} {cls : Value} {d : Option Addr} (hok : HOk P w H h) (e : H a = some (ExT cls d a)) : ∃ (oe : Obj) (vs : Array Value), h.get? a = some oe ∧ Zc cls d oe ∧ oe.data = .fields vs := by
  obtain ⟨z, _, _⟩ := hok a _ e
  exact z

section
variable {X : Cx} {pins : List (Addr × Obj)} {σ : L2.St} {H : Hp} {s : Shared}
/-- an object that nothing tracked yet is tracked from now on -/
theorem track {a : Addr} {oe : Obj} {vs : Array Value} {o : HO} (I : Inv X pins σ H s) (ha : s.heap.get? a = some oe) (hd : oe.data = .fields vs) (na : H a = none) (nL : a ≠ X.env.locals) (new : X.s_0.heap.get? a = none) (np : ∀ p ∈ X.pn ++ pins, p.1 ≠ a)
    (ok : ObjOk X.prog X.w (upd H a o) s.heap a o) : Inv X pins σ (upd H a o) s := by
  refine ⟨I.ok, I.os, I.bare, ⟨I.base.keep, I.base.slot, fun b u e n hx => ?_, I.base.there, fun b xs e => ?_, fun b u v e => ?_, fun b ps e => ?_⟩, I.loc, I.cell, ?_, fun x c e => ?_, fun p hp => ?_, ?_, I.len⟩
  · rw [upd_ne (fun z => by rw [z, new] at e; cases e)]
    exact I.base.free b u e n hx
  · rw [upd_ne (ne_of_none (I.base.tups b xs e) na)]
    exact I.base.tups b xs e
  · rw [upd_ne (ne_of_none (I.base.frzs b u v e) na)]
    exact I.base.frzs b u v e
  · obtain ⟨m, q⟩ := I.base.tbls b ps e
    exact ⟨m, by rw [upd_ne (ne_of_none q na)]; exact q⟩
  · rw [upd_ne (Ne.symm nL)]
    exact I.free
  · rw [upd_ne (fun z => ?_)]
    · exact I.freeC x c e
    · obtain ⟨v, oc, hc, hcd⟩ := I.cell x c e
      rw [z, ha] at hc
      cases hc
      rw [hd] at hcd
      cases hcd
  · obtain ⟨e1, e2, e3⟩ := I.pin p hp
    exact ⟨e1, by rw [upd_ne (np p hp)]; exact e2, e3⟩
  · exact I.hok.laidN (fun _ _ q => q) na ok
theorem unsuiteK {a : Addr} {oe : Obj} (I : Inv (X.suite a ((a, oe) :: (X.pn ++ pins))) [] σ H s) (ok : X.Ok) : Inv X ((a, oe) :: pins) σ H s :=
  ⟨ok, I.os, I.bare, I.base, I.loc, I.cell, I.free, I.freeC, fun p hp => I.pin p (by
    rw [List.append_nil]
    rcases List.mem_append.mp hp with z | z
    · exact List.mem_cons_of_mem _ (List.mem_append_left _ z)
    · rcases List.mem_cons.mp z with z | z
      · rw [z]
        exact List.mem_cons_self
      · exact List.mem_cons_of_mem _ (List.mem_append_right _ z)), I.hok, I.len⟩
end

/-- what the clause «except x as n» wishes of an exception of the body; behind the suite the exception is tracked -/
def wKept (K : PySem.W.Frag) (nn : Nat) (c : Value) (i : Nat) (ts : Addr → Value → Option Addr → TS) (Wout : WX) (D : Ends) : WX := fun cls d σ H => σ.length = nn →
  ∃ b, PySem.W.exmOne K cls c = some b ∧ (b = true → ∀ a, H a = none → ts a cls d { nx := fun σ' H' => D.nx (σ'.set i none) (upd H' a (ExT cls d a)), rt := fun _ _ => False, bk := fun _ _ => False, ct := fun _ _ => False } (σ.set i (some (.ref a))) H) ∧
    (b = false → Wout cls d σ H)

section
variable {X : Cx} {x n : Str} {c : Value} {i : Nat} {body suite : List Stmt} {b₀ : Stmt} {np pos pos' : Pos} {tb : WX → TS} {ts : Addr → Value → Option Addr → TS} {Wout : WX}
theorem ps_try_kept (hs : X.stack = X.env :: X.outer) (hf : X.env.frame = some X.env.locals) (hex : X.ex = []) (hN : X.N.Nodup) (hi : X.N[i]? = some n) (hln : X.env.kindOf n = some .local) (hc : Names X x c) (tk : Takes X Wout)
    (hb : ∀ (W : WX) (pn : List (Addr × Obj)) (xe : Value → Shared → Prop), Takes (X.tr pn xe) W → PassesOwn (model X.prog X.w) X.A X.env xe → PSs (X.tr pn xe) body (tb W))
    (hsu : ∀ (a : Addr) (oe : Obj) (cls : Value) (d : Option Addr) (pn : List (Addr × Obj)), Zc cls d oe → (∃ vs, oe.data = .fields vs) → PSs (X.suite a ((a, oe) :: pn)) (b₀ :: suite) (ts a cls d)) :
    PS X (.Try body [.ExceptHandler (some (.Name x np)) (some n) (b₀ :: suite) pos'] [] [] pos) (fun D σ H => tb (wKept X.K X.N.length c i ts Wout D) D σ H) := by
  refine ⟨fun pins s σ H D I h => ?_⟩
  have ok := I.ok
  have hfr : X.A.frames = some (X.env :: X.outer) := by rw [ok.frames, hs]
  have hloc : Loc X.env.scope n := .inl hln
  refine wpAny_Try_except ?_
  refine wpAny_mono ((hb (wKept X.K X.N.length c i ts Wout D) (X.pn ++ pins) (fun e s₁ => wpAny (model X.prog X.w) X.A (noteFrame e X.env) (fun _ s₂ => wpAny (model X.prog X.w) X.A (setFlight e none) (fun _ s₃ =>
    wpAny (model X.prog X.w) X.A (handleBy e X.env [.ExceptHandler (some (.Name x np)) (some n) (b₀ :: suite) pos']) (SP X pins D) X.xe s₃) X.xe s₂) X.xe s₁) (fun u s' xx => ?_) PassesOwn.looking).run [] s σ H D (I.toTry _) h) (fun f s1 hsp => ?_) (fun e s1 he => he)
  · obtain ⟨a, B, sI, pins', σ', H', cls, d, rfl, J', nb, up, sky, na, os, ag, hw⟩ := xx
    have J : Inv X pins σ' H' sI := J'.ofTry ok
    obtain ⟨b, hb1, hyes, hno⟩ := hw J.len
    have sky' : Sky B (X.env :: X.outer) a (Zc cls d) X.env.locals s'.heap := by rw [← hs]; exact sky
    show wpAny (model X.prog X.w) X.A (noteFrame (.ref a) X.env) _ _ _
    refine Sky.land Zc.steady hfr hf sky' fun h3 fl3 up3 => ?_
    have J3 : Inv X pins σ' H' { s' with heap := h3 } := J.landed nb fl3.1 (up.trans up3) os ag
    obtain ⟨oe3, vs3, he3, hz3, hd3⟩ := fl3.there
    have notFr : ∀ {h : Heap} {o : Obj} {vs : Array Value}, h.FunFrames B (X.env :: X.outer) → h.get? a = some o → o.data = .fields vs → a ∉ frs (X.env :: X.outer) := fun {h o vs} ff e dd hm => by
      obtain ⟨_, o', e', hnf⟩ := ff.mem hm
      rw [e] at e'; cases e'
      exact hnf _ dd
    have nfr := notFr fl3.2.2.1 he3 hd3
    have nL : a ≠ X.env.locals := fun z => nfr (List.mem_filterMap.mpr ⟨X.env, List.mem_cons_self, by rw [hf, z]⟩)
    have nF : a ∉ X.fs := fun hm => by
      obtain ⟨e, he, q⟩ := List.mem_filterMap.mp hm
      exact nfr (List.mem_filterMap.mpr ⟨e, List.mem_cons_of_mem _ he, q⟩)
    have nB : B.get? a = none := fl3.2.1
    have stk : ∀ {b : Addr}, b ≠ X.env.locals → b ∉ X.fs → b ∉ frs X.stack := fun {b} h1 h2 hm => by
      rw [hs] at hm
      unfold frs at hm
      rw [List.filterMap_cons, hf] at hm
      rcases List.mem_cons.mp hm with z | z
      · exact h1 z
      · exact h2 z
    have nI : sI.heap.get? a = none := by
      cases z : sI.heap.get? a with
      | none => rfl
      | some o =>
        have y := nb a o z (stk nL nF)
        rw [nB] at y
        cases y
    have new0 : X.s_0.heap.get? a = none := by
      cases z : X.s_0.heap.get? a with
      | none => rfl
      | some o =>
        obtain ⟨o', y⟩ := J.base.there a o z (by rw [hex]; simp)
        rw [nI] at y
        cases y
    have npin : ∀ p ∈ X.pn ++ pins, p.1 ≠ a := fun p hp z => by
      have y := (J.pin p hp).1
      rw [z, nI] at y
      cases y
    have S3 := J3.suite he3 hd3 na nL nF
    refine wpAny_handleBy_cons (codeAny_handlers_test ?_) (by intro q; cases q)
    have LT : PySem.W.Looks (model X.prog X.w) h3 (typeOf (.ref a)) cls := fun A Q E s k q => wpAny_typeOf_ref (k _ _ he3) (by rw [hz3.1]; exact q)
    have LM := PySem.W.exm_one (M := model X.prog X.w) (J3.kIn) LT hb1
    have test : ∀ {Q : Value → Shared → Prop} {E : Value → Shared → Prop}, Q c { s' with heap := h3 } → wpAny (model X.prog X.w) (X.A.mark (some (.ref a))) (eval (.Name x np) X.env) Q E { s' with heap := h3 } := fun {Q E} q => by
      obtain ⟨hg, hdbg, hm | ⟨hm, hv, hnn⟩⟩ := hc
      · exact ld_glob (X := X.suite a ((a, oe3) :: (X.pn ++ pins))) S3 hg hm q hdbg
      · exact ld_blt (X := X.suite a ((a, oe3) :: (X.pn ++ pins))) S3 hg hm hv q hnn hdbg
    refine test (LM.here ?_)
    cases b with
    | true =>
      refine codeAny_handlers_suite_as ?_
      refine HandSPX.lands_againZ fl3 fun h4 fl4 up4 => ?_
      have J4 : Inv X pins σ' H' { s' with heap := h4 } := J.landed nb fl4.1 ((up.trans up3).trans up4) os ag
      obtain ⟨oe4, vs4, he4, hz4, hd4⟩ := fl4.there
      have S4 := J4.suite he4 hd4 na nL nF
      refine store_ok (X := X.suite a ((a, oe4) :: (X.pn ++ pins))) (v := .ref a) S4 hN hi hloc rfl (fun s5 S5 => ?_) (.inr hln)
      refine wpAny_mono ((hsu a oe4 cls d (X.pn ++ pins) hz4 ⟨_, hd4⟩).run [] s5 _ H' _ S5 (hyes rfl a na)) (fun f s6 hsp => ?_) (fun _ _ z => False.elim z)
      cases f with
      | next =>
        obtain ⟨σ6, H6, S6, q6⟩ := hsp
        refine gone_ok (unsuiteK S6 ok) hN hi hln fun s7 J7 => ⟨_, _, ?_, q6⟩
        obtain ⟨g1, g2, _⟩ := J7.pin (a, oe4) (List.mem_append_right _ List.mem_cons_self)
        refine track (J7.pins_of fun p hp => J7.pin p (List.mem_append_right _ (List.mem_cons_of_mem _ hp))) g1 hd4 g2 nL new0 npin (exT_ok g1 hz4 hd4)
      | brk =>
        obtain ⟨_, _, _, q6⟩ := hsp
        exact False.elim q6
      | cont =>
        obtain ⟨_, _, _, q6⟩ := hsp
        exact False.elim q6
      | ret u =>
        obtain ⟨_, _, _, _, _, q6⟩ := hsp
        exact False.elim q6
    | false =>
      show wpAny _ X.A (handleBy (.ref a) X.env []) _ _ _
      refine wpAny_handleBy_nil ?_
      obtain ⟨k1, k2, k3, oe, vs, T, oT, ts', he, hz, hd, h1, hr⟩ := id fl3
      unfold PySem.passOn
      refine wpAny_bind (wpAny_field he hd h1 ?_)
      rw [if_neg (show ¬ ((Value.ref T == Value.none) = true) from by simp)]
      have fin : wpAny (model X.prog X.w) X.A (setFlight (.ref a) X.env.frame) (fun _ s4 => wpAny (model X.prog X.w) X.A (throw (.ref a) : Sem Flow) (SP X pins D) X.xe s4) X.xe { s' with heap := h3 } := by
        rw [hf]
        refine HandSPX.setFlight_upZ fl3 fun h4 hh4 up4 => wpAny_throw (tk _ _ ?_)
        exact ⟨a, B, sI, pins, σ', H', cls, d, rfl, J, nb, (up.trans up3).trans up4, .inr (.inr (by rw [hs]; exact hh4)), na, os, ag, hno rfl⟩
      first
        | exact wpAny_bind (wpAny_pure (wpAny_bind fin))
        | exact wpAny_bind fin
  · cases f with
    | next =>
      obtain ⟨σ', H', J', q⟩ := hsp
      exact wpAny_execs_nil ⟨σ', H', J'.ofTry ok, q⟩
    | brk =>
      obtain ⟨σ', H', J', q⟩ := hsp
      exact ⟨σ', H', J'.ofTry ok, q⟩
    | cont =>
      obtain ⟨σ', H', J', q⟩ := hsp
      exact ⟨σ', H', J'.ofTry ok, q⟩
    | ret u =>
      obtain ⟨v, σ', H', J', r, q⟩ := hsp
      exact ⟨v, σ', H', J'.ofTry ok, r, q⟩
end
end XcH
set_option Elab.async false
set_option linter.all false
set_option maxRecDepth 100000
set_option maxHeartbeats 4000000
namespace XcH
open PySem PySem.Spec PyProof.Rows L2

section
open PySem.W PySem.Calls
variable {prog : Program} {w : World} {A : Around} {E : Value → Shared → Prop} {s : Shared} {K : Frag} {x D : Addr} {ox : Obj} {od : Option Obj}
theorem find_data {C : Addr} {name : Str} {a g : Value} (hc : (clsIn K C).isSome = true) (ha : findIn K (.ref C) name = some (some a)) (hg : specialIn K a "__get__" = some (some g)) (ht : takesIn K a = some true) : findObj K C od name = some (.bind g a) := by
  obtain ⟨cd, hc⟩ := Option.isSome_iff_exists.mp hc
  unfold findObj
  rw [hc, Option.bind_some, ha, Option.bind_some]
  simp [hg, ht]
/-- e.__class__ of an exception that may have a dict -/
theorem cls_of {Q : Option Value → Shared → Prop} (C : ExcC K D) (X : K.In s.heap) (I : InstAt s.heap x ox D od) (h : Q (some (.ref D)) { s with toks := s.toks + 1 }) : wpAny (model prog w) A (getAttr? (.ref x) "__class__") Q E s := by
  have hf : findObj K D od "__class__" = some (.bind (.builtin "getset_descriptor.__get__") (.builtin "object.__class__")) := find_data (by obtain ⟨cd, hc, _⟩ := any_some C.hd; rw [hc]; rfl) C.ha C.hn C.ht
  obtain ⟨hp, g, d, t, os⟩ := s
  have L0 := I.type (M := model prog w)
  have L1 := looks_findIn (M := model prog w) X C.hg
  have L2 := looks_findIn (M := model prog w) X C.hk
  have L3 := looks_find (M := model prog w) X I hf
  have sub : Looks (model prog w) hp (isInstance (.ref x) (.type "BaseException")) true := L0.andThen (looks_subIn X C.hs)
  have hx0 : (false && onTheHeap (Value.builtin "BaseException.__getattribute__")) = false := rfl
  have hx2 : (Value.builtin "BaseException.__getattribute__" == Value.builtin "object.__getattribute__") = false := by decide +kernel
  have hx1 : (onTheHeap (Value.ref D) && Value.builtin "BaseException.__getattribute__" == Value.builtin "object.__getattribute__") = false := by rw [hx2]; rfl
  unfold getAttr? getAttrBy? getAttrBy
  refine wpAny_bind (wpAny_mkText (wpAny_bind (wpAny_attempt (wpAny_holding (wpAny_bind (L0.at (wpAny_bind (L1.at ?_))))))))
  show wpAny _ _ (if (onTheHeap (Value.ref D) && Value.builtin "BaseException.__getattribute__" == Value.builtin "object.__getattribute__") = true then _ else _) _ _ _
  rw [hx1, if_neg Bool.false_ne_true]
  unfold getAttrByItsOwn hookBefore
  refine wpAny_bind ?_
  rw [if_pos (show onTheHeap (Value.ref D) = true from rfl)]
  refine L2.at ?_
  refine wpAny_bind (wpAny_attempt (wpAny_holding ?_))
  unfold callGetattribute
  rw [hx0, if_neg Bool.false_ne_true]
  unfold boundAndCalled
  rw [PySem.F.excAttr_ValueError.ga.bind (.ref x)]
  refine wpAny_bind (wpAny_pure ?_)
  show wpAny _ _ (call (.builtin "BaseException.__getattribute__") [.ref x, .str "__class__" t]) _ _ _
  refine wpAny_call (codeAny_call_builtin PySem.F.excAttr_ValueError.ga.plain PySem.F.entry_bexc_ga ?_)
  refine @check_slot (model prog w) _ _ ⟨hp, g, d, t + 1, os⟩ "BaseException.__getattribute__" "BaseException" "__getattribute__" (.ref x) [.str "__class__" t] [] _ (by decide +kernel) (by decide +kernel) sub (PySem.F.args_bexc_ga (.ref x) (.str "__class__" t)) ?_
  unfold Builtin.«object.__getattribute__»
  refine wpAny_bind (wpAny_of_eq (a := ((Value.ref x : Value), [Value.str "__class__" t])) (by first | rfl | (simp only [slotArgs]; rfl)) ?_)
  refine wpAny_bind (wpAny_pure (wpAny_bind (L0.at (wpAny_bind (L3.at ?_)))))
  show wpAny _ _ (holding [Value.builtin "object.__class__"] (call (.builtin "getset_descriptor.__get__") [.builtin "object.__class__", .ref x, .ref D]) >>= ret) _ _ _
  refine wpAny_bind (wpAny_holding (wpAny_call (class_get (s := ⟨hp, g, d, t + 1, os⟩) (ox := ox) (od := od) X I C.hm ?_)))
  refine wpAny_pure ?_
  show wpAny _ _ (handedOut (.ref D)) _ _ _
  rw [handedOut_of (v := .ref D) rfl]
  first
    | exact wpAny_pure (wpAny_pure h)
    | exact wpAny_pure h
    | exact wpAny_pure (wpAny_bind (wpAny_pure (wpAny_pure h)))
theorem kit_exc (C : ExcC K D) : KitX K (.ref x) (.ref D) (fun h => ∃ ox od, InstAt h x ox D od) where
  ty := fun _ _ _ ⟨_, _, I⟩ => I.type
  it := fun _ _ X _ => by
    obtain ⟨cdD, hcD, _⟩ := any_some C.hd
    unfold clsIn at hcD
    split at hcD
    · rename_i c' d' cd' sl' ho
      intro A' Q' E' s' k q
      unfold isType loadHead
      exact wpAny_bind (wpAny_loadPart (k _ _ (X _ _ ho)) (wpAny_pure q))
    · cases hcD
  ne := fun h tp dd its n sl X htp => by
    obtain ⟨cdD, hcD, _⟩ := any_some C.hd
    refine Bool.eq_false_iff.mpr fun q => ?_
    have e : D = tp := Value.ref.inj (beq_iff_eq.mp q)
    subst e
    unfold clsIn at hcD
    split at hcD
    · rename_i c' d' cd' sl' ho
      have z := (X _ _ ho).symm.trans htp
      cases z
    · cases hcD
  ca := fun X ⟨_, _, I⟩ k => cls_of C X I k
end

section
variable {X : Cx} {pins : List (Addr × Obj)} {σ : L2.St} {H : Hp} {s : Shared}
/-- it as an instance of its class: its dict is tracked -/
theorem inst_at {a D dd : Addr} {fs : List (Str × V)} (I : Inv X pins σ H s) (e : H a = some (ExT (.ref D) (some dd) a)) (ed : H dd = some (.xd fs)) : ∃ ox od, PySem.W.InstAt s.heap a ox D (some od) ∧ ∃ mA, s.heap.Ns1 dd mA ∧ s.heap.get? dd = some od ∧ ∀ f, RelO (fs.lookup f) (mA f) := by
  obtain ⟨oe, vs, h1, h2, h3⟩ := exT_at I.hok e
  have hx : ObjOk X.prog X.w H s.heap dd (.xd fs) := I.hok dd _ ed
  obtain ⟨mA, hns, hr⟩ := hx
  obtain ⟨od, es, ep, ho, q⟩ := id hns
  exact ⟨oe, od, ⟨h1, h2.1, by unfold PySem.W.notCls; rw [h3] <;> rfl, by rw [h2.2]; exact ho⟩, mA, hns, ho, hr⟩
/-- isinstance(e, c) of a kept exception -/
def rIsX (K : PySem.W.Frag) : List V → Hp → VK → Prop := fun xs H Q => ∃ (a D dd : Addr) (fs : List (Str × V)) (c : V) (cv : Value) (b : Bool), xs = [.ref a, c] ∧ H a = some (ExT (.ref D) (some dd) a) ∧ H dd = some (.xd fs) ∧ ExcC K D ∧ (∀ u, RelV c u → u = cv) ∧
  PySem.W.kitOne K (.ref D) cv = some b ∧ Q (.bl b) H
theorem call_isX : CallR X (.builtin "isinstance") (rIsX X.K) := by
  intro pins s σ H xs us Q I r h
  obtain ⟨a, D, dd, fs, c, cv, b, rfl, ea, ed, C, hcv, e, q⟩ := h
  cases r with
  | cons rx rr =>
    cases rr with
    | cons rt rr =>
      cases rr
      cases rx
      have ec := hcv _ rt
      subst ec
      obtain ⟨ox, od, J, _⟩ := inst_at I ea ed
      exact PySem.W.kia_one (kit_exc C) I.kIn ⟨_, _, J⟩ e (fun z => nomatch z) fun tk => ⟨.bl b, H, I.kept (t' := tk) fun _ _ z => z, rfl, q⟩
/-- e.f of a kept exception -/
def tXg (K : PySem.W.Frag) (f : Str) (te : TE) : TE := fun σ H Q => te σ H fun x H1 => ∃ (a C dd : Addr) (fs : List (Str × V)) (v : V), x = .ref a ∧ H1 a = some (ExT (.ref C) (some dd) a) ∧ H1 dd = some (.xd fs) ∧ XfC K C ∧ PySem.W.findIn K (.ref C) f = some none ∧ fs.lookup f = some v ∧ Q v H1
theorem pe_xg {e : Expr} {te : TE} {pos : Pos} {n : Str} (he : PE X e te) (hb : attributeBase e n X.env (eval e X.env) = eval e X.env := by rfl) : PE X (.Attribute e n pos) (tXg X.K n te) := by
  refine ⟨fun pins s σ H Q I h => ?_⟩
  refine attr_of hb (thn (he.run pins s σ H _ I h) fun u s1 hh => ?_)
  obtain ⟨x, H1, I1, rx, a, C, dd, fs, v, ex, ea, ed, T, hno, l, q⟩ := hh
  subst ex
  obtain rfl : u = Value.ref a := rx
  obtain ⟨ox, od, J, mA, hns, ho, hr⟩ := inst_at I1 ea ed
  obtain ⟨od', ho', hl⟩ := lookIn_ns hns
  rw [ho] at ho'
  cases ho'
  obtain ⟨u, hu, ru⟩ := RelO.some_of (v := v) (o := mA n) (by rw [← l]; exact hr n)
  exact HandSPX.exc_get I1.kIn J T.ga T.gg T.exC (PySem.W.findObj_own T.hdC hno rfl (by rw [hl, hu])) (handed_of ru) ⟨v, H1, I1.tok _, ru, q⟩
end
end XcH
set_option Elab.async false
set_option linter.all false
set_option maxRecDepth 100000
set_option maxHeartbeats 4000000
/-! own: «lambda a=0: body» (one parameter with a whole number as default) and «lambda: body», handed to a def that calls it without arguments -/
namespace LamD
open PySem PySem.Spec PyProof.Rows L2 LamX

section
variable {X : Cx} {pins : List (Addr × Obj)} {σ : L2.St} {H : Hp} {s : Shared}
/-- a function object of a lambda is made: what was there and not tracked stays so -/
theorem lam_tail {dV : Value} {T : List (Addr × Str)} {c P : Addr} {params : Arguments} {body : Expr} {scope : Scope} {pos : Pos} {E : Value → Shared → Prop} {Q : Value → Shared → Prop} (I : Inv X pins σ H s) (TB : TabB X.base X.mg c P) (hcode : X.env.code = .ref c)
    (hm : (P, X.env.qual ++ "<lambda>") ∈ T) (hu : ∀ p ∈ T, p.1 = P → p.2 = X.env.qual ++ "<lambda>") (hT : Tabs T H) (hfree : ∀ y ∈ scope.names, y.2 = .free → ∃ c, X.env.cells.lookup y.1 = some c)
    (h : ∀ (f c' : Addr) (doc pm ctv : Value) (H1 : Hp) (s' : Shared), Inv X pins σ H1 s' → ExtN H H1 → Tabs T H1 → (∀ b o, s.heap.get? b = some o → H b = none → s'.heap.get? b = some o ∧ H1 b = none) →
      s'.heap.get? f = some (PySem.W.kdv_obj "<lambda>" (X.env.qual ++ "<lambda>") params (.expr body) scope (cloFrom X.env.cells scope.names []) dV doc pm c' ctv) → H1 f = none → f ∉ frs X.stack → H1 c' = some (CodeO c' (X.env.qual ++ "<lambda>")) → Q (.ref f) s') :
    wpAny (model X.prog X.w) X.A (makeTail "<lambda>" (X.env.qual ++ "<lambda>") params (.expr body) scope X.env dV .none none pos pos.line) Q E s := by
  obtain ⟨ps, hP, ht, ha⟩ := hT _ hm
  have bP : s.heap.BuiltinsAt X.mg P := TB.bm.keeps I.bk
  have hP' : s.heap.get? P = some { cls := .none, data := .fields ps } := I.hok P _ hP
  have nofr : ∀ f, s.heap.objs.size ≤ f → f ∉ frs X.stack := fun f hf z => by
    rcases List.mem_cons.mp (I.stkSub _ z) with e | e
    · have h1 := I.lt
      rw [← e] at h1
      exact Nat.lt_irrefl _ (Nat.lt_of_lt_of_le h1 hf)
    · exact I.nofs hf e
  cases hc : codeAmong pos ps.toList with
  | none =>
    refine PySem.W.kdv_makeTail (mg := X.mg) (c := c) (P := P) (ps := ps) (closure_ok hfree) I.ok.glob (I.mod.glob.keeps I.bk) hcode (TB.code.keeps I.bk) hP' ht hc TB.gP bP fun c' ctv doc h' tk hx hge hlt hrec htb => ?_
    obtain ⟨c2, oc, vs, t, e2, hoc, hd, hv⟩ := hrec
    cases e2
    have hsz : s.heap.objs.size ≤ h'.objs.size := Nat.le_trans hge (Nat.le_of_lt hlt)
    have nC : H c' = none := I.hok.fresh hge
    have I1 := inv_table (t' := tk) (more := #[rawInt pos.line, rawInt pos.col, .ref c']) (h' := h'.push (PySem.W.kdv_obj "<lambda>" (X.env.qual ++ "<lambda>") params (.expr body) scope (cloFrom X.env.cells scope.names []) dV doc ((X.mg "__name__").getD .none) c' ctv)) I hP
      (fun b o hb e => Heap.get?_push_of_some _ (hx b o hb e)) (Heap.get?_push_of_some _ htb) hge ⟨oc, vs, t, Heap.get?_push_of_some _ hoc, hd, hv⟩
    have hE : ExtN H (upd (upd H P (.tbl (ps ++ #[rawInt pos.line, rawInt pos.col, .ref c']))) c' (CodeO c' (X.env.qual ++ "<lambda>"))) := fun b o e n => by
      rw [upd_ne (ne_of_none e nC), upd_ne (fun z => n ps (Option.some.inj (e.symm.trans (by rw [z]; exact hP))))]
      exact e
    have eL : (ps ++ #[rawInt pos.line, rawInt pos.col, .ref c']).toList = ps.toList ++ [rawInt pos.line, rawInt pos.col, .ref c'] := by simp
    refine h h'.objs.size c' doc ((X.mg "__name__").getD .none) ctv _ _ I1 hE (fun p hp => ?_) (fun b o e n => ?_) (Heap.get?_push_size _ rfl) ?_ (nofr _ hsz) upd_same
    · by_cases hb : p.1 = P
      · rw [hu p hp hb, hb]
        refine ⟨_, by rw [upd_ne (ne_of_none hP nC), upd_same], by rw [eL]; exact PySem.TriplesOk_snoc _ _ _ _ ht, fun p' cv hcv => ?_⟩
        rw [eL] at hcv
        rcases among_app _ ht hcv with z | z
        · obtain ⟨c0, e1, e2⟩ := ha p' cv z
          exact ⟨c0, e1, hE _ _ e2 codeO_ne⟩
        · exact ⟨c', z, upd_same⟩
      · obtain ⟨ps', a1, a2, a3⟩ := hT p hp
        refine ⟨ps', by rw [upd_ne (ne_of_none a1 nC), upd_ne hb]; exact a1, a2, fun p' cv hcv => ?_⟩
        obtain ⟨c0, e1, e2⟩ := a3 p' cv hcv
        exact ⟨c0, e1, hE _ _ e2 codeO_ne⟩
    · have nP : b ≠ P := fun z => by
        rw [z, hP] at n
        cases n
      have nc : b ≠ c' := fun z => by
        rw [z] at e
        exact Nat.lt_irrefl _ (Nat.lt_of_lt_of_le (Heap.lt_size e) hge)
      exact ⟨Heap.get?_push_of_some _ (hx b o nP e), by rw [upd_ne nc, upd_ne nP]; exact n⟩
    · have n1 : h'.objs.size ≠ c' := Nat.ne_of_gt hlt
      have n2 : h'.objs.size ≠ P := Nat.ne_of_gt (Nat.lt_of_lt_of_le (Heap.lt_size hP') hsz)
      rw [upd_ne n1, upd_ne n2]
      exact I.hok.fresh hsz
  | some cv =>
    obtain ⟨c', e, hco⟩ := ha pos cv hc
    subst e
    refine PySem.W.kdv_makeTailHit (mg := X.mg) (c := c) (P := P) (ps := ps) (closure_ok hfree) I.ok.glob (I.mod.glob.keeps I.bk) hcode (TB.code.keeps I.bk) hP' ht hc bP fun ctv doc h' tk hx hsz => ?_
    have I1 : Inv X pins σ H { s with heap := h'.push (PySem.W.kdv_obj "<lambda>" (X.env.qual ++ "<lambda>") params (.expr body) scope (cloFrom X.env.cells scope.names []) dV doc ((X.mg "__name__").getD .none) c' ctv), toks := tk } := I.kept fun b o e => Heap.get?_push_of_some _ (hx b o e)
    exact h h'.objs.size c' doc ((X.mg "__name__").getD .none) ctv H _ I1 (ExtN.refl H) hT (fun b o e n => ⟨Heap.get?_push_of_some _ (hx b o e), n⟩) (Heap.get?_push_size _ rfl) (I.hok.fresh hsz) (nofr _ hsz) hco
/-- «lambda a=n: body» -/
theorem lam_make1 {T : List (Addr × Str)} {c P : Addr} {params : Arguments} {body : Expr} {scope : Scope} {pos dp : Pos} {n : Int} {j : Nat} {E : Value → Shared → Prop} {Q : Value → Shared → Prop} (I : Inv X pins σ H s) (TB : TabB X.base X.mg c P) (hcode : X.env.code = .ref c)
    (hm : (P, X.env.qual ++ "<lambda>") ∈ T) (hu : ∀ p ∈ T, p.1 = P → p.2 = X.env.qual ++ "<lambda>") (hT : Tabs T H) (hdef : defaultsOf params X.env = ([eval (.Constant (.int n) j dp) X.env], [])) (hkw : params.kwonlyargs = []) (hfree : ∀ y ∈ scope.names, y.2 = .free → ∃ c, X.env.cells.lookup y.1 = some c)
    (h : ∀ (f c' Ta : Addr) (td : Tok) (doc pm ctv : Value) (H1 : Hp) (s' : Shared), Inv X pins σ H1 s' → ExtN H H1 → Tabs T H1 →
      s'.heap.get? f = some (PySem.W.kdv_obj "<lambda>" (X.env.qual ++ "<lambda>") params (.expr body) scope (cloFrom X.env.cells scope.names []) (.ref Ta) doc pm c' ctv) → H1 f = none → f ∉ frs X.stack →
      s'.heap.get? Ta = some (PySem.W.kdv_tup [.int n td]) → H1 Ta = none → Ta ∉ frs X.stack → H1 c' = some (CodeO c' (X.env.qual ++ "<lambda>")) → Q (.ref f) s') :
    wpAny (model X.prog X.w) X.A (eval (.Lambda params body scope pos) X.env) Q E s := by
  rw [arm_eval_Lambda, hdef]
  show wpAny _ _ (do let dv ← evalAll [eval (.Constant (.int n) j dp) X.env]; let kdv ← holding dv (evalAllOpt []); makeFunction "<lambda>" (X.env.qual ++ "<lambda>") params (.expr body) scope X.env dv kdv [] pos pos.line) Q E s
  refine wpAny_bind (evalAll_cons (wpAny_Constant_int (evalAll_nil ?_)))
  refine wpAny_bind (wpAny_holding (wpAny_pure ?_))
  rw [makeFunction_eq]
  simp only [List.zip_nil_right, List.filterMap_nil, List.isEmpty_nil, List.isEmpty_cons, Bool.false_eq_true, if_true, if_false, pure_bind]
  refine wpAny_bind (wpAny_newTextTuple ?_)
  have I0 : Inv X pins σ H { s with heap := s.heap.push (PySem.W.kdv_tup [.int n s.toks]), toks := s.toks + 1 } := I.kept (t' := s.toks + 1) fun b o e => Heap.get?_push_of_some _ e
  refine lam_tail I0 TB hcode hm hu hT hfree fun f c' doc pm ctv H1 s' I1 eN T1 kp hf hfn hfr hco => ?_
  have hTa : (s.heap.push (PySem.W.kdv_tup [.int n s.toks])).get? s.heap.objs.size = some (PySem.W.kdv_tup [.int n s.toks]) := Heap.get?_push_size _ rfl
  obtain ⟨g1, g2⟩ := kp _ _ hTa (I.hok.fresh (Nat.le_refl _))
  refine h f c' s.heap.objs.size s.toks doc pm ctv H1 s' I1 eN T1 hf hfn hfr g1 g2 (fun z => ?_) hco
  rcases List.mem_cons.mp (I.stkSub _ z) with e | e
  · have h1 := I.lt
    rw [← e] at h1
    exact Nat.lt_irrefl _ h1
  · exact I.nofs (Nat.le_refl _) e
end
end LamD
set_option Elab.async false
set_option linter.all false
set_option maxRecDepth 100000
set_option maxHeartbeats 4000000
namespace LamD
open PySem PySem.Spec PyProof.Rows L2 LamX

/-- its own names (parameters) are no names of the maker; captured ones are the maker's -/
structure LamS1 (N : List Str) (sc scope : Scope) (a1 : Str) : Prop where
  kind : scope.kind = .function
  co : scope.isCoroutine = false
  gen : scope.isGenerator = false
  loc : scope.names.lookup a1 = some .local
  own : ∀ y ∈ scope.names, y.2 ≠ .cell ∧ (y.2 = .local → y.1 ∉ N)
  free : ∀ y ∈ scope.names, y.2 = .free → sc.names.lookup y.1 = some .cell ∨ sc.names.lookup y.1 = some .free
def lamS1B (N : List Str) (sc scope : Scope) (a1 : Str) : Bool :=
  decide (scope.kind = .function) && !scope.isCoroutine && !scope.isGenerator && decide (scope.names.lookup a1 = some .local) && scope.names.all fun y => !decide (y.2 = .cell) && (!decide (y.2 = .local) || !decide (y.1 ∈ N)) && (!decide (y.2 = .free) || decide (sc.names.lookup y.1 = some .cell) || decide (sc.names.lookup y.1 = some .free))
theorem lamS1_by {N : List Str} {sc scope : Scope} {a1 : Str} (h : lamS1B N sc scope a1 = true) : LamS1 N sc scope a1 := by
  unfold lamS1B at h
  simp only [Bool.and_eq_true, Bool.or_eq_true, Bool.not_eq_true', decide_eq_true_eq, decide_eq_false_iff_not, List.all_eq_true] at h
  obtain ⟨⟨⟨⟨h1, h2⟩, h3⟩, h5⟩, h4⟩ := h
  refine ⟨h1, h2, h3, h5, fun y hy => ⟨(h4 y hy).1.1, fun e => ?_⟩, fun y hy e => ?_⟩
  · rcases (h4 y hy).1.2 with z | z
    · exact absurd e z
    · exact z
  · rcases (h4 y hy).2 with (z | z) | z
    · exact absurd e z
    · exact .inl z
    · exact .inr z
theorem LamS1.has {X : Cx} {N : List Str} {scope : Scope} {a1 : Str} (L : LamS1 N X.env.scope scope a1) (ok : X.Ok) : ∀ y ∈ scope.names, y.2 = .free → ∃ c, X.env.cells.lookup y.1 = some c := fun y hy e => by
  rcases L.free y hy e with k | k
  · exact ok.has _ (.inl k)
  · exact ok.has _ (.inr k)
section
variable {X : Cx} {pins : List (Addr × Obj)} {σ : L2.St} {H HZ : Hp} {s s1 : Shared}
theorem lam_start1 {A : Around} {outer : List Env} {E : XK} {scope : Scope} {f c' : Addr} {h₁ : Heap} {tk : Nat} {a1 : Str} {m1 : Str → Option Value} (I : Inv X pins σ H s) (L : LamS1 X.N X.env.scope scope a1) (e0 : Env0 X.prog X.w X.K X.mg X.base A outer s1 HZ) (hd : A.handled = none)
    (un : Un (frs X.stack) [] H HZ s.heap s1.heap) (hns : h₁.Ns s1.heap.objs.size m1) (kp : ∀ b o, s1.heap.get? b = some o → h₁.get? b = some o) :
    Inv (lamCx X A outer s1 HZ E scope f c') [] σ HZ { s1 with heap := h₁, toks := tk } := by
  have hfree := L.has I.ok
  have cm : ∀ {y c}, (cloFrom X.env.cells scope.names []).lookup y = some c → X.env.cells.lookup y = some c := fun {y c} e => by
    rcases cloFrom_mem (PySem.mem_of_lookup e) with hm | ⟨h1, h2⟩
    · cases hm
    · obtain ⟨c1, hc⟩ := hfree _ h1 rfl
      have hc : X.env.cells.lookup y = some c1 := hc
      have e2 : c = c1 := by
        rw [h2, hc] <;> rfl
      rw [e2]
      exact hc
  have look : ∀ {y}, scope.names.lookup y = some .free → ∃ c, (cloFrom X.env.cells scope.names []).lookup y = some c := fun {y} hl => by
    have hy : (y, NameKind.free) ∈ scope.names := PySem.mem_of_lookup hl
    exact mem_lookup (cloFrom_has (cells := X.env.cells) (acc := []) hy)
  have cellK : ∀ {c : Addr} {v : Option Value}, H c = none → s.heap.IsCell c v → h₁.IsCell c v := fun {c v} n ⟨o, ho, hd⟩ => by
    obtain ⟨sl, q⟩ := un.any ho n (by simp)
    exact ⟨_, kp _ _ q, hd⟩
  have noA : ∀ b : Addr, b ∉ (lamCx X A outer s1 HZ E scope f c').ex := fun b z => absurd (show b ∈ ([] : List Addr) from z) (by simp)
  refine ⟨⟨e0.mod, L.kind, rfl, rfl, Nat.le_refl _, fun y z c e1 e2 => I.ok.inj y z c (cm e1) (cm e2), fun y hy => ?_, fun y c z _ => ?_, fun _ => hd, Around.frames_deeper e0.frames, .inr ⟨rfl, rfl⟩, fun b z => absurd z (noA b), e0.bs, e0.bsz, fun b _ _ => noA b,
      fun b z => absurd z (noA b), e0.funs, e0.frf⟩,
    rfl, e0.bare, Un.kept kp, ⟨_, hns, fun i y v e1 e2 e3 => ?_⟩, fun y c e => ?_, e0.hok.fresh (Nat.le_refl _), fun y c e => ?_, fun q hq => absurd (show q ∈ ([] : List (Addr × Obj)) ++ [] from hq) (by simp), e0.hok.kept kp, I.len⟩
  · have hy : scope.names.lookup y = some .cell ∨ scope.names.lookup y = some .free := hy
    rcases hy with hy | hy
    · exact absurd rfl (L.own _ (PySem.mem_of_lookup hy)).1
    · exact look hy
  · have z : false = true := z
    cases z
  · have e3 : Vis scope y := e3
    have e1 : X.N[i]? = some y := e1
    rcases e3 with k | k | k
    · exact absurd (List.mem_of_getElem? e1) ((L.own _ (PySem.mem_of_lookup k)).2 rfl)
    · exact absurd rfl (L.own _ (PySem.mem_of_lookup k)).1
    · obtain ⟨m, hn, hl⟩ := I.loc
      have hvis : Vis X.env.scope y := (L.free _ (PySem.mem_of_lookup k) rfl).elim (fun k => .inr (.inl k)) (fun k => .inr (.inr k))
      obtain ⟨w', r, q⟩ := hl i y v e1 e2 hvis
      obtain ⟨c2, h2⟩ := look k
      refine ⟨w', r, .inr ⟨.inr k, c2, h2, ?_⟩⟩
      have c1 := cm h2
      rcases q with ⟨k', _⟩ | ⟨_, c3, e', z⟩
      · have k' : X.env.scope.names.lookup y = some .local := k'
        rcases L.free _ (PySem.mem_of_lookup k) rfl with k2 | k2 <;> rw [show X.env.scope.names.lookup y = _ from k2] at k' <;> cases k'
      · rw [c1] at e'
        cases e'
        exact cellK (I.freeC y _ c1) z
  · obtain ⟨w', z⟩ := I.cell y c (cm e)
    exact ⟨w', cellK (I.freeC y c (cm e)) z⟩
  · obtain ⟨v, o, ho, hd⟩ := I.cell y c (cm e)
    exact un.free c o ho (I.freeC y c (cm e)) (by simp)
/-- how its one parameter is bound by its default -/
def Binds1 (params : Arguments) (body : Expr) (scope : Scope) (a1 : Str) (n : Int) : Prop := ∀ (q : Str) (cl : List (Str × Addr)) (T : Addr) (doc pm cv ctv : Value), ∃ k,
  bindArgs (PySem.W.kdv_fn "<lambda>" q params (.expr body) scope cl (.ref T) doc pm cv ctv) ⟨[], []⟩ = seqItems? (.ref T) >>= k ∧ ∀ td : Tok, k (some #[.int n td]) = pure [(a1, .int n td)]
/-- x(), in the def that got the lambda -/
theorem pe_act1 {CXg : CXT} {Eg : XK} {Ng : List Str} {qg : Str} {sg : Scope} {g f c' Ta : Addr} {cdg doc pm ctv : Value} {params : Arguments} {body : Expr} {scope : Scope} {k i : Nat} {a a1 : Str} {n : Int} {td : Tok} {pn : List (Addr × Obj)} {xe : Value → Shared → Prop} {W : WX} {E : XK} {tb : TE} {p1 p2 : Pos}
    (I : Inv X pins σ H s) (L : LamS1 X.N X.env.scope scope a1) (hf : s.heap.get? f = some (PySem.W.kdv_obj "<lambda>" (X.env.qual ++ "<lambda>") params (.expr body) scope (cloFrom X.env.cells scope.names []) (.ref Ta) doc pm c' ctv)) (hfn : H f = none) (hfr : f ∉ frs X.stack)
    (hT : s.heap.get? Ta = some (PySem.W.kdv_tup [.int n td])) (hTn : H Ta = none) (hTr : Ta ∉ frs X.stack) (hbind : Binds1 params body scope a1 n)
    (tk : Takes ((cxOf CXg X.prog X.w X.K X.mg X.base Ng qg sg g cdg X.A X.stack s H Eg).tr pn xe) W) (hW : ∀ cls d σ' H', E cls d H' → W cls d σ' H') (hr : Room (k + 1) (X.A.deeper (envOfC qg sg s.heap.objs.size g cdg)))
    (hbody : ∀ (A : Around) (outer : List Env) (s : Shared) (H : Hp), Room k (A.deeper (lamEnv X scope s.heap.objs.size f c')) → PE (lamCx X A outer s H E scope f c') body tb)
    (hN : Ng[i]? = some a) (hv : Vis sg a) (hd : (a == ("__debug__" : Str)) = false := by decide) (hcd : (a == ("__classdict__" : Str)) = false := by decide) :
    PE ((cxOf CXg X.prog X.w X.K X.mg X.base Ng qg sg g cdg X.A X.stack s H Eg).tr pn xe) (.Call (.Name a p1) [] [] p2)
      (fun σZ HZ Q => σZ[i]? = some (some (.ref f)) ∧ HZ c' = some (CodeO c' (X.env.qual ++ "<lambda>")) ∧ tb σ HZ Q) := by
  refine ⟨fun pinsZ sZ σZ HZ Q IZ h => ?_⟩
  obtain ⟨hs, hc, ht⟩ := h
  refine wpAny_Call_Name_kw (thn ((pe_var (pos := p1) (i := i) hN hv hd hcd).run pinsZ sZ σZ HZ (fun v H1 => v = .ref f ∧ H1 = HZ) IZ ⟨.ref f, hs, rfl, rfl⟩) fun u s1 ⟨v, H1, I1, r1, q1⟩ => ?_)
  obtain ⟨ev, eH⟩ := q1
  subst ev
  rw [eH] at I1
  obtain rfl : u = Value.ref f := r1
  have of1 : s1.heap.get? f = some (PySem.W.kdv_obj "<lambda>" (X.env.qual ++ "<lambda>") params (.expr body) scope (cloFrom X.env.cells scope.names []) (.ref Ta) doc pm c' ctv) := I1.base.keep f _ hf hfn hfr (fun z => nomatch (show f ∈ ([] : List Addr) from z))
  have oT1 : s1.heap.get? Ta = some (PySem.W.kdv_tup [.int n td]) := I1.base.keep Ta _ hT hTn hTr (fun z => nomatch (show Ta ∈ ([] : List Addr) from z))
  refine PySem.W.callWith_F0 ⟨_, _, _, _, of1⟩ ?_
  have un : Un (frs X.stack) [] H HZ s.heap s1.heap := I1.base
  obtain ⟨⟨oc, vs, t, hoc, hdc, hvc⟩, _, _⟩ := I1.hok c' _ hc
  have rc : codeAny (model X.prog X.w) (X.A.deeper (envOfC qg sg s.heap.objs.size g cdg)) (.call (.ref f) ⟨[], []⟩) (CR (L2.CX X.prog X.w) (envOfC qg sg s.heap.objs.size g cdg :: X.stack) X.prog X.w HZ s1 Q E) s1 := by
    refine PySem.W.kla_callFunE hr.depth of1 rfl L.co L.gen rfl ⟨c', oc, vs, t, rfl, hoc, hdc, hvc⟩ ?_
    obtain ⟨kk, e1, e2⟩ := hbind (X.env.qual ++ "<lambda>") (cloFrom X.env.cells scope.names []) Ta doc pm (.ref c') ctv
    rw [e1]
    refine wpAny_bind (wpAny_seqItems oT1 rfl ?_)
    rw [show (#[Value.int n td] : Array Value) = [Value.int n td].toArray from rfl] at *
    rw [e2 td]
    refine wpAny_pure (wpAny_newFunctionEnv (fun y hy => (L.own y hy).1) (fun y hy => ?_) (fun h₁ hns hsb => ⟨I1.nolimit.fresh _ hsb, ?_⟩) L.kind)
    · rw [List.mem_singleton] at hy
      rw [hy]
      exact L.loc
    show codeAny _ _ (.expr body (lamEnv X scope s1.heap.objs.size f c')) _ _
    have kp : ∀ b o, s1.heap.get? b = some o → h₁.get? b = some o := fun b o e => hsb.extBut b o (Nat.ne_of_lt (Heap.lt_size e)) (Heap.get?_push_of_some _ e)
    have J : Inv (lamCx X (X.A.deeper (envOfC qg sg s.heap.objs.size g cdg)) (envOfC qg sg s.heap.objs.size g cdg :: X.stack) s1 HZ E scope f c') [] σ HZ { s1 with heap := h₁, toks := s1.toks + [(a1, Value.int n td)].length } :=
      lam_start1 I L I1.env0 hr.hd un hns kp
    refine PySem.W.kla_codeExpr (wpAny_mono ((hbody _ _ s1 HZ (hr.deeper _)).run [] _ _ HZ Q J ht) (fun v s' hq => ?_) fun e s' hq => hq)
    obtain ⟨w', H', J', rv, q⟩ := hq
    exact ⟨w', H', J'.os, J'.bare, J'.base, J'.hok, rv, q⟩
  have hx : Passes (L2.CX X.prog X.w) ((cxOf CXg X.prog X.w X.K X.mg X.base Ng qg sg g cdg X.A X.stack s H Eg).tr pn xe) E := passes_call tk hW
  refine wpAny_call (codeAny_mono rc fun r s' hq => ?_)
  cases r with
  | error e => exact hx pinsZ σZ HZ s1 e s' I1 hq
  | ok fl =>
    cases fl with
    | ret u => exact I1.after hq
    | next => exact False.elim hq
    | brk => exact False.elim hq
    | cont => exact False.elim hq
/-- x(lambda a1=n: body) -/
theorem pe_lamcall1 {T : List (Addr × Str)} {TT : (XK → Hp → VK → Prop) → Hp → VK → Prop} {x a a1 : Str} {n : Int} {jn : Nat} {dp : Pos} {g c P : Addr} {k : Nat} {pg : Arguments} {bg : List Stmt} {sg : Scope} {dV kV doc pm cdv ct oc : Value} {an od : Option Addr} {osl : Array (Option Value)} {Ng : List Str}
    {params : Arguments} {body : Expr} {scope : Scope} {t : XK → TE} {p lpos pos : Pos} (hg : Gl X x) (hm : X.mg x = some (.ref g)) (hk : PySem.W.keepIn X.K (.ref g) = true)
    (lk : X.K.lookup g = some ⟨oc, od, .func (PySem.W.fnOf x x pg bg sg dV kV doc pm an cdv ct), osl⟩) (hcg : PySem.W.codeIn X.K cdv x = true) (hb : L2.Binds X.K (PySem.W.fnOf x x pg bg sg dV kV doc pm an cdv ct) [a] []) (Sg : FnScope Ng [a] sg) (hNg : Ng[0]? = some a) (hva : Vis sg a)
    (hG : GivesTo X Ng x sg g cdv bg a (X.env.qual ++ "<lambda>") TT)
    (TB : TabB X.base X.mg c P) (hcode : X.env.code = .ref c) (hmT : (P, X.env.qual ++ "<lambda>") ∈ T) (hu : ∀ p ∈ T, p.1 = P → p.2 = X.env.qual ++ "<lambda>") (hr : Room (k + 2) X.A) (L : LamS1 X.N X.env.scope scope a1) (hdef : defaultsOf params X.env = ([eval (.Constant (.int n) jn dp) X.env], [])) (hkw : params.kwonlyargs = [])
    (hbind : Binds1 params body scope a1 n)
    (hbody : ∀ (A : Around) (outer : List Env) (s : Shared) (H : Hp) (E : XK) (f c' : Addr), Room k (A.deeper (lamEnv X scope s.heap.objs.size f c')) → PE (lamCx X A outer s H E scope f c') body (t E))
    (hdb : (x == ("__debug__" : Str)) = false := by decide) (hd : (a == ("__debug__" : Str)) = false := by decide) (hcd : (a == ("__classdict__" : Str)) = false := by decide) :
    PE X (.Call (.Name x p) [.Lambda params body scope lpos] [] pos) (tLam T TT t) := by
  refine ⟨fun pins s σ H Q I h => ?_⟩
  obtain ⟨hT, h⟩ := h
  refine wpAny_Call_Name_kw (ld_glob I hg hm ?_ hdb)
  refine PySem.W.callWith_K (h₀ := X.base) I.ok.mod.kin hk ?_ (by rfl) (by rfl)
  show wpAny _ _ (spliced ((false, eval (.Lambda params body scope lpos) X.env) :: backTo pos (starEach [] X.env))) _ _ s
  refine Calls.spliced_cons (lam_make1 I TB hcode hmT hu hT hdef hkw (L.has I.ok) fun f c' Ta td doc' pm' ctv H1 s' I1 eN T1 hf hfn hfr hTt hTn hTr hco => ?_)
  refine Calls.spliced_nil ⟨I1.kIn, ?_⟩
  have rc : codeAny (model X.prog X.w) X.A (.call (.ref g) ⟨[.ref f], []⟩) (CR C8.CX0 X.stack X.prog X.w H1 s' Q C8.E0) s' := by
    refine run_ofS (N := Ng) (ps := [a]) (us := [.ref f]) (vs := [.ref f]) lk hcg Sg hr I1.env0 (hb s' [.ref f] I1.kIn rfl) (.cons rfl .nil) rfl fun hr' => ?_
    obtain ⟨t', ht', hq'⟩ := hG f c' s' H1 Q (fun E H' Q' => t E σ H' Q') (fun W pn xe E p1 p2 tk hW => pe_act1 (i := 0) I1 L hf hfn hfr hTt hTn hTr hbind tk hW hr' (fun A outer s H hr2 => hbody A outer s H E f c' hr2) hNg hva hd hcd) hco (h H1 eN T1)
    exact ⟨t', ht'.nox, hq'⟩
  refine wpAny_call (codeAny_mono rc fun r s2 hq => ?_)
  cases r with
  | error e => exact (show False from hq).elim
  | ok fl =>
    cases fl with
    | ret u => exact I1.after hq
    | next => exact False.elim hq
    | brk => exact False.elim hq
    | cont => exact False.elim hq
end
end LamD
set_option Elab.async false
set_option linter.all false
set_option maxRecDepth 100000
set_option maxHeartbeats 4000000
namespace DL
open PySem L2 Evl NdefX XcS
/-! ### raise of an error that keeps one part -/
structure ErC (K : PySem.W.Frag) (mg : Str → Option Value) (x : Str) (D C fI : Addr) : Prop where
  sup : SupC K D C
  noP : PySem.W.findIn K (.ref C) "part" = some none
  ini : PySem.W.findIn K (.ref C) "__init__" = some (some (.ref fI))
  tI : PySem.W.typeIn K (.ref fI) = some (.type "function")
  mgC : mg x = some (.ref C)
def spPart (K : PySem.W.Frag) (D : Addr) : Sp := fun vs H Q _ => ∃ a C y, vs = [.ref a, y] ∧ H a = some (exo a C none) ∧ SupC K D C ∧ PySem.W.findIn K (.ref C) "part" = some none ∧ ∀ dx, H dx = none → dx ≠ a → Q .non (upd (upd H dx (exd dx [("part", y)])) a (exo a C (some dx)))
/-- the error class at C may be raised -/
structure Er (P : Program) (w : World) (K : PySem.W.Frag) (mg : Str → Option Value) (base : Heap) (x : Str) (C : Addr) : Prop where
  ex : ∃ (D fI : Addr) (fd : FuncData), ErC K mg x D C fI ∧ FnOk P w K mg base CX0 1 fI fd ["self", "part"] (spPart K D) ∧ Binds K fd ["self", "part"] []
def wRaise (C : Addr) (wa : WE) : WS := fun Qe _ s => wa Qe s fun d s1 => Qe C [("part", d)] s1.n
section
variable {X : Cx} {E : XK} {a : Expr} {wa : WE} {pos pos2 p : Pos} {x : Str} {C : Addr}
theorem ds_raise (Ec : Er X.prog X.w X.K X.mg X.base x C) (hr : Room 2 X.A) (hs : X.stack = X.env :: X.outer) (hf : X.env.frame = some X.env.locals) (hex : X.ex = []) {E₁ : Value → Shared → Prop}
    (hx : X.xe = fun e s' => wpAny (model X.prog X.w) X.A (leaving X.env e) (fun _ s'' => L2.CX X.prog X.w X.outer X.H_0 X.s_0 E e s'') E₁ s') (ha : DE X E a wa) (hc : X.calm = true := by rfl) (hg : Gl X x := by rfl)
    (hdb : (x == ("__debug__" : Str)) = false := by decide) (he : starEach [a] X.env = (false, eval a X.env) :: starEach [] X.env := by rfl) (hpl : (backTo pos (starEach [] X.env)).any (·.1) = false := by rfl) :
    DS X E (.Raise (some (.Call (.Name x p) [a] [] pos)) none pos2) (wRaise C wa) := by
  obtain ⟨t, h1, h2⟩ := ha.ex
  obtain ⟨D, fI, fd, Ec, I, bI⟩ := Ec.ex
  refine ⟨_, ps_raise hc (takes_of hs hf hex hx) (pmk_oex Ec.sup.ox Ec.ini Ec.tI I hr bI .nil pass0 hg Ec.mgC (pa_cons h1 pa_nil he) hdb he hpl), fun A Qe W σ H G s De Dh R eo q => ?_⟩
  refine h2 A Qe W σ H G s _ _ R q fun v H1 G1 d s1 R1 g1 d1 q1 => ⟨(by show 1 ≤ 1000; decide), fun b hb => ?_⟩
  refine ⟨b, C, v, rfl, upd_same, Ec.sup, Ec.noP, fun dx hdx hne => ⟨rfl, dx, [("part", v)], upd_same, ?_, ?_, ?_⟩⟩
  · rw [upd_ne hne, upd_same]
  · rw [upd_ne hne] at hdx
    exact hdx
  · rw [upd_ne hne] at hdx
    have keep : ∀ c o, H1 c = some o → (upd (del (upd (upd (upd H1 b (exo b C none)) dx (exd dx [("part", v)])) b (exo b C (some dx))) b) dx (HO.xd [("part", v)])) c = some o := fun c o hc => by
      have n1 := ne_of_none hc hb
      have n2 := ne_of_none hc hdx
      rw [upd_ne n2, del_ne n1, upd_ne n1, upd_ne n2, upd_ne n1]
      exact hc
    have g : Grow A.pen s1.n.st H1 G1 s1.n.st (upd (del (upd (upd (upd H1 b (exo b C none)) dx (exd dx [("part", v)])) b (exo b C (some dx))) b) dx (HO.xd [("part", v)])) G1 :=
      ⟨fun c o _ _ hc => keep c o hc, Ex.refl _, fun c _ h => .inl h, fun c o hc => keep c o (R1.an.e c o hc), R1.pn.none, R1.an.t, fun _ h => .inl h, fun c hc => by
        obtain ⟨o, ho⟩ := Option.ne_none_iff_exists'.mp hc
        rw [keep c o ho]
        exact fun z => nomatch z⟩
    have gp : PenG X.K A.pen s1.n G1 (upd (del (upd (upd (upd H1 b (exo b C none)) dx (exd dx [("part", v)])) b (exo b C (some dx))) b) dx (HO.xd [("part", v)])) :=
      R1.pn.up (Ex.refl _) R1.pn.none R1.an.t keep fun a ha => R1.pn.gnone ha
    exact W.er C [("part", d)] s1.n dx _ G1 [("part", v)] (R1.an.trans g) gp upd_same ⟨rfl, .cons d1 .nil⟩ q1
end
end DL
set_option Elab.async false
set_option linter.all false
set_option maxRecDepth 100000
set_option maxHeartbeats 4000000
namespace DL
open PySem L2 Evl
/-! ### a promise of the hand layer, taken over: the def is run where nothing but the frozen lists, tuples, dicts is tracked -/
def part (G : Hp) : Hp := fun a => match G a with
  | some (.lst xs) => some (.lst xs)
  | some (.tup xs) => some (.tup xs)
  | some (.dK kvs) => some (.dK kvs)
  | some (.frz o (.tup xs)) => some (.frz o (.tup xs))
  | _ => none
theorem part_frz {G : Hp} {a : Addr} {o : Obj} {xs : List V} (h : G a = some (.frz o (.tup xs))) : part G a = some (.frz o (.tup xs)) := by
  unfold part
  rw [h]
theorem part_ex (G : Hp) : Ex (part G) G := fun a o h => by
  unfold part at h
  split at h <;> first | (cases h; assumption) | cases h
theorem part_lst {G : Hp} {a : Addr} {xs : List V} (h : G a = some (.lst xs)) : part G a = some (.lst xs) := by
  unfold part
  rw [h]
theorem part_tup {G : Hp} {a : Addr} {xs : List V} (h : G a = some (.tup xs)) : part G a = some (.tup xs) := by
  unfold part
  rw [h]
theorem part_dK {G : Hp} {a : Addr} {kvs : List (Key × V)} (h : G a = some (.dK kvs)) : part G a = some (.dK kvs) := by
  unfold part
  rw [h]
theorem obj_there {P : Program} {w : World} {H : Hp} {h : Heap} {a : Addr} {o : HO} (x : ObjOk P w H h a o) : ∃ u, h.get? a = some u := by
  cases o with
  | lst xs => obtain ⟨_, _, _, _, e⟩ := x; exact ⟨_, e⟩
  | tup xs => obtain ⟨_, _, _, u, e, _⟩ := x; exact ⟨_, e⟩
  | dK kvs => obtain ⟨_, _, _, _, o, _, _, e, _⟩ := x; exact ⟨_, e⟩
  | dT kvs => obtain ⟨_, _, _, _, o, _, _, e, _⟩ := x; exact ⟨_, e⟩
  | set S n => obtain ⟨o, _, _, _, e, _⟩ := x; exact ⟨_, e⟩
  | ins C dx fs => obtain ⟨_, _, _, e, _⟩ := x; exact ⟨_, e⟩
  | own y => exact x
  | xd fs => obtain ⟨_, ⟨_, _, _, e, _⟩, _⟩ := x; exact ⟨_, e⟩
  | rng lo hi => obtain ⟨_, _, _, e⟩ := x; exact ⟨_, e⟩
  | frz ob u => exact ⟨_, x.1⟩
  | tbl ps => exact ⟨_, (show h.get? a = some _ from x)⟩
  | met f y => exact ⟨_, (show h.get? a = some _ from x)⟩
  | ext φ => exact x.2.1
theorem part_ok {P : Program} {w : World} {H H' G : Hp} {h : Heap} {a : Addr} {o : HO} (hp : part G a = some o) (x : ObjOk P w H h a o) : ObjOk P w H' h a o := by
  unfold part at hp
  split at hp <;> first | (cases hp; exact x) | cases hp
/-- without tables -/
def noTb (o : Option HO) : Option HO := match o with
  | some (.tbl _) => none
  | o => o
theorem noTb_some {o : Option HO} {u : HO} (h : noTb o = some u) : o = some u ∧ ∀ ps, u ≠ .tbl ps := by
  unfold noTb at h
  split at h
  · cases h
  · rename_i hx
    exact ⟨h, fun ps z => hx ps (by rw [h, z])⟩
theorem noTb_of {o : Option HO} {u : HO} (h : o = some u) (n : ∀ ps, u ≠ .tbl ps) : noTb o = some u := by
  subst h
  unfold noTb
  split
  · rename_i ps e
    exact (n ps (Option.some.inj e)).elim
  · rfl
theorem SqT.upN {K : PySem.W.Frag} {G G' : Hp} (e : ∀ a o, (∀ ps, o ≠ .tbl ps) → G a = some o → G' a = some o) {a : Addr} {xs : List V} (h : SqT K G a xs) : SqT K G' a xs := by
  rcases h with (h | ⟨o, h⟩) | h
  · exact .inl (.inl (e _ _ (fun ps z => nomatch z) h))
  · exact .inl (.inr ⟨o, e _ _ (fun ps z => nomatch z) h⟩)
  · exact .inr h
section
variable {K : PySem.W.Frag} {pen : Addr} {G G' : Hp}
mutual
theorem Dx.upN (e : ∀ a o, (∀ ps, o ≠ .tbl ps) → G a = some o → G' a = some o) : ∀ (d : D) (v : V), Dx K pen G v d → Dx K pen G' v d
  | .non, _, h => by cases h; exact .non
  | .bl b, _, h => by cases h; exact .bl b
  | .int i, _, h => by cases h; exact .int i
  | .str x, _, h => by cases h; exact .str x
  | .lst ds, _, h => by
    cases h with
    | lst hs ha => exact .lst (e _ _ (fun ps z => nomatch z) hs) (DxAll.upN e ds _ ha)
  | .tup ds, _, h => by
    cases h with
    | tup hs ha => exact .tup (SqT.upN e hs) (DxAll.upN e ds _ ha)
  | .dct ks ds, _, h => by
    cases h with
    | dct hs hl ha => exact .dct (e _ _ (fun ps z => nomatch z) hs) hl (DxAll.upN e ds _ ha)
  | .loc _, _, h => by cases h; exact .loc
  | .pen, _, h => by cases h; exact .pen
  | .obj C ns ds, _, h => by
    cases h with
    | obj hs hl ha => exact .obj (e _ _ (fun ps z => nomatch z) hs) hl (DxAll.upN e ds _ ha)
theorem DxAll.upN (e : ∀ a o, (∀ ps, o ≠ .tbl ps) → G a = some o → G' a = some o) : ∀ (ds : List D) (vs : List V), DxAll K pen G vs ds → DxAll K pen G' vs ds
  | [], _, h => by cases h; exact .nil
  | d :: ds, _, h => by
    cases h with
    | cons h1 h2 => exact .cons (Dx.upN e d _ h1) (DxAll.upN e ds _ h2)
end
end
theorem okFrame {P : Program} {w : World} {K : PySem.W.Frag} {mg : Str → Option Value} {base : Heap} {k : Nat} {f : Addr} {fd : FuncData} {ps : List Str} {sp : Sp} {spd : DSp} (F : FnOk P w K mg base CX0 k f fd ps sp) (len : ∀ ds n Qd Qe, spd ds n Qd Qe → ds.length = ps.length)
    (hsp : ∀ (pen : Addr) (G : Hp) (n : M) (vs : List V) (ds : List D) (Qd : D → M → Prop) (Qe : WQ), DxAll K pen G vs ds → spd ds n Qd Qe → sp vs (part G) (fun v H' => Ex (part G) H' ∧ ∃ d, Dx K pen H' v d ∧ Qd d n) fun _ _ _ => False) :
    FnOk P w K mg base (L2.CX P w) k f fd ps (spD K spd) := by
  refine ⟨fun vs H Q E h => ?_, fun A outer s H args us vs Q E hr e0 hb hv h => ?_⟩
  · obtain ⟨pen, G, n, ds, Qd, Qe, h1, h2, h3, h4, _⟩ := h
    rw [h3.length]
    exact len _ _ _ _ h4
  · obtain ⟨pen, G, n, ds, Qd, Qe, h1, h2, h3, h4, h5, h6⟩ := h
    have noR : ∀ a, H a = none → part G a = none := fun a ha => by
      cases e : part G a with
      | none => rfl
      | some o => rw [h1 a o (part_ex G a o e)] at ha; cases ha
    have eR : Env0 P w K mg base A outer s (part G) := ⟨e0.frames, e0.mod, fun b o hbo => ⟨(e0.bs b o hbo).1, noR b (e0.bs b o hbo).2⟩, e0.bsz, e0.funs, fun b hbo => noR b (e0.frf b hbo), fun a o ha => part_ok ha (e0.hok a o (h1 a o (part_ex G a o ha))), e0.bare⟩
    refine codeAny_mono (F.run A outer s (part G) args us vs _ _ hr eR hb hv (hsp pen G n vs ds Qd Qe h3 h4)) fun r s' hq => ?_
    cases r with
    | error e => exact (show False from hq).elim
    | ok fl =>
      cases fl with
      | next => exact (show False from hq).elim
      | brk => exact (show False from hq).elim
      | cont => exact (show False from hq).elim
      | ret u =>
        obtain ⟨v, H', os, bare, un, hok, rv, ex, d, dd, q⟩ := hq
        have old : ∀ a o, H a = some o → part G a = none → H' a = none := fun a o ha hp => by
          obtain ⟨u, hu⟩ := obj_there (e0.hok a o ha)
          exact un.free a u hu hp (by simp)
        have same : ∀ a o o', H a = some o → H' a = some o' → o' = o := fun a o o' ha ha' => by
          cases hp : part G a with
          | none => rw [old a o ha hp] at ha'; cases ha'
          | some z =>
            have z1 := ex a z hp
            have z2 := h1 a z (part_ex G a z hp)
            rw [ha'] at z1
            rw [ha] at z2
            cases z1
            cases z2
            rfl
        let H2 : Hp := fun a => match H a with
          | some o => some o
          | none => H' a
        have H2s : ∀ a o, H a = some o → H2 a = some o := fun a o ha => by show (match H a with | some o => some o | none => H' a) = _; rw [ha]
        have H2n : ∀ a, H a = none → H2 a = H' a := fun a ha => by show (match H a with | some o => some o | none => H' a) = _; rw [ha]
        have H2' : ∀ a o, H' a = some o → H2 a = some o := fun a o ha => by
          cases e : H a with
          | none => rw [H2n a e]; exact ha
          | some z => rw [H2s a z e, same a z o e ha]
        have stayM : ∀ a o, H a = some o → part G a = none → ∀ u, s.heap.get? a = some u → s'.heap.get? a = some u := fun a o ha hp u hu =>
          un.keep a u hu hp (fun z => by rw [e0.frf a z] at ha; cases ha) (by simp)
        have hok2 : HOk P w H2 s'.heap := fun a o ha => by
          cases e : H a with
          | some z =>
            rw [H2s a z e] at ha
            cases ha
            cases hp : part G a with
            | some y =>
              have y1 := h1 a y (part_ex G a y hp)
              rw [e] at y1
              cases y1
              exact part_ok hp (hok a _ (ex a _ hp))
            | none =>
              refine (e0.hok a _ e).stay (fun b u hb2 hu => ?_) (fun b hb2 => H2s b _ hb2) fun b xs hb2 => H2s b _ hb2
              rcases hb2 with rfl | hb2
              · exact stayM _ _ e hp u hu
              · refine stayM b _ hb2 ?_ u hu
                cases hp2 : part G b with
                | none => rfl
                | some y =>
                  have y1 := h1 b y (part_ex G b y hp2)
                  rw [hb2] at y1
                  cases y1
                  unfold part at hp2
                  split at hp2 <;> cases hp2
          | none =>
            rw [H2n a e] at ha
            exact (hok a o ha).stay (fun b u _ hu => hu) (fun b hb2 => H2' b _ hb2) fun b xs hb2 => H2' b _ hb2
        let G2 : Hp := fun a => match G a with
          | some o => some o
          | none => match H a with
            | some _ => none
            | none => noTb (H' a)
        have G2s : ∀ a o, G a = some o → G2 a = some o := fun a o ha => by show (match G a with | some o => some o | none => match H a with | some _ => none | none => noTb (H' a)) = _; rw [ha]
        have G2n : ∀ a, G a = none → H a ≠ none → G2 a = none := fun a ha hh => by
          show (match G a with | some o => some o | none => match H a with | some _ => none | none => noTb (H' a)) = _
          rw [ha]
          cases e : H a with
          | none => exact absurd e hh
          | some z => rfl
        have G2f : ∀ a, H a = none → G2 a = noTb (H' a) := fun a hh => by
          have hg : G a = none := fresh_back h1 hh
          show (match G a with | some o => some o | none => match H a with | some _ => none | none => noTb (H' a)) = _
          rw [hg, hh]
        have gr : Grow pen n.st H G n.st H2 G2 := ⟨fun a o _ _ ha => H2s a o ha, G2s, fun a ha hg => .inl (G2n a hg ha), fun a o ha => by
          cases hg : G a with
          | some z =>
            rw [G2s a z hg] at ha
            cases ha
            exact H2s a _ (h1 a _ hg)
          | none =>
            cases hh : H a with
            | some z => rw [G2n a hg (by rw [hh]; exact fun z => nomatch z)] at ha; cases ha
            | none =>
              rw [G2f a hh] at ha
              rw [H2n a hh]
              exact (noTb_some ha).1, G2n pen h2.none h2.some, fun a ps ha => by
          cases hg : G a with
          | some z =>
            rw [G2s a z hg] at ha
            cases ha
            exact h2.noT a ps hg
          | none =>
            cases hh : H a with
            | some z => rw [G2n a hg (by rw [hh]; exact fun z => nomatch z)] at ha; cases ha
            | none =>
              rw [G2f a hh] at ha
              exact (noTb_some ha).2 ps rfl, fun _ h => .inl h, fun a ha => by
          obtain ⟨o, ho⟩ := Option.ne_none_iff_exists'.mp ha
          rw [H2s a o ho]
          exact fun z => nomatch z⟩
        have e2 : ∀ a o, (∀ ps, o ≠ .tbl ps) → H' a = some o → G2 a = some o := fun a o no ha => by
          cases hh : H a with
          | none => rw [G2f a hh]; exact noTb_of ha no
          | some z =>
            cases hp : part G a with
            | none => rw [old a z hh hp] at ha; cases ha
            | some y =>
              have y1 := ex a y hp
              rw [ha] at y1
              cases y1
              exact G2s a _ (part_ex G a _ hp)
        refine ⟨v, H2, os, bare, ⟨fun b o hbo hn hf hx => un.keep b o hbo (noR b hn) hf hx, fun b o hbo hn hf hx => un.slot b o hbo (noR b hn) hf hx, fun b o hbo hn hx => by rw [H2n b hn]; exact un.free b o hbo (noR b hn) hx, fun b o hbo hx => un.there b o hbo hx,
          fun b xs hb2 => H2s b _ hb2, fun b o u hb2 => H2s b _ hb2, fun b qs hb2 => ⟨#[], by rw [H2s b _ hb2, Array.append_empty]⟩⟩, hok2, rv, ?_⟩
        exact h5 v H2 G2 d n gr (h2.up gr.g gr.p gr.t H2s fun a ha => G2n a (h2.gnone ha) (by
          cases z : n.st a with
          | none => exact absurd z ha
          | some o => exact (h2.at z).isSome)) (Dx.upN e2 d v dd) q
end DL
set_option Elab.async false
set_option linter.all false
set_option maxRecDepth 100000
set_option maxHeartbeats 4000000
/-! own: zip of any number of tuples -/
namespace ZnT
open PySem PySem.Spec PyProof.Rows L2
theorem nz {a b : Nat} (h : a < b ∨ b < a) : a ≠ b := by omega
theorem sz6 {k : Nat} (h : k ≤ 6) : k ≤ sizeLine := Nat.le_trans h (by decide)
/-- a zip as it may stand between two turns -/
def ZAt (h : Heap) (z TI TO : Addr) : Prop :=
  ∃ o f, h.get? z = some { cls := .type "zip", dict := none, data := .fields #[o, .bool f, .bool false, .ref TI, .ref TO], slots := #[] } ∧ (o = .none ∨ ∃ T : Nat, o = rawInt T)
abbrev ZIs (h : Heap) (z TI TO : Addr) (o : Value) (f : Bool) : Prop :=
  h.get? z = some { cls := .type "zip", dict := none, data := .fields #[o, .bool f, .bool false, .ref TI, .ref TO], slots := #[] }
abbrev TupA (h : Heap) (T : Addr) (vs : Array Value) : Prop := h.get? T = some { cls := .type "tuple", data := .seq vs }
section
variable {prog : Program} {w : World} {A : Around} {E : Value → Shared → Prop} {s : Shared}
theorem forIn_run {α β : Type} {M : Model} {A : Around} {E : Value → Shared → Prop} {f : α → β → Sem (ForInStep β)} (J : Nat → β → Shared → Prop) {Q : β → Shared → Prop} : ∀ (l : List α) (k : Nat) (b : β) (s : Shared),
    (∀ (j : Nat) (x : α) (b : β) (s : Shared), l[j]? = some x → J (k + j) b s → wpAny M A (f x b) (fun r s' => ∃ b', r = .yield b' ∧ J (k + j + 1) b' s') E s) →
    J k b s → (∀ b s, J (k + l.length) b s → Q b s) → wpAny M A (forIn l b f) Q E s
  | [], k, b, s, _, h0, hq => by
    rw [List.forIn_nil]
    exact wpAny_pure (hq b s h0)
  | x :: l, k, b, s, hs, h0, hq => by
    rw [List.forIn_cons]
    refine wpAny_bind (wpAny_mono (hs 0 x b s rfl h0) (fun r s' hr => ?_) fun _ _ z => z)
    obtain ⟨b', rfl, h1⟩ := hr
    refine forIn_run J l (k + 1) b' s' (fun j y b s hy hj => ?_) h1 fun b s hj => hq b s (by rw [List.length_cons]; rw [show k + (l.length + 1) = k + 1 + l.length by omega]; exact hj)
    rw [show k + 1 + j = k + (j + 1) by omega] at hj ⊢
    exact hs (j + 1) y b s hy hj
theorem isFree {z TI TO : Addr} {Q : Bool → Shared → Prop} (hz : ZAt s.heap z TI TO) (hf : Q true s) (hh : ∀ h' o, ZIs h' z TI TO o true → (o = .none ∨ ∃ T : Nat, o = rawInt T) → Heap.SameBut z s.heap h' → Q false { s with heap := h' }) :
    wpAny (model prog w) A (Builtin.SmallTypes.ownedTupleIsFree (.ref z)) Q E s := by
  obtain ⟨o, f, hz, ho⟩ := hz
  unfold Builtin.SmallTypes.ownedTupleIsFree
  rcases ho with rfl | ⟨T, rfl⟩
  · exact wpAny_bind (wpAny_field hz rfl (x := .none) rfl (wpAny_pure hf))
  refine wpAny_bind (wpAny_field hz rfl (x := rawInt T) rfl ?_)
  show wpAny _ _ (loadIfAlive ((T : Int).toNat) >>= _) _ _ _
  rw [Int.toNat_natCast]
  cases hT : s.heap.get? T with
  | none =>
    have al : ∀ {Q : Option Obj → Shared → Prop}, Q none s → wpAny (model prog w) A (loadIfAlive T) Q E s := fun {Q} h => by
      have h' : Q (s.heap.get? T) s := by rw [hT]; exact h
      exact fun _ _ _ => h'
    refine wpAny_bind (al ?_)
    simp only [Option.isNone_none, if_true]
    exact wpAny_pure hf
  | some oT =>
    refine wpAny_bind (PySem.W.kdx_alive hT ?_)
    simp only [Option.isNone_some, Bool.false_eq_true, if_false]
    refine wpAny_bind (wpAny_field hz rfl (x := .bool f) rfl ?_)
    cases f with
    | true =>
      rw [if_neg (show ¬ ((Value.bool true != Value.bool true) = true) from Bool.false_ne_true)]
      exact wpAny_pure (hh s.heap _ hz (.inr ⟨T, rfl⟩) (Heap.SameBut.refl _ _))
    | false =>
      rw [if_pos (show (Value.bool false != Value.bool true) = true from rfl)]
      exact wpAny_bind (wpAny_setField_rec hz (by simp) fun h₁ hz₁ hs₁ => wpAny_pure (hh h₁ _ hz₁ (.inr ⟨T, rfl⟩) hs₁))
theorem upd_tup {T : Addr} {x : Value} {k : Nat} {arr : Array Value} {Q : Unit → Shared → Prop} (hT : TupA s.heap T arr) (h6 : arr.size ≤ 6)
    (h : ∀ h', TupA h' T (arr.setIfInBounds k x) → Heap.SameBut T s.heap h' → Q () { s with heap := h' }) :
    wpAny (model prog w) A (updateSeq T (·.setIfInBounds k x)) Q E s := by
  refine wpAny_updateSeq hT rfl (h _ ?_ (Heap.SameBut.update ..)) (sz6 h6) (Nat.le_succ_of_le (sz6 (by rw [Array.size_setIfInBounds]; exact h6)))
  show Heap.get? _ _ = _
  rw [Heap.get?_update_self _ hT rfl]
  simp [Obj.mapSeq]
/-- where the cells of a zip of n tuples lie -/
structure ZSt (h : Heap) (base n : Nat) (ts : Nat → Nat) (i : Nat) : Prop where
  z : ZAt h (base + n + 2) (base + n) (base + n + 1)
  ti : TupA h (base + n) ((List.range n).map fun j => Value.ref (base + j)).toArray
  to : ∃ old : Array Value, TupA h (base + n + 1) old ∧ old.size = n
  its : ∀ j, j < n → h.IsTupleIter (base + j) (ts j) i
theorem range_get {n j : Nat} {f : Nat → Value} {x : Value} (h : ((List.range n).map f)[j]? = some x) : j < n ∧ x = f j := by
  rw [List.getElem?_map] at h
  have hj : j < n := by
    cases hr : (List.range n)[j]? with
    | none => rw [hr] at h; cases h
    | some y => have := (List.getElem?_eq_some_iff.mp hr).1; simpa using this
  rw [List.getElem?_range hj] at h
  exact ⟨hj, (Option.some.inj h).symm⟩
/-- in a turn: k of the iterators drawn -/
structure Mid (h0 h : Heap) (base n : Nat) (ts : Nat → Nat) (i k : Nat) : Prop where
  old : ∀ j, j < k → j < n → h.IsTupleIter (base + j) (ts j) (i + 1)
  new : ∀ j, k ≤ j → j < n → h.IsTupleIter (base + j) (ts j) i
  sz : h.objs.size = h0.objs.size
  keep : ∀ (c : Nat) o, (c < base ∨ base + n ≤ c) → c ≠ base + n + 1 → h0.get? c = some o → h.get? c = some o
theorem Mid.step {h0 h h' : Heap} {base n i k : Nat} {ts : Nat → Nat} (m : Mid h0 h base n ts i k) (hk : k < n) (hi : h'.IsTupleIter (base + k) (ts k) (i + 1)) (sb : Heap.SameBut (base + k) h h') : Mid h0 h' base n ts i (k + 1) where
  old := fun j hj hn => by
    by_cases e : j = k
    · subst e; exact hi
    · exact (m.old j (by omega) hn).at fun o q => sb.extBut _ _ (nz (by omega)) q
  new := fun j hj hn => (m.new j (by omega) hn).at fun o q => sb.extBut _ _ (nz (by omega)) q
  sz := sb.1.trans m.sz
  keep := fun c o hc hn q => sb.extBut _ _ (nz (by omega)) (m.keep c o hc hn q)
theorem Mid.over {h0 h h' : Heap} {base n i k : Nat} {ts : Nat → Nat} (m : Mid h0 h base n ts i k) (sb : Heap.SameBut (base + n + 1) h h') : Mid h0 h' base n ts i k where
  old := fun j hj hn => (m.old j hj hn).at fun o q => sb.extBut _ _ (nz (by omega)) q
  new := fun j hj hn => (m.new j hj hn).at fun o q => sb.extBut _ _ (nz (by omega)) q
  sz := sb.1.trans m.sz
  keep := fun c o hc hn q => sb.extBut _ _ hn (m.keep c o hc hn q)
theorem next_item {base n i : Nat} {ts : Nat → Nat} {items : Nat → Array Value} {vals : Nat → Value} {Q : Value → Shared → Prop} (st : ZSt s.heap base n ts i) (hn : 1 ≤ n) (h6 : n ≤ 6) (lt : ∀ j, j < n → ts j < base) (hT : ∀ j, j < n → s.heap.IsTuple (ts j) (items j)) (hv : ∀ j, j < n → (items j)[i]? = some (vals j))
    (hQ : ∀ h', ZSt h' base n ts (i + 1) → TupA h' s.heap.objs.size ((List.range n).map vals).toArray → h'.objs.size = s.heap.objs.size + 1 → (∀ (c : Nat) o, (c < base ∨ base + n + 3 ≤ c) → s.heap.get? c = some o → h'.get? c = some o) → Q (.ref s.heap.objs.size) { s with heap := h' }) :
    wpAny (model prog w) A (Builtin.«zip.__next__» ⟨[.ref (base + n + 2)], []⟩) (fun fin s' => ∃ v, fin = .done (.ret v) ∧ Q v s') E s := by
  obtain ⟨hp, g, d, tk0, os⟩ := s
  obtain ⟨hz0, hTI, ⟨oldv, hTO, hosz⟩, hits⟩ := st
  obtain ⟨o, f, hz, ho⟩ := id hz0
  show wpAny _ _ (field (.ref (base + n + 2)) 2 >>= _) _ _ _
  refine wpAny_bind (wpAny_field hz rfl (x := .bool false) rfl ?_)
  show wpAny _ _ (field (.ref (base + n + 2)) 3 >>= _) _ _ _
  refine wpAny_bind (wpAny_field hz rfl (x := .ref (base + n)) rfl ?_)
  refine wpAny_bind (wpAny_seqItems hTI rfl ?_)
  dsimp only
  have hne : ((List.range n).map fun j => Value.ref (base + j)).toArray.isEmpty = false := by
    rw [List.isEmpty_toArray]
    cases n with
    | zero => omega
    | succ m => rw [List.range_succ_eq_map]; rfl
  rw [hne]
  simp only [Bool.false_eq_true, if_false]
  refine wpAny_bind (isFree hz0 ?_ fun h1 o1 hz1 ho1 hs1 => ?_)
  · simp only [if_true]
    refine wpAny_bind (wpAny_rule ?_)
    refine wpAny_bind (wpAny_field hz rfl (x := .ref (base + n + 1)) rfl ?_)
    refine wpAny_bind (wpAny_setField_rec hz (by simp) fun g0 hz0 hs0 => ?_)
    replace hz0 : ZIs g0 (base + n + 2) (base + n) (base + n + 1) .ellipsis f := hz0
    replace hs0 : Heap.SameBut (base + n + 2) hp g0 := hs0
    have m0 : Mid g0 g0 base n ts i 0 := ⟨fun j hj => absurd hj (Nat.not_lt_zero _), fun j _ hj => (hits j hj).at fun o q => hs0.extBut _ _ (nz (by omega)) q, rfl, fun c o _ _ q => q⟩
    refine wpAny_bind (forIn_run (fun k b s' => b = (none, ()) ∧ ∃ h' arr, s' = ⟨h', g, d, tk0, os⟩ ∧ Mid g0 h' base n ts i k ∧ TupA h' (base + n + 1) arr ∧ arr.size = n ∧ ∀ j, j < k → arr[j]? = some (vals j)) _ 0 _ _ (fun j x b s' hj J => ?_) ?_ fun b s' J => ?_)
    · obtain ⟨rfl, h', arr, rfl, m, ha, hsz, hva⟩ := J
      rw [Nat.zero_add] at m hva ⊢
      rw [List.getElem?_zipIdx] at hj
      obtain ⟨y, hy, rfl⟩ := Option.map_eq_some_iff.mp hj
      obtain ⟨hjn, rfl⟩ := range_get hy
      refine wpAny_bind (wpAny_onRaise ?_)
      show wpAny _ _ (Builtin.SmallTypes.nextOf (.ref (base + j)) >>= _) _ _ _
      have hTj : Heap.IsTuple h' (ts j) (items j) := (hT j hjn).at fun o q => m.keep _ _ (.inl (lt j hjn)) (by have := lt j hjn; omega) (hs0.extBut _ _ (nz (by have := lt j hjn; omega)) q)
      refine wpAny_bind (RZ.nextOf_tuple_item (s := ⟨h', g, d, tk0, os⟩) (m.new j (Nat.le_refl _) hjn) hTj (hv j hjn) fun h2 hi2 hs2 => wpAny_pure ?_)
      replace hs2 : Heap.SameBut (base + j) h' h2 := hs2
      have ha2 : TupA h2 (base + n + 1) arr := hs2.extBut _ _ (nz (by omega)) ha
      refine wpAny_bind (wpAny_seqItems (s := ⟨h2, g, d, tk0, os⟩) ha2 rfl ?_)
      dsimp only
      refine wpAny_bind (upd_tup (s := ⟨h2, g, d, tk0, os⟩) ha2 (by rw [hsz]; exact h6) fun h3 ha3 hs3 => ?_)
      replace hs3 : Heap.SameBut (base + n + 1) h2 h3 := hs3
      refine wpAny_bind (wpAny_letGo (wpAny_pure ⟨_, rfl, rfl, h3, _, rfl, (m.step hjn hi2 hs2).over hs3, ha3, ?_, fun q hq => ?_⟩))
      · rw [Array.size_setIfInBounds]; exact hsz
      · rw [Array.getElem?_setIfInBounds, Nat.zero_add]
        split
        · rename_i e
          rw [if_pos (by omega), ← e]
        · exact hva q (by omega)
    · exact ⟨rfl, g0, oldv, rfl, m0, hs0.extBut _ _ (nz (by omega)) hTO, hosz, fun j hj => absurd hj (Nat.not_lt_zero _)⟩
    · obtain ⟨rfl, h', arr, rfl, m, ha, hsz, hva⟩ := J
      have hlen : 0 + (((List.range n).map fun j => Value.ref (base + j)).toArray.toList.zipIdx).length = n := by simp
      rw [hlen] at m hva
      have harr : arr = ((List.range n).map vals).toArray := by
        refine Array.ext (by simp [hsz]) fun q h1 h2 => ?_
        have := hva q (by omega)
        rw [Array.getElem?_eq_getElem h1] at this
        simp [Option.some.inj this]
      dsimp only
      refine wpAny_bind (wpAny_seqItems (s := ⟨h', g, d, tk0, os⟩) ha rfl ?_)
      dsimp only
      refine wpAny_bind (wpAny_newTuple ?_ (sz6 (by simp [hsz]; exact h6)))
      have hsz' : h'.objs.size = hp.objs.size := m.sz.trans hs0.1
      have hzz : ZIs h' (base + n + 2) (base + n) (base + n + 1) .ellipsis f := m.keep _ _ (by omega) (by omega) hz0
      have hzlt : base + n + 2 < h'.objs.size := Heap.lt_size hzz
      refine wpAny_bind ?_
      unfold Builtin.SmallTypes.ownedTupleHandOut
      have hz₆ : ZIs (h'.push { cls := .type "tuple", data := .seq arr.toList.toArray }) (base + n + 2) (base + n) (base + n + 1) .ellipsis f := Heap.get?_push_of_some _ hzz
      refine wpAny_bind (wpAny_setField_rec hz₆ (by simp) fun h₇ hz₇ hs₇ => ?_)
      replace hz₇ : ZIs h₇ (base + n + 2) (base + n) (base + n + 1) (rawInt h'.objs.size) f := hz₇
      refine wpAny_setField_rec hz₇ (by simp) fun h₈ hz₈ hs₈ => ?_
      replace hz₈ : ZIs h₈ (base + n + 2) (base + n) (base + n + 1) (rawInt h'.objs.size) false := hz₈
      replace hs₇ : Heap.SameBut (base + n + 2) (h'.push { cls := .type "tuple", data := .seq arr.toList.toArray }) h₇ := hs₇
      replace hs₈ : Heap.SameBut (base + n + 2) h₇ h₈ := hs₈
      have up : ∀ (c : Nat) o, c ≠ base + n + 2 → h'.get? c = some o → h₈.get? c = some o := fun c o c1 e => hs₈.extBut _ _ c1 (hs₇.extBut _ _ c1 (Heap.get?_push_of_some _ e))
      have hT₈ : TupA h₈ h'.objs.size arr.toList.toArray := hs₈.extBut _ _ (Nat.ne_of_gt hzlt) (hs₇.extBut _ _ (Nat.ne_of_gt hzlt) (Heap.get?_push_size _ rfl))
      have hz8 : h₈.objs.size = h'.objs.size + 1 := by rw [hs₈.1, hs₇.1, Heap.size_push]
      refine wpAny_pure ⟨_, rfl, ?_⟩
      show Q (.ref h'.objs.size) ⟨h₈, g, d, tk0, os⟩
      rw [hsz'] at hT₈ hz8 hz₈ ⊢
      rw [harr] at hT₈
      refine hQ h₈ ⟨⟨_, _, hz₈, .inr ⟨_, rfl⟩⟩, up _ _ (nz (by omega)) (m.keep _ _ (by omega) (by omega) (hs0.extBut _ _ (nz (by omega)) hTI)), ⟨arr, up _ _ (nz (by omega)) ha, hsz⟩, fun j hj => (m.old j hj hj).at fun o q => up _ _ (nz (by omega)) q⟩ hT₈ hz8 fun c o hc q => up _ _ (nz (by omega)) (m.keep _ _ (by omega) (by omega) (hs0.extBut _ _ (nz (by omega)) q))
  · simp only [Bool.false_eq_true, if_false]
    replace hs1 : Heap.SameBut (base + n + 2) hp h1 := hs1
    have m0 : Mid h1 h1 base n ts i 0 := ⟨fun j hj => absurd hj (Nat.not_lt_zero _), fun j _ hj => (hits j hj).at fun o q => hs1.extBut _ _ (nz (by omega)) q, rfl, fun c o _ _ q => q⟩
    rw [← Array.forIn_toList]
    refine wpAny_bind (forIn_run (fun k b s' => b = (none, ((List.range k).map vals).toArray) ∧ ∃ h', s' = ⟨h', g, d, tk0, os⟩ ∧ Mid h1 h' base n ts i k ∧ h'.get? (base + n + 1) = hp.get? (base + n + 1)) _ 0 _ _ (fun j x b s' hj J => ?_) ?_ fun b s' J => ?_)
    · obtain ⟨rfl, h', rfl, m, ha⟩ := J
      rw [Nat.zero_add] at m ⊢
      obtain ⟨hjn, rfl⟩ := range_get hj
      refine wpAny_bind (wpAny_holding ?_)
      show wpAny _ _ (Builtin.SmallTypes.nextOf (.ref (base + j)) >>= _) _ _ _
      have hTj : Heap.IsTuple h' (ts j) (items j) := (hT j hjn).at fun o q => m.keep _ _ (.inl (lt j hjn)) (by have := lt j hjn; omega) (hs1.extBut _ _ (nz (by have := lt j hjn; omega)) q)
      refine wpAny_bind (RZ.nextOf_tuple_item (s := ⟨h', g, d, tk0, os⟩) (m.new j (Nat.le_refl _) hjn) hTj (hv j hjn) fun h2 hi2 hs2 => wpAny_pure ?_)
      replace hs2 : Heap.SameBut (base + j) h' h2 := hs2
      refine wpAny_pure ⟨_, rfl, ?_, h2, rfl, m.step hjn hi2 hs2, (hs2.2 _ (nz (by omega))).trans ha⟩
      rw [List.range_succ, List.map_append]
      simp
    · exact ⟨rfl, h1, rfl, m0, hs1.2 _ (nz (by omega))⟩
    · obtain ⟨rfl, h', rfl, m, ha⟩ := J
      have hlen : 0 + ((List.range n).map fun j => Value.ref (base + j)).toArray.toList.length = n := by simp
      rw [hlen] at m ⊢
      dsimp only
      refine wpAny_bind (wpAny_newTuple ?_ (sz6 (by simp ; exact h6)))
      have hsz' : h'.objs.size = hp.objs.size := m.sz.trans hs1.1
      have hzz : ZIs h' (base + n + 2) (base + n) (base + n + 1) o1 true := m.keep _ _ (by omega) (by omega) hz1
      refine wpAny_pure ⟨_, rfl, ?_⟩
      have up : ∀ c o, h'.get? c = some o → (h'.push { cls := .type "tuple", data := .seq ((List.range n).map vals).toArray.toList.toArray }).get? c = some o := fun c o e => Heap.get?_push_of_some _ e
      have hT₈ : TupA (h'.push { cls := .type "tuple", data := .seq ((List.range n).map vals).toArray.toList.toArray }) h'.objs.size ((List.range n).map vals).toArray := Heap.get?_push_size _ rfl
      have hz8 : (h'.push { cls := .type "tuple", data := .seq ((List.range n).map vals).toArray.toList.toArray }).objs.size = h'.objs.size + 1 := Heap.size_push ..
      show Q (.ref h'.objs.size) ⟨_, g, d, tk0, os⟩
      rw [hsz'] at hT₈ hz8 ⊢
      exact hQ _ ⟨⟨_, _, up _ _ hzz, ho1⟩, up _ _ (m.keep _ _ (by omega) (by omega) (hs1.extBut _ _ (nz (by omega)) hTI)), ⟨oldv, up _ _ (ha.trans hTO), hosz⟩, fun j hj => (m.old j hj hj).at fun o q => up _ _ q⟩ hT₈ hz8 fun c o hc q => up _ _ (m.keep _ _ (by omega) (by omega) (hs1.extBut _ _ (nz (by omega)) q))
theorem next_end {base n i : Nat} {ts : Nat → Nat} {items : Nat → Array Value} {Q : Fin → Shared → Prop} (hh : A.handled = none) (st : ZSt s.heap base n ts i) (hn : 1 ≤ n) (lt : ∀ j, j < n → ts j < base) (hT : ∀ j, j < n → s.heap.IsTuple (ts j) (items j)) (hv : ∀ j, j < n → (items j)[i]? = none)
    (hE : ∀ h' e, (∀ (c : Nat) o, (c < base ∨ base + n + 3 ≤ c) → s.heap.get? c = some o → h'.get? c = some o) → (∃ o, h'.get? e = some o ∧ o.cls = .type "StopIteration") → E (.ref e) { s with heap := h' }) :
    wpAny (model prog w) A (Builtin.«zip.__next__» ⟨[.ref (base + n + 2)], []⟩) Q E s := by
  obtain ⟨hp, g, d, tk0, os⟩ := s
  obtain ⟨hz0, hTI, ⟨oldv, hTO, hosz⟩, hits⟩ := st
  obtain ⟨o, f, hz, ho⟩ := id hz0
  obtain ⟨m, rfl⟩ : ∃ m, n = m + 1 := ⟨n - 1, by omega⟩
  generalize hL : (List.range (m + 1)).map (fun j => Value.ref (base + j)) = L at hTI
  have hLc : ∃ L', L = Value.ref (base + 0) :: L' := by rw [← hL, List.range_succ_eq_map]; exact ⟨_, rfl⟩
  obtain ⟨L', rfl⟩ := hLc
  have b0 := lt 0 hn
  show wpAny _ _ (field (.ref (base + (m + 1) + 2)) 2 >>= _) _ _ _
  refine wpAny_bind (wpAny_field hz rfl (x := .bool false) rfl ?_)
  show wpAny _ _ (field (.ref (base + (m + 1) + 2)) 3 >>= _) _ _ _
  refine wpAny_bind (wpAny_field hz rfl (x := .ref (base + (m + 1))) rfl ?_)
  refine wpAny_bind (wpAny_seqItems hTI rfl ?_)
  dsimp only
  rw [List.isEmpty_toArray]
  simp only [List.isEmpty_cons, Bool.false_eq_true, if_false]
  refine wpAny_bind (isFree hz0 ?_ fun h1 o1 hz1 ho1 hs1 => ?_)
  · simp only [if_true]
    refine wpAny_bind (wpAny_rule ?_)
    refine wpAny_bind (wpAny_field hz rfl (x := .ref (base + (m + 1) + 1)) rfl ?_)
    refine wpAny_bind (wpAny_setField_rec hz (by simp) fun g0 hz0 hs0 => ?_)
    replace hz0 : ZIs g0 (base + (m + 1) + 2) (base + (m + 1)) (base + (m + 1) + 1) .ellipsis f := hz0
    replace hs0 : Heap.SameBut (base + (m + 1) + 2) hp g0 := hs0
    rw [List.zipIdx_cons, List.forIn_cons]
    refine wpAny_bind (wpAny_bind (wpAny_bind (wpAny_onRaise ?_)))
    show wpAny _ _ (Builtin.SmallTypes.nextOf (.ref (base + 0)) >>= _) _ _ _
    have hTj : Heap.IsTuple g0 (ts 0) (items 0) := (hT 0 hn).at fun o q => hs0.extBut _ _ (nz (by omega)) q
    refine wpAny_bind (RZ.nextOf_tuple_end (s := ⟨g0, g, d, tk0, os⟩) hh ((hits 0 hn).at fun o q => hs0.extBut _ _ (nz (by omega)) q) hTj (hv 0 hn) fun h2 e hs2 he => ?_)
    obtain ⟨oe, hoe, hce⟩ := he
    have hz₂ : ZIs h2 (base + (m + 1) + 2) (base + (m + 1)) (base + (m + 1) + 1) .ellipsis f := hs2 _ _ (nz (by omega)) hz0
    have hez : e ≠ base + (m + 1) + 2 := fun x => by subst x; rw [hz₂] at hoe; cases hoe; simp at hce
    refine wpAny_setField_rec (s := ⟨h2, g, d, tk0, os⟩) hz₂ (by simp) fun h₃ _ hs₃ => ?_
    replace hs₃ : Heap.SameBut (base + (m + 1) + 2) h2 h₃ := hs₃
    exact hE h₃ e (fun c o hc x => hs₃.extBut _ _ (nz (by omega)) (hs2 _ _ (nz (by omega)) (hs0.extBut _ _ (nz (by omega)) x))) ⟨oe, hs₃.extBut _ _ hez hoe, hce⟩
  · simp only [Bool.false_eq_true, if_false]
    replace hs1 : Heap.SameBut (base + (m + 1) + 2) hp h1 := hs1
    rw [← Array.forIn_toList, List.forIn_cons]
    refine wpAny_bind (wpAny_bind (wpAny_bind (wpAny_holding ?_)))
    show wpAny _ _ (Builtin.SmallTypes.nextOf (.ref (base + 0)) >>= _) _ _ _
    have hTj : Heap.IsTuple h1 (ts 0) (items 0) := (hT 0 hn).at fun o q => hs1.extBut _ _ (nz (by omega)) q
    refine wpAny_bind (RZ.nextOf_tuple_end (s := ⟨h1, g, d, tk0, os⟩) hh ((hits 0 hn).at fun o q => hs1.extBut _ _ (nz (by omega)) q) hTj (hv 0 hn) fun h2 e hs2 he => ?_)
    exact hE h2 e (fun c o hc x => hs2 _ _ (nz (by omega)) (hs1.extBut _ _ (nz (by omega)) x)) he
theorem ZSt.is {h : Heap} {base n i : Nat} {ts : Nat → Nat} (st : ZSt h base n ts i) : ∃ o : Obj, h.get? (base + n + 2) = some o ∧ o.cls = .type "zip" := by
  obtain ⟨o, f, hz, _⟩ := st.z
  exact ⟨_, hz, rfl⟩
theorem pyNext_item {base n i : Nat} {ts : Nat → Nat} {items : Nat → Array Value} {vals : Nat → Value} {Q : Option Value → Shared → Prop} (st : ZSt s.heap base n ts i) (hn : 1 ≤ n) (h6 : n ≤ 6) (lt : ∀ j, j < n → ts j < base) (hT : ∀ j, j < n → s.heap.IsTuple (ts j) (items j)) (hv : ∀ j, j < n → (items j)[i]? = some (vals j))
    (hQ : ∀ h', ZSt h' base n ts (i + 1) → TupA h' s.heap.objs.size ((List.range n).map vals).toArray → h'.objs.size = s.heap.objs.size + 1 → (∀ (c : Nat) o, (c < base ∨ base + n + 3 ≤ c) → s.heap.get? c = some o → h'.get? c = some o) → Q (some (.ref s.heap.objs.size)) { s with heap := h' }) :
    wpAny (model prog w) A (pyNext (.ref (base + n + 2))) Q E s := by
  have hTy : s.TypeIs (.ref (base + n + 2)) "zip" := st.is
  unfold pyNext
  exact wpAny_bind (wpAny_attempt (wpAny_callSpecial?_slot (name := Str.ofString "__next__") hTy F.slot_zip_next
    (wpAny_call_entry F.slot_zip_next hTy F.entry_zip_next
      (next_item st hn h6 lt hT hv fun h' a1 a2 a3 a4 => wpAny_pure (hQ h' a1 a2 a3 a4)) (F.args_zip_next_1 _))))
theorem pyNext_end {base n i : Nat} {ts : Nat → Nat} {items : Nat → Array Value} {Q : Option Value → Shared → Prop} (hh : A.in1.handled = none) (st : ZSt s.heap base n ts i) (hn : 1 ≤ n) (lt : ∀ j, j < n → ts j < base) (hT : ∀ j, j < n → s.heap.IsTuple (ts j) (items j)) (hv : ∀ j, j < n → (items j)[i]? = none)
    (hQ : ∀ h', (∀ (c : Nat) o, (c < base ∨ base + n + 3 ≤ c) → s.heap.get? c = some o → h'.get? c = some o) → Q none { s with heap := h' }) : wpAny (model prog w) A (pyNext (.ref (base + n + 2))) Q E s := by
  have hTy : s.TypeIs (.ref (base + n + 2)) "zip" := st.is
  unfold pyNext
  refine wpAny_bind (wpAny_attempt (wpAny_callSpecial?_slot (name := Str.ofString "__next__") hTy F.slot_zip_next
    (wpAny_call_entry F.slot_zip_next hTy F.entry_zip_next (next_end hh st hn lt hT hv fun h' e hk he => ?_) (F.args_zip_next_1 _))))
  obtain ⟨o, ho, hc⟩ := he
  refine wpAny_bind (wpAny_isInstance (T := "StopIteration") (b := true) ⟨o, ho, hc⟩ isSubtype_stop ?_)
  exact wpAny_pure (hQ _ hk)
theorem pyIter_zip {base n i : Nat} {ts : Nat → Nat} {Q : Value → Shared → Prop} (st : ZSt s.heap base n ts i) (h : Q (.ref (base + n + 2)) s) : wpAny (model prog w) A (pyIter (.ref (base + n + 2))) Q E s := by
  have hT : s.TypeIs (.ref (base + n + 2)) "zip" := st.is
  refine wpAny_pyIter_slot hT F.slot_zip_iter (wpAny_call_entry F.slot_zip_iter hT F.entry_zip_iter ?_ (F.args_zip_iter_1 _))
  show wpAny _ _ (ret (.ref (base + n + 2))) _ _ s
  exact wpAny_pure ⟨_, rfl, "zip", _, hT, F.slot_zip_next.lookup, h⟩
theorem iterAll_run {ts : List Nat} {Q : List Value → Shared → Prop} (hT : ∀ t ∈ ts, ∃ items, s.heap.IsTuple t items)
    (hQ : ∀ h', (∀ j t, ts[j]? = some t → h'.IsTupleIter (s.heap.objs.size + j) t 0) → h'.objs.size = s.heap.objs.size + ts.length → (∀ c o, s.heap.get? c = some o → h'.get? c = some o) → Q ((List.range ts.length).map fun j => Value.ref (s.heap.objs.size + j)) { s with heap := h' }) :
    wpAny (model prog w) A (Builtin.SmallTypes.iterAll (ts.map fun t => Value.ref t)) Q E s := by
  obtain ⟨hp, g, d, tk0, os⟩ := s
  unfold Builtin.SmallTypes.iterAll
  refine wpAny_bind (forIn_run (fun k b s' => b = ((List.range k).map fun j => Value.ref (hp.objs.size + j)).toArray ∧ ∃ h', s' = ⟨h', g, d, tk0, os⟩ ∧ (∀ j t, j < k → ts[j]? = some t → h'.IsTupleIter (hp.objs.size + j) t 0) ∧ h'.objs.size = hp.objs.size + k ∧ ∀ c o, hp.get? c = some o → h'.get? c = some o) _ 0 _ _ (fun j x b s' hj J => ?_) ?_ fun b s' J => ?_)
  · obtain ⟨rfl, h', rfl, hi, hsz, hk⟩ := J
    rw [Nat.zero_add] at hi hsz ⊢
    rw [List.getElem?_map] at hj
    obtain ⟨t, ht, rfl⟩ := Option.map_eq_some_iff.mp hj
    obtain ⟨items, hti⟩ := hT t (List.mem_of_getElem? ht)
    refine wpAny_bind (wpAny_holding ?_)
    refine wpAny_pyIter_tuple (s := ⟨h', g, d, tk0, os⟩) (hti.at fun o q => hk _ _ q) (wpAny_pure ⟨_, rfl, ?_, _, rfl, fun q u hq hu => ?_, ?_, fun c o q => Heap.get?_push_of_some _ (hk _ _ q)⟩)
    · rw [List.range_succ, List.map_append]
      simp [hsz]
    · by_cases e : q = j
      · subst e
        rw [ht] at hu
        cases hu
        rw [← hsz]
        exact ⟨_, Heap.get?_push_size _ rfl, rfl, rfl⟩
      · exact (hi q u (by omega) hu).at fun o z => Heap.get?_push_of_some _ z
    · rw [Heap.size_push, hsz]
      omega
  · exact ⟨rfl, hp, rfl, fun j t hj => absurd hj (Nat.not_lt_zero _), rfl, fun _ _ q => q⟩
  · obtain ⟨rfl, h', rfl, hi, hsz, hk⟩ := J
    rw [List.length_map, Nat.zero_add] at hi hsz
    rw [List.length_map, Nat.zero_add]
    exact wpAny_pure (hQ h' (fun j t q => hi j t (List.getElem?_eq_some_iff.mp q).1 q) hsz hk)
theorem new_zip (ts : List Nat) (h6 : ts.length ≤ 6) :
    Meets (Builtin.«zip.__new__» ⟨.type "zip" :: ts.map (fun t => Value.ref t), []⟩) (fun _ R s => (∀ t ∈ ts, ∃ items, s.heap.IsTuple t items) ∧
      ∀ h', ZSt h' s.heap.objs.size ts.length (fun j => ts.getD j 0) 0 → (∀ c o, s.heap.get? c = some o → h'.get? c = some o) → R (.ok (.ret (.ref (s.heap.objs.size + ts.length + 2)))) { s with heap := h' }) :=
  .of_wp fun prog w A R s h => by
    obtain ⟨hp, g, d, tk, os⟩ := s; obtain ⟨hl, h⟩ := h
    have hsub := sub_zip
    unfold Builtin.«zip.__new__»
    have nc : ∀ {A : Around} {E : Value → Shared → Prop} {s : Shared} {us : List Value} {Q : Value × List Value → Shared → Prop}, Q (.type "zip", us) s → wpAny (model prog w) A (Builtin.SmallTypes.newClass "zip" ⟨.type "zip" :: us, []⟩) Q E s := fun {A E s us Q} h => by
      unfold Builtin.SmallTypes.newClass
      wp_walk
      exact h
    refine wpAny_bind (nc ?_)
    show wpAny _ _ (Builtin.SmallTypes.iterAll (ts.map fun t => Value.ref t) >>= _) _ _ _
    refine wpAny_bind (iterAll_run (s := ⟨hp, g, d, tk, os⟩) hl fun h1 hi hsz hk => ?_)
    replace hsz : h1.objs.size = hp.objs.size + ts.length := hsz
    refine wpAny_bind (wpAny_newTuple ?_ (sz6 (by simp; exact h6)))
    refine wpAny_bind (wpAny_newTuple ?_ (sz6 (by simp; exact h6)))
    refine wpAny_bind ?_
    unfold Builtin.SmallTypes.newRecord
    show wpAny _ _ (newObj (.type "zip") (.fields #[.none, .bool false, .bool false, _, _])) _ _ _
    refine wpAny_newObj_type ?_ (by size_fits)
    refine wpAny_pure ⟨_, rfl, ?_⟩
    generalize hL : ((List.range ts.length).map fun j => Value.ref (hp.objs.size + j)) = L
    have z1 : (h1.push { cls := .type "tuple", data := .seq L.toArray }).objs.size = hp.objs.size + ts.length + 1 := by rw [Heap.size_push, hsz]
    have z2 : ((h1.push { cls := .type "tuple", data := .seq L.toArray }).push { cls := .type "tuple", data := .seq (L.map fun _ => Value.none).toArray }).objs.size = hp.objs.size + ts.length + 2 := by rw [Heap.size_push, z1]
    have g1 : TupA (h1.push { cls := .type "tuple", data := .seq L.toArray }) h1.objs.size L.toArray := Heap.get?_push_size _ rfl
    have g2 : TupA ((h1.push { cls := .type "tuple", data := .seq L.toArray }).push { cls := .type "tuple", data := .seq (L.map fun _ => Value.none).toArray }) (h1.push { cls := .type "tuple", data := .seq L.toArray }).objs.size (L.map fun _ => Value.none).toArray := Heap.get?_push_size _ rfl
    generalize hA : h1.push { cls := .type "tuple", data := .seq L.toArray } = h2 at z1 z2 g1 g2
    generalize hB : h2.push { cls := .type "tuple", data := .seq (L.map fun _ => Value.none).toArray } = h3 at z2 g2
    show R (.ok (.ret (.ref h3.objs.size))) ⟨h3.push { cls := .type "zip", data := .fields #[.none, .bool false, .bool false, .ref h1.objs.size, .ref h2.objs.size] }, g, d, tk, os⟩
    have k2 : ∀ c o, h1.get? c = some o → h2.get? c = some o := fun c o q => by rw [← hA]; exact Heap.get?_push_of_some _ q
    have k3 : ∀ c o, h2.get? c = some o → h3.get? c = some o := fun c o q => by rw [← hB]; exact Heap.get?_push_of_some _ q
    have g3 : Heap.get? (h3.push { cls := .type "zip", data := .fields #[.none, .bool false, .bool false, .ref h1.objs.size, .ref h2.objs.size] }) h3.objs.size = some _ := Heap.get?_push_size _ rfl
    generalize hC : h3.push { cls := .type "zip", data := .fields #[.none, .bool false, .bool false, .ref h1.objs.size, .ref h2.objs.size] } = h4 at g3 ⊢
    have k4 : ∀ c o, h3.get? c = some o → h4.get? c = some o := fun c o q => by rw [← hC]; exact Heap.get?_push_of_some _ q
    rw [hsz] at g1 g3
    rw [z1] at g2 g3
    rw [z2] at g3 ⊢
    refine h h4 ⟨⟨_, _, g3, .inl rfl⟩, ?_, ⟨_, k4 _ _ g2, by simp [← hL]⟩, fun j hj => ?_⟩ fun c o q => k4 _ _ (k3 _ _ (k2 _ _ (hk _ _ q)))
    · rw [← hL] at g1
      exact k4 _ _ (k3 _ _ g1)
    · have hj2 : ts[j]? = some (ts.getD j 0) := by
        rw [List.getD_eq_getElem?_getD, List.getElem?_eq_getElem hj]; rfl
      exact (hi j _ hj2).at fun o q => k4 _ _ (k3 _ _ (k2 _ _ q))
theorem typeCall_zip (us : List Value) : checkTypeCall "zip" ⟨us, []⟩ = pure () := by kernel_rfl
theorem newCall_zip : ∀ (us : List Value), us.length ≤ 6 → checkBuiltinCall "zip.__new__" ⟨.type "zip" :: us, []⟩ = pure ()
  | [], _ => by kernel_rfl
  | [_], _ => by kernel_rfl
  | [_, _], _ => by kernel_rfl
  | [_, _, _], _ => by kernel_rfl
  | [_, _, _, _], _ => by kernel_rfl
  | [_, _, _, _, _], _ => by kernel_rfl
  | [_, _, _, _, _, _], _ => by kernel_rfl
  | _ :: _ :: _ :: _ :: _ :: _ :: _ :: _, h => by simp at h
theorem args_init : ∀ (us : List Value), us.length ≤ 7 → argsOk "object.__init__" ⟨us, []⟩
  | us, h => by
    unfold argsOk; rw [signature?_of (id := "object.__init__") (n := ['_', '_', 't', 'i', 'n', 'i', '_', '_']) (o := ['t', 'c', 'e', 'j', 'b', 'o']) (by kernel_rfl) F.owner_object]
    match us, h with
    | [], _ => kernel_rfl
    | [_], _ => kernel_rfl
    | [_, _], _ => kernel_rfl
    | [_, _, _], _ => kernel_rfl
    | [_, _, _, _], _ => kernel_rfl
    | [_, _, _, _, _], _ => kernel_rfl
    | [_, _, _, _, _, _], _ => kernel_rfl
    | [_, _, _, _, _, _, _], _ => kernel_rfl
    | _ :: _ :: _ :: _ :: _ :: _ :: _ :: _ :: _, h => simp at h

end
end ZnT
set_option Elab.async false
set_option linter.all false
set_option maxRecDepth 100000
set_option maxHeartbeats 4000000
/-! own: zip(*rows) as an iterator of the hand layer -/
namespace ZnT
open PySem PySem.Spec PyProof.Rows L2
/-- the tuples at ts as they stand at each turn, the items in new tuples -/
def ItzN (K : PySem.W.Frag) (ts : List Addr) : It :=
  ⟨fun i H => ∃ (f : Nat → List V) (x : Nat → V), ∀ j, j < ts.length → SqT K H (ts.getD j 0) (f j) ∧ (f j)[i]? = some (x j),
    fun i H v H' => ∃ (T : Addr) (x : Nat → V), v = .ref T ∧ H T = none ∧ H' = upd H T (.tup ((List.range ts.length).map x)) ∧ ∀ j, j < ts.length → ∀ ys, SqT K H (ts.getD j 0) ys → ys[i]? = some (x j),
    fun i H => ∃ f : Nat → List V, ∀ j, j < ts.length → SqT K H (ts.getD j 0) (f j) ∧ (f j).length ≤ i⟩
theorem vals_map {x : Nat → V} {u : Nat → Value} : ∀ l : List Nat, (∀ j ∈ l, RelV (x j) (u j)) → Vals (l.map x) (l.map u)
  | [], _ => .nil
  | a :: l, h => .cons (h a (List.mem_cons_self ..)) (vals_map l fun j hj => h j (List.mem_cons_of_mem _ hj))
def fpN (base n : Nat) : List Nat := (List.range (n + 3)).map fun j => base + j
theorem mem_fpN {base n c : Nat} : c ∈ fpN base n ↔ base ≤ c ∧ c < base + n + 3 := by
  unfold fpN
  rw [List.mem_map]
  constructor
  · rintro ⟨j, hj, rfl⟩
    have := List.mem_range.mp hj
    omega
  · rintro ⟨h1, h2⟩
    exact ⟨c - base, List.mem_range.mpr (by omega), by show base + (c - base) = c; omega⟩
theorem out_fpN {base n c : Nat} (hb : c ∉ fpN base n) : c < base ∨ base + n + 3 ≤ c := by
  by_cases z : c < base
  · exact .inl z
  · exact .inr (Nat.le_of_not_lt fun z2 => hb (mem_fpN.mpr ⟨by omega, z2⟩))
theorem ZSt.objs {h : Heap} {base n i : Nat} {ts : Nat → Nat} (st : ZSt h base n ts i) : ∀ (c : Nat), c ∈ fpN base n → ∃ o, h.get? c = some o ∧ ∀ v, o.data ≠ .cell v := fun c hc => by
  obtain ⟨h1, h2⟩ := mem_fpN.mp hc
  by_cases e : c < base + n
  · obtain ⟨o, e1, _, d1⟩ := st.its (c - base) (by omega)
    rw [show base + (c - base) = c by omega] at e1
    exact ⟨o, e1, fun v q => by rw [d1] at q; cases q⟩
  · by_cases e2 : c = base + n
    · rw [e2]; exact ⟨_, st.ti, fun v q => nomatch q⟩
    · by_cases e3 : c = base + n + 1
      · obtain ⟨old, ho, _⟩ := st.to
        rw [e3]; exact ⟨_, ho, fun v q => nomatch q⟩
      · have e4 : c = base + n + 2 := by omega
        obtain ⟨o, f, hz, _⟩ := st.z
        rw [e4]; exact ⟨_, hz, fun v q => nomatch q⟩
theorem ZSt.keep {h h' : Heap} {base n i : Nat} {ts : Nat → Nat} (st : ZSt h base n ts i) (k : ∀ (b : Nat), b ∈ fpN base n → ∀ o, h.get? b = some o → h'.get? b = some o) : ZSt h' base n ts i where
  z := by
    obtain ⟨o, f, hz, ho⟩ := st.z
    exact ⟨o, f, k _ (mem_fpN.mpr (by omega)) _ hz, ho⟩
  ti := k _ (mem_fpN.mpr (by omega)) _ st.ti
  to := by
    obtain ⟨old, ho, hs⟩ := st.to
    exact ⟨old, k _ (mem_fpN.mpr (by omega)) _ ho, hs⟩
  its := fun j hj => (st.its j hj).at fun o q => k _ (mem_fpN.mpr (by omega)) o q
theorem turn_zipN {P : Program} {w : World} {K : PySem.W.Frag} {x : Str} {p : Pos} {ts : List Addr} {base : Nat} (h1 : 1 ≤ ts.length) (h6 : ts.length ≤ 6) (lt : ∀ j, j < ts.length → ts.getD j 0 < base) :
    Turn P w K (.Name x p) (ItzN K ts) (fpN base ts.length) (base + ts.length + 2) (fun i h => ZSt h base ts.length (fun j => ts.getD j 0) i) where
  mem := mem_fpN.mpr (by omega)
  obj := fun i h st c hc => st.objs c hc
  keep := fun i h h' st k => st.keep k
  item := by
    intro X hP hw hK hc i pins s σ H E I hf st hg
    subst hP hw hK
    obtain ⟨f, xv, hg⟩ := hg
    have key : ∀ j, ∃ p : List Value × Value, j < ts.length → Heap.IsTuple s.heap (ts.getD j 0) p.1.toArray ∧ p.1[i]? = some p.2 ∧ RelV (xv j) p.2 := fun j => by
      by_cases hj : j < ts.length
      · obtain ⟨hq, hx⟩ := hg j hj
        obtain ⟨its, rv, p, _⟩ := I.tuple hq
        obtain ⟨u, hu, ru⟩ := rv.get hx
        exact ⟨(its, u), fun _ => ⟨p, hu, ru⟩⟩
      · exact ⟨([], .none), fun h => absurd h hj⟩
    obtain ⟨pf, hpf⟩ := Classical.axiomOfChoice key
    refine pyNext_item st h1 h6 lt (items := fun j => (pf j).1.toArray) (vals := fun j => (pf j).2) (fun j hj => (hpf j hj).1) (fun j hj => by simpa using (hpf j hj).2.1) fun h' st' hT hsz hk => ?_
    refine ⟨_, rfl, wpAny_pure ?_⟩
    have new : ObjOk X.prog X.w (upd H s.heap.objs.size (.tup ((List.range ts.length).map xv))) h' s.heap.objs.size (.tup ((List.range ts.length).map xv)) :=
      ⟨by
        show ((List.range ts.length).map xv).length ≤ sizeLine
        rw [List.length_map, List.length_range]
        exact sz6 h6, (List.range ts.length).map fun j => (pf j).2, vals_map _ fun j hj => (hpf j (List.mem_range.mp hj)).2.2, ⟨_, hT, rfl, _, rfl⟩⟩
    have hlt : ∀ (c : Nat), c ∈ fpN base ts.length → c < s.heap.objs.size := fun c hc => by
      obtain ⟨o, ho, _⟩ := st.objs c hc
      exact Heap.lt_size ho
    have I1 : Inv X pins σ (upd H s.heap.objs.size (.tup ((List.range ts.length).map xv))) { s with heap := h' } :=
      I.turnedNew (t' := s.toks) (ch := fpN base ts.length) (fun c o hb q => hk c o (out_fpN hb) q) hf (Nat.le_refl _) new
    exact ⟨.ref s.heap.objs.size, _, I1, rfl, ⟨_, xv, rfl, I.hok.fresh (Nat.le_refl _), rfl, fun j hj ys hy => by rw [I.tuple_inj hy (hg j hj).1]; exact (hg j hj).2⟩, st', fun c hcm => by
      rw [upd_ne (Nat.ne_of_lt (hlt c hcm))]
      exact (hf c hcm).1⟩
  done := by
    intro X hP hw hK hc i pins s σ H E I hf st hg
    subst hP hw hK
    obtain ⟨f, hg⟩ := hg
    have key : ∀ j, ∃ p : List Value, j < ts.length → Heap.IsTuple s.heap (ts.getD j 0) p.toArray ∧ p[i]? = none := fun j => by
      by_cases hj : j < ts.length
      · obtain ⟨hq, hx⟩ := hg j hj
        obtain ⟨its, rv, p, _⟩ := I.tuple hq
        exact ⟨its, fun _ => ⟨p, by
          rw [List.getElem?_eq_none]
          rw [← rv.length]
          exact hx⟩⟩
      · exact ⟨[], fun h => absurd h hj⟩
    obtain ⟨pf, hpf⟩ := Classical.axiomOfChoice key
    refine pyNext_end (I.ok.hd hc) st h1 lt (items := fun j => (pf j).toArray) (fun j hj => (hpf j hj).1) (fun j hj => by simpa using (hpf j hj).2) fun h' hk => ⟨rfl, I.turnedL (t' := s.toks) (ch := fpN base ts.length) (fun c o hb q =>
      hk c o (out_fpN hb) q) hf⟩
  self := fun A i s Q E st h => pyIter_zip st h
/-! ### the call -/
section
variable {M : Model} {A : Around} {E : Value → Shared → Prop} {s : Shared}
theorem callWith_typeS {pos p : Pos} {T : String} {e : Expr} {env : Env} {Q : Value → Shared → Prop} (h : wpAny M A (eval e env) (fun v s₁ => PySem.W.StarOf M A E v (fun vs s₂ => wpAny M A (call (.type T) vs) Q E s₂) s₁) E s)
    (he : starEach [.Starred e p] env = [(true, eval e env)] := by rfl) :
    wpAny M A (callWith pos (.type T) [] (backTo pos (starEach [.Starred e p] env)) []) Q E s := by
  rw [he]
  unfold callWith
  refine wpAny_bind (wpAny_holding (wpAny_mono (PySem.W.ks_lone (Q := fun a s₁ => wpAny M A (call (.type T) ([] ++ a.pos) a.kw) Q E s₁) h) (fun a s₁ h₁ => wpAny_bind (wpAny_standAt ?_)) fun _ _ x => x))
  refine wpAny_bind (wpAny_pure ?_)
  exact wpAny_bind (wpAny_mono (wpAny_operating h₁) (fun r s₂ hr => wpAny_bind (wpAny_holding (wpAny_point (wpAny_pure hr)))) fun _ _ x => x)
end
theorem star_tup {prog : Program} {w : World} {A : Around} {E : Value → Shared → Prop} {s : Shared} {a : Addr} {its : Array Value} {Q : List Value → Shared → Prop} (ht : Heap.IsTuple s.heap a its) (hz : its.size ≤ sizeLine)
    (h : ∀ h', (∀ b o, s.heap.get? b = some o → h'.get? b = some o) → Q its.toList { s with heap := h' }) : PySem.W.StarOf (model prog w) A E (.ref a) Q s := by
  obtain ⟨o, D, hc, n, hd⟩ := id ht
  have hT' : s.TypeIs (.ref a) "tuple" := ⟨o, D, hc⟩
  have z : wpAny (model prog w) A (collect (.ref a)) Q E s := wpAny_collect_seq a (.inr rfl) D hc hd (fun h' hk => h h' hk) hz
  unfold PySem.W.StarOf notIterableAtAll
  exact wpAny_bind (wpAny_specialOf hT' PySem.F.slot_tuple_iter.lookup (wpAny_pure ⟨rfl, z⟩))
theorem call_zipN {prog : Program} {w : World} {A : Around} {E : Value → Shared → Prop} {s : Shared} {ts : List Nat} {Q : Value → Shared → Prop} (h6 : ts.length ≤ 6) (hl : ∀ t ∈ ts, ∃ items, s.heap.IsTuple t items)
    (h : ∀ h', ZSt h' s.heap.objs.size ts.length (fun j => ts.getD j 0) 0 → (∀ c o, s.heap.get? c = some o → h'.get? c = some o) → Q (.ref (s.heap.objs.size + ts.length + 2)) { s with heap := h' }) :
    wpAny (model prog w) A (call (.type "zip") (ts.map fun t => Value.ref t)) Q E s := by
  refine callType_new F.called_zip (by decide) (typeCall_zip _) (newCall_zip _ (by simpa using h6)) (fun obj => args_init _ (by simp; omega)) F.entry_zip_new
    (new_zip ts h6) ⟨hl, fun h' st hk => ?_⟩
  show _ ∧ _
  exact ⟨st.is, h h' st hk⟩
/-- rows of one tuple -/
def iZipS (K : PySem.W.Frag) (te : TE) : TI := fun σ H R => te σ H fun v H1 => ∃ (a : Addr) (ts : List Addr), v = .ref a ∧ SqT K H1 a (ts.map V.ref) ∧ 1 ≤ ts.length ∧ ts.length ≤ 6 ∧ (∀ t ∈ ts, ∃ xs, SqT K H1 t xs) ∧ R (ItzN K ts) H1
theorem vals_refs : ∀ {ts : List Addr} {us : List Value}, Vals (ts.map V.ref) us → us = ts.map fun t => Value.ref t
  | [], _, .nil => rfl
  | t :: ts, _, .cons h r => by
    cases h
    rw [vals_refs r]; rfl
theorem pi_zipS {X : Cx} {e : Expr} {te : TE} {p p2 pos px : Pos} {x : Str} (hg : Gl X "zip") (hm : X.mg "zip" = none) (ha : PE X e te) (hs : starEach [.Starred e p2] X.env = [(true, eval e X.env)] := by rfl) :
    PI X (.Name x px) (.Call (.Name "zip" p) [.Starred e p2] [] pos) (iZipS X.K te) := by
  refine ⟨fun pins s σ H R I h => ?_⟩
  refine Call_ (ld_blt I hg hm PyProof.Rows.boot_zip (callWith_typeS (thn (ha.run pins s σ H _ I h) fun u s1 ⟨v, H1, I1, r1, q1⟩ => ?_) hs))
  obtain ⟨a, ts, rfl, hq, h1, h6, hr, q⟩ := q1
  cases r1
  obtain ⟨its, rv, pt, hz⟩ := I1.tuple hq
  have eits : its = ts.map fun t => Value.ref t := vals_refs rv
  subst eits
  refine star_tup (show Heap.IsTuple s1.heap a _ from pt) (sz6 (by simpa using h6)) fun h' hk => ?_
  have I2 : Inv X pins σ H1 { s1 with heap := h' } := I1.kept (t' := s1.toks) hk
  have tl : ∀ t ∈ ts, ∃ items, Heap.IsTuple h' t items := fun t ht => by
    obtain ⟨xs, hx⟩ := hr t ht
    obtain ⟨its, _, p, _⟩ := I2.tuple hx
    exact ⟨_, p⟩
  have tlt : ∀ j, j < ts.length → ts.getD j 0 < h'.objs.size := fun j hj => by
    have e : ts[j]? = some (ts.getD j 0) := by
      rw [List.getD_eq_getElem?_getD, List.getElem?_eq_getElem hj]; rfl
    obtain ⟨items, o, ho, _⟩ := tl _ (List.mem_of_getElem? e)
    exact Heap.lt_size ho
  refine call_zipN (s := { s1 with heap := h' }) h6 tl fun h2 st hk2 => pyIter_zip (s := { s1 with heap := h2 }) st ?_
  have I3 : Inv X pins σ H1 { s1 with heap := h2 } := I2.kept (t' := s1.toks) hk2
  exact ⟨_, _, _, _, H1, rfl, I3, turn_zipN h1 h6 tlt, st, fun c hc => by
    have hle : h'.objs.size ≤ c := (mem_fpN.mp hc).1
    exact ((I2.fpOk hle (I2.hok.fresh hle))), q⟩
end ZnT
set_option Elab.async false
set_option linter.all false
set_option maxRecDepth 100000
set_option maxHeartbeats 4000000
namespace DL
open PySem L2 Evl
/-- a block in a block -/
def relS (sc scope : Scope) : Scope := { scope with names := scope.names.map fun (n, k) => if (k == NameKind.free && sc.kind == .function && sc.names.lookup n == some .cell) then (n, NameKind.cell) else (n, k) }
theorem blkOk_nest {X : Cx} {N : List Str} {s : Shared} {H : Hp} {sc scope scope2 : Scope} {C : Addr} {cl : List (Str × Addr)} {fp : List Addr} {own2 : List (Str × Nat)} (hN : X.N = N) (hs : X.env.scope = sc) (h : blkC N (relS sc scope) scope2 own2 = true) :
    BlkOk (X.blk s H scope (compEnvC scope cl C X.env) fp).N (X.blk s H scope (compEnvC scope cl C X.env) fp).env.scope scope2 own2 := by
  subst hN
  subst hs
  exact blkOk_by (sc := relS X.env.scope scope) h
/-! ### a, b, c = x, y, z with names of the def -/
def tPar3 (K : PySem.W.Frag) (i j k : Nat) (te : TE) : TS := fun Dh σ H => te σ H fun x H1 => ∃ a v1 v2 v3, x = .ref a ∧ SqT K H1 a [v1, v2, v3] ∧ Dh.nx (((σ.set k (some v3)).set j (some v2)).set i (some v1)) H1
theorem ps_par3 {X : Cx} {i j k : Nat} {x y z : Str} {e : Expr} {te : TE} {px py pz pt pos : Pos} {kt : Nat} (hc : X.calm = true) (hN : X.N.Nodup) (hi : X.N[i]? = some x) (hj : X.N[j]? = some y) (hk : X.N[k]? = some z)
    (hx : X.env.scope.names.lookup x = some .local) (hy : X.env.scope.names.lookup y = some .local) (hz : X.env.scope.names.lookup z = some .local) (he : PE X e te)
    (hw : swappedStores [.Tuple [.Name x px, .Name y py, .Name z pz] kt pt] e X.env = pure (some [x, y, z])) (hs : swapsWithSole [.Tuple [.Name x px, .Name y py, .Name z pz] kt pt] e pos.line X.env = pure false) :
    PS X (.Assign [.Tuple [.Name x px, .Name y py, .Name z pz] kt pt] e pos) (tPar3 X.K i j k te) := by
  refine ⟨fun pins s σ H Dh I h => PyProof.Rows.Assign_Tuple_swapped (thn (he.run pins s σ H _ I h) fun v s1 ⟨u, H1, I1, r1, q1⟩ => ?_) hs hw⟩
  obtain ⟨a, v1, v2, v3, rfl, hq, q⟩ := q1
  cases r1
  obtain ⟨its, rv, ht, _⟩ := I1.tuple hq
  obtain ⟨u1, u2, u3, rfl, r1, r2, r3⟩ : ∃ u1 u2 u3, its = [u1, u2, u3] ∧ RelV v1 u1 ∧ RelV v2 u2 ∧ RelV v3 u3 := by
    cases rv with
    | cons p1 q => cases q with
      | cons p2 q => cases q with
        | cons p3 q => cases q; exact ⟨_, _, _, rfl, p1, p2, p3⟩
  refine PyProof.Rows.unpackItems_tuple (items := #[u1, u2, u3]) (I1.ok.hd hc) ht fun h' keep => ?_
  have I2 := I1.kept (h' := h') (t' := s1.toks) fun b o eb => keep b o (Nat.ne_of_lt (Heap.lt_size eb)) eb
  show wpAny _ _ (assignInOrder [fun v => bindName X.env z v, fun v => bindName X.env y v, fun v => bindName X.env x v] [u3, u2, u1]) _ _ _
  refine PyProof.Rows.assignInOrder_cons (wpAny_bindName (store_ok I2 hN hk (.inl hz) r3 (fun s2 I3 => ?_) (.inr hz)))
  refine PyProof.Rows.assignInOrder_cons (wpAny_bindName (store_ok I3 hN hj (.inl hy) r2 (fun s3 I4 => ?_) (.inr hy)))
  exact PyProof.Rows.assignInOrder_cons (wpAny_bindName (store_ok I4 hN hi (.inl hx) r1 (fun s4 I5 => PyProof.Rows.assignInOrder_nil ⟨_, H1, I5, q⟩) (.inr hx)))
def wPar3 (i j k : Nat) (wa : WE) : WS := fun Qe De s => wa Qe s fun d s1 => ∃ d1 d2 d3, d = .tup [d1, d2, d3] ∧ De.nx ⟨((s1.env.set k (.val d3)).set j (.val d2)).set i (.val d1), s1.n⟩
theorem ds_par3 {X : Cx} {E : XK} {i j k : Nat} {x y z : Str} {e : Expr} {we : WE} {px py pz pt pos : Pos} {kt : Nat} (hc : X.calm = true) (hN : X.N.Nodup) (hi : X.N[i]? = some x) (hj : X.N[j]? = some y) (hk : X.N[k]? = some z)
    (hx : X.env.scope.names.lookup x = some .local) (hy : X.env.scope.names.lookup y = some .local) (hz : X.env.scope.names.lookup z = some .local) (he : DE X E e we)
    (hw : swappedStores [.Tuple [.Name x px, .Name y py, .Name z pz] kt pt] e X.env = pure (some [x, y, z]) := by rfl) (hs : swapsWithSole [.Tuple [.Name x px, .Name y py, .Name z pz] kt pt] e pos.line X.env = pure false := by rfl) :
    DS X E (.Assign [.Tuple [.Name x px, .Name y py, .Name z pz] kt pt] e pos) (wPar3 i j k we) := by
  obtain ⟨te, h1, h2⟩ := he.ex
  refine ⟨_, ps_par3 hc hN hi hj hk hx hy hz h1 hw hs, fun A Qe W σ H G s De Dh R eo q => h2 A Qe W σ H G s _ _ R q fun v H1 G1 d s1 R1 g1 d1 q1 => ?_⟩
  obtain ⟨a1, a2, a3, rfl, q⟩ := q1
  cases d1 with
  | tup hxa hd => cases hd with
    | cons h3 hd => cases hd with
      | cons h4 hd => cases hd with
        | cons h5 hd =>
          cases hd
          exact ⟨_, _, _, _, rfl, ex_t R1.an.e hxa, eo.nx _ _ _ _ (((R1.setV h5).setV h4).setV h3) q⟩
/-! ### enumerate of a list, of a tuple -/
def enumD : Nat → List D → List D
  | _, [] => []
  | i, d :: ds => .tup [.int (i : Nat), d] :: enumD (i + 1) ds
theorem enum_get : ∀ {ds : List D} {k i : Nat} {d : D}, (enumD k ds)[i]? = some d → ∃ e, ds[i]? = some e ∧ d = .tup [.int ((k + i : Nat) : Int), e]
  | [], _, _, _, h => by simp [enumD] at h
  | e :: ds, k, 0, d, h => by
    simp [enumD] at h
    exact ⟨e, rfl, h.symm⟩
  | e :: ds, k, i + 1, d, h => by
    rw [enumD, List.getElem?_cons_succ] at h
    obtain ⟨z, h1, h2⟩ := enum_get h
    exact ⟨z, h1, by rw [h2]; congr 3; omega⟩
theorem enum_len : ∀ (ds : List D) (k : Nat), (enumD k ds).length = ds.length
  | [], _ => rfl
  | d :: ds, k => by rw [enumD, List.length_cons, List.length_cons, enum_len ds]
def wEnumI (wr : WA) : WI := fun Qe s Q => wr Qe s fun ds s1 => match ds with
  | [.lst xs] => Q (enumD 0 xs) s1
  | [.tup xs] => Q (enumD 0 xs) s1
  | _ => False
theorem yl_enumL {K : PySem.W.Frag} {pen a : Addr} {G : Hp} {xs : List V} {ds : List D} (h : G a = some (.lst xs)) (hd : DxAll K pen G xs ds) : Yl K pen (Ite K a) G (enumD 0 ds) := fun A σ H1 G1 s i hp R g => by
  have hH : SqL K H1 a xs := sq_of (R.an.e _ _ (g _ _ h))
  subst hp
  refine ⟨fun d hi => ?_, fun hi => ⟨xs, hH, by rw [hd.length]; rw [enum_len] at hi; exact hi⟩⟩
  obtain ⟨e, h1, rfl⟩ := enum_get hi
  obtain ⟨v, g1, g2⟩ := hd.get h1
  refine ⟨⟨xs, v, hH, g1⟩, fun x H' y => ?_⟩
  obtain ⟨T, x1, rfl, hT, rfl, z1⟩ := y
  have q1 := z1 xs hH
  rw [g1] at q1
  cases q1
  rw [Nat.zero_add]
  exact pair_new R hT (.int _) (g2.up g)
theorem yl_enumT {K : PySem.W.Frag} {pen a : Addr} {G : Hp} {xs : List V} {ds : List D} (h : SqT K G a xs) (hd : DxAll K pen G xs ds) : Yl K pen (EnT.IteT K a) G (enumD 0 ds) := fun A σ H1 G1 s i hp R g => by
  have hH : SqT K H1 a xs := ex_t R.an.e (ex_t g h)
  subst hp
  refine ⟨fun d hi => ?_, fun hi => ⟨xs, hH, by rw [hd.length]; rw [enum_len] at hi; exact hi⟩⟩
  obtain ⟨e, h1, rfl⟩ := enum_get hi
  obtain ⟨v, g1, g2⟩ := hd.get h1
  refine ⟨⟨xs, v, hH, g1⟩, fun x H' y => ?_⟩
  obtain ⟨T, x1, rfl, hT, rfl, z1⟩ := y
  have q1 := z1 xs hH
  rw [g1] at q1
  cases q1
  rw [Nat.zero_add]
  exact pair_new R hT (.int _) (g2.up g)
/-- what walks: the list, or the tuple -/
def iEnumA (K : PySem.W.Frag) (ta : TA) : TI := fun σ H R => ta σ H fun vs H1 => ∃ a xs, vs = [.ref a] ∧ ((SqL K H1 a xs ∧ R (Ite K a) H1) ∨ (SqT K H1 a xs ∧ R (EnT.IteT K a) H1))
theorem bEnum : bootBuiltins "enumerate" = some (.type "enumerate") := by decide +kernel
theorem pi_enumA {X : Cx} {e : Expr} {ta : TA} {p pos tpos : Pos} {elts : List Expr} {kk : Nat} (hg : Gl X "enumerate") (hm : X.mg "enumerate" = none) (ha : PA X [e] ta) (hs : starEach [e] X.env = [(false, eval e X.env)] := by rfl) :
    PI X (.Tuple elts kk tpos) (.Call (.Name "enumerate" p) [e] [] pos) (iEnumA X.K ta) := by
  refine ⟨fun pins s σ H R I h => PyProof.Rows.Call_ (ld_blt I hg hm bEnum (PyProof.Rows.callWith_type1 (thn (ha.run pos pins s σ H _ I h) fun us s1 ⟨vs, H1, I1, r1, q1⟩ => ?_) hs rfl))⟩
  obtain ⟨a, xs, rfl, q⟩ := q1
  cases r1 with
  | cons r rr =>
    cases rr
    cases r
    rcases q with ⟨hq, q⟩ | ⟨hq, q⟩
    · obtain ⟨its, rv, isL, _⟩ := I1.list hq
      refine call_enumerate_list isL.isList fun h' he hit hsz hk => wpAny_pyIter_enum he ⟨s1.heap.objs.size + 1, [s1.heap.objs.size + 1, s1.heap.objs.size], _, _, H1, rfl, I1.kept (t' := s1.toks) hk, turn_enum a (s1.heap.objs.size + 1) s1.heap.objs.size, ⟨⟨.none, he⟩, hit, Nat.succ_ne_self _⟩, fun b hb => ?_, q⟩
      have hle : s1.heap.objs.size ≤ b := by
        rcases (by simpa using hb : b = s1.heap.objs.size + 1 ∨ b = s1.heap.objs.size) with z | z
        · rw [z]; exact Nat.le_succ _
        · rw [z]; exact Nat.le_refl _
      exact I1.fpOk hle (I1.hok.fresh hle)
    · exact EnT.pi_enumT I1 hq q
section
variable {X : Cx} {E : XK} {tg a b : Expr} {wa wb : WE} {wr : WA} {pos p p2 tpos : Pos}
theorem di_enum {elts : List Expr} {kk : Nat} (hg : Gl X "enumerate") (hm : X.mg "enumerate" = none) (ha : DA X E [a] wr) (hs : starEach [a] X.env = [(false, eval a X.env)] := by rfl) : DI X E (.Tuple elts kk tpos) (.Call (.Name "enumerate" p) [a] [] pos) (wEnumI wr) := by
  obtain ⟨t, h1, h2⟩ := ha.ex
  refine ⟨_, pi_enumA hg hm h1 hs, fun A Qe W σ H G s Q P R q k => h2 A Qe W σ H G s _ _ R q fun vs H1 G1 ds s1 R1 g1 d1 q1 => ?_⟩
  unfold wEnumI at q1
  split at q1
  · cases d1 with
    | cons e1 e2 =>
      cases e2
      cases e1 with
      | lst ha hxa => exact ⟨_, _, rfl, .inl ⟨sq_of (R1.an.e _ _ ha), k _ _ _ _ _ R1 g1 (yl_enumL ha hxa) q1⟩⟩
  · cases d1 with
    | cons e1 e2 =>
      cases e2
      cases e1 with
      | tup ha hxa => exact ⟨_, _, rfl, .inr ⟨ex_t R1.an.e ha, k _ _ _ _ _ R1 g1 (yl_enumT ha hxa) q1⟩⟩
  · exact q1.elim
/-! ### zip(*rows) -/
/-- the columns of rows, all so wide -/
def colsD (w : Nat) (ls : List (List D)) : List D := (List.range w).map fun j => .tup (ls.map fun l => l.getD j .non)
def wZipS (wa : WE) : WI := fun Qe s Q => wa Qe s fun d s1 => ∃ (ls : List (List D)) (w : Nat), (d = .tup (ls.map D.tup)) ∧ 1 ≤ ls.length ∧ ls.length ≤ 6 ∧ (∀ l ∈ ls, l.length = w) ∧ w ≤ 1000 ∧ Q (colsD w ls) s1
theorem refs_of {K : PySem.W.Frag} {pen : Addr} {G : Hp} : ∀ {xs : List V} {ls : List (List D)}, DxAll K pen G xs (ls.map D.tup) → ∃ (ts : List Addr) (yss : List (List V)), xs = ts.map V.ref ∧ ts.length = ls.length ∧ yss.length = ls.length ∧
    ∀ (j : Nat) (l : List D), ls[j]? = some l → ∃ t ys, ts[j]? = some t ∧ yss[j]? = some ys ∧ SqT K G t ys ∧ DxAll K pen G ys l
  | _, [], .nil => ⟨[], [], rfl, rfl, rfl, fun j l h => by simp at h⟩
  | _, l :: ls, .cons h r => by
    cases h with
    | @tup a ys _ hs hd =>
      obtain ⟨ts, yss, rfl, h1, h2, h3⟩ := refs_of r
      refine ⟨a :: ts, ys :: yss, rfl, by simp [h1], by simp [h2], fun j l' hj => ?_⟩
      cases j with
      | zero =>
        simp at hj
        subst hj
        exact ⟨_, _, rfl, rfl, hs, hd⟩
      | succ j =>
        simp at hj
        simpa using h3 j l' hj
theorem dxAll_get {K : PySem.W.Frag} {pen : Addr} {G : Hp} : ∀ {vs : List V} {ds : List D}, vs.length = ds.length → (∀ (i : Nat) (v : V) (d : D), vs[i]? = some v → ds[i]? = some d → Dx K pen G v d) → DxAll K pen G vs ds
  | [], [], _, _ => .nil
  | v :: vs, d :: ds, h, k => .cons (k 0 v d rfl rfl) (dxAll_get (by simpa using h) fun i v' d' h1 h2 => k (i + 1) v' d' (by simpa using h1) (by simpa using h2))
  | [], _ :: _, h, _ => by simp at h
  | _ :: _, [], h, _ => by simp at h
theorem getD_of {α : Type} {l : List α} {j : Nat} {a x : α} (h : l[j]? = some x) : l.getD j a = x := by
  rw [List.getD_eq_getElem?_getD, h]; rfl
theorem range_getV {α : Type} {n j : Nat} {f : Nat → α} {x : α} (h : ((List.range n).map f)[j]? = some x) : j < n ∧ x = f j := by
  rw [List.getElem?_map] at h
  have hj : j < n := by
    cases hr : (List.range n)[j]? with
    | none => rw [hr] at h; cases h
    | some y => have := (List.getElem?_eq_some_iff.mp hr).1; simpa using this
  rw [List.getElem?_range hj] at h
  exact ⟨hj, (Option.some.inj h).symm⟩
theorem yl_zipS {K : PySem.W.Frag} {pen : Addr} {G : Hp} {ts : List Addr} {yss : List (List V)} {ls : List (List D)} {w : Nat} (hts : ts.length = ls.length) (h1 : 1 ≤ ls.length)
    (hw : ∀ l ∈ ls, l.length = w) (hc : ∀ (j : Nat) (l : List D), ls[j]? = some l → ∃ t ys, ts[j]? = some t ∧ yss[j]? = some ys ∧ SqT K G t ys ∧ DxAll K pen G ys l) : Yl K pen (ZnT.ItzN K ts) G (colsD w ls) := fun A σ H1 G1 s i hp R g => by
  subst hp
  have key : ∀ j, j < ts.length → ∃ l, ls[j]? = some l ∧ l.length = w ∧ SqT K H1 (ts.getD j 0) (yss.getD j []) ∧ DxAll K A.pen G1 (yss.getD j []) l := fun j hj => by
    obtain ⟨l, hl⟩ : ∃ l, ls[j]? = some l := ⟨_, List.getElem?_eq_getElem (by omega)⟩
    obtain ⟨t, ys, e1, e2, e3, e4⟩ := hc j l hl
    refine ⟨l, hl, hw l (List.mem_of_getElem? hl), ?_, ?_⟩
    · rw [getD_of e1, getD_of e2]; exact ex_t R.an.e (ex_t g e3)
    · rw [getD_of e2]; exact e4.up g
  have cl : (colsD w ls).length = w := by simp [colsD]
  refine ⟨fun d hi => ?_, fun hi => ⟨fun j => yss.getD j [], fun j hj => ?_⟩⟩
  · have hiw : i < w := by rw [← cl]; exact (List.getElem?_eq_some_iff.mp hi).1
    have hd : d = .tup (ls.map fun l => l.getD i .non) := by
      rw [colsD, List.getElem?_map, List.getElem?_range hiw] at hi
      exact (Option.some.inj hi).symm
    subst hd
    refine ⟨⟨fun j => yss.getD j [], fun j => (yss.getD j []).getD i .non, fun j hj => ?_⟩, fun x H' y => ?_⟩
    · obtain ⟨l, hl, e1, e2, e3⟩ := key j hj
      refine ⟨e2, ?_⟩
      show (yss.getD j [])[i]? = some ((yss.getD j []).getD i V.non)
      rw [List.getD_eq_getElem?_getD (l := yss.getD j []), List.getElem?_eq_getElem (by rw [e3.length, e1]; exact hiw)]; rfl
    · obtain ⟨T, xv, rfl, hT, rfl, z⟩ := y
      refine ⟨_, R.new hT, R.gnew hT, .tup (st_of upd_same) (dxAll_get (by simp [hts]) fun j v d hv hd => ?_)⟩
      obtain ⟨hj, rfl⟩ := range_getV hv
      obtain ⟨l, hl, e1, e2, e3⟩ := key j hj
      rw [List.getElem?_map, hl] at hd
      cases hd
      have q := z j hj _ e2
      obtain ⟨d', q1, q2⟩ := e3.getV q
      show Dx K A.pen _ _ (l.getD i D.non)
      rw [getD_of q1]
      exact q2.up (R.gnew hT)
  · obtain ⟨l, hl, e1, e2, e3⟩ := key j hj
    refine ⟨e2, ?_⟩
    rw [e3.length, e1, ← cl]
    exact hi
theorem di_zipS {x : Str} {px : Pos} (hg : Gl X "zip") (hm : X.mg "zip" = none) (ha : DE X E a wa) (hs : starEach [.Starred a p2] X.env = [(true, eval a X.env)] := by rfl) : DI X E (.Name x px) (.Call (.Name "zip" p) [.Starred a p2] [] pos) (wZipS wa) := by
  obtain ⟨t, h1, h2⟩ := ha.ex
  refine ⟨_, ZnT.pi_zipS hg hm h1 hs, fun A Qe W σ H G s Q P R q k => h2 A Qe W σ H G s _ _ R q fun v H1 G1 d s1 R1 g1 d1 q1 => ?_⟩
  obtain ⟨ls, w, rfl, l1, l6, hw, hle, q⟩ := q1
  cases d1 with
  | tup hx hd =>
    obtain ⟨ts, yss, rfl, e1, e2, e3⟩ := refs_of hd
    refine ⟨_, ts, rfl, ex_t R1.an.e hx, by omega, by omega, fun t ht => ?_, k _ _ _ _ _ R1 g1 (yl_zipS e1 l1 hw e3) q⟩
    obtain ⟨j, hj⟩ := List.mem_iff_getElem?.mp ht
    have hjl : j < ls.length := by rw [← e1]; exact (List.getElem?_eq_some_iff.mp hj).1
    obtain ⟨t', ys, q1, _, q3, _⟩ := e3 j _ (List.getElem?_eq_getElem hjl)
    rw [hj] at q1
    cases q1
    exact ⟨ys, ex_t R1.an.e q3⟩
end
end DL
set_option Elab.async false
set_option linter.all false
set_option maxRecDepth 100000
set_option maxHeartbeats 4000000
namespace DL
open PySem L2 Evl XcH LamX
theorem sz1000 {n : Nat} (h : n ≤ 2000) : n < sizeLine := Nat.lt_of_le_of_lt h (by decide)
/-! ### a list of new tuples -/
inductive Tups (H : Hp) : List Addr → List (List V) → Prop
  | nil : Tups H [] []
  | cons {p : Addr} {xs : List V} {ps : List Addr} {xss : List (List V)} : H p = some (.tup xs) → Tups H ps xss → Tups H (p :: ps) (xs :: xss)
theorem Tups.ex {H H' : Hp} (e : Ex H H') {ps : List Addr} {xss : List (List V)} (h : Tups H ps xss) : Tups H' ps xss := by
  induction h with
  | nil => exact .nil
  | cons h1 _ ih => exact .cons (e _ _ h1) ih
theorem Tups.len {H : Hp} {ps : List Addr} {xss : List (List V)} (h : Tups H ps xss) : ps.length = xss.length := by
  induction h with
  | nil => rfl
  | cons h1 _ ih => rw [List.length_cons, List.length_cons, ih]
theorem Tups.append {H : Hp} {ps qs : List Addr} {xss yss : List (List V)} (h : Tups H ps xss) (h' : Tups H qs yss) : Tups H (ps ++ qs) (xss ++ yss) := by
  induction h with
  | nil => exact h'
  | cons h1 _ ih => exact .cons h1 ih
theorem Tups.get {H : Hp} {ps : List Addr} {xss : List (List V)} (h : Tups H ps xss) : ∀ {i : Nat} {v : V}, (ps.map V.ref)[i]? = some v → ∃ p xs, v = .ref p ∧ xss[i]? = some xs ∧ H p = some (.tup xs) := by
  induction h with
  | nil => intro i v hi; simp at hi
  | cons h1 _ ih =>
    intro i v hi
    cases i with
    | zero =>
      simp at hi
      exact ⟨_, _, hi.symm, rfl, h1⟩
    | succ i =>
      rw [List.map_cons, List.getElem?_cons_succ] at hi
      obtain ⟨p, xs, h2, h3, h4⟩ := ih hi
      exact ⟨p, xs, h2, by rw [List.getElem?_cons_succ]; exact h3, h4⟩
def EvUs (ta : TA) (σ : L2.St) (H : Hp) (xss : List (List V)) : Prop := ∀ H1, Ex H H1 → ∀ Q : List V → Hp → Prop, (∀ ps H2, Ex H1 H2 → Tups H2 ps xss → Q (ps.map V.ref) H2) → ta σ H1 Q
theorem eus_nil {σ : L2.St} {H : Hp} : EvUs tNil σ H [] := fun H1 _ Q q => q [] H1 (Ex.refl H1) .nil
theorem eus_cons {te : TE} {ta : TA} {σ : L2.St} {H : Hp} {xs : List V} {xss : List (List V)} (h : EvU te σ H xs) (hr : EvUs ta σ H xss) : EvUs (tCons te ta) σ H (xs :: xss) := fun H1 e Q q =>
  h H1 e _ fun p H2 _ e2 hp => hr H2 (e.trans e2) _ fun ps H3 e3 h3 => q (p :: ps) H3 (e2.trans e3) (.cons (e3 _ _ hp) h3)
section
variable {K : PySem.W.Frag} {σ : L2.St} {H : Hp} {a C dx : Addr} {fs : List (Str × V)}
theorem eu_is {te : TE} {c : Addr} {n : Str} {b : Bool} (hσ : Ev te σ H (.ref a)) (ha : H a = some (ExT (.ref C) (some dx) a)) (hd : H dx = some (.xd fs)) (hc : ExcC K C) (hk : PySem.W.kitOne K (.ref C) (.ref c) = some b) :
    EvU (tTup (tCons (tC (.str n)) (tCons (tCB (rIsX K) (tCons te (tCons (tC (.ref c)) tNil))) tNil))) σ H [.str n, .bl b] :=
  eu_tup (ea_cons ev_c (ea_cons (ev_cb (ea_cons hσ (ea_cons ev_c ea_nil)) fun H1 e1 Q q => ⟨a, C, dx, fs, .ref c, .ref c, b, rfl, e1 _ _ ha, e1 _ _ hd, hc, fun u hu => hu, hk, q H1 (Ex.refl H1)⟩) ea_nil)) (by show 2 ≤ 100000; decide)
end
theorem q_asgUs {σ : L2.St} {H : Hp} {ta : TA} {xss : List (List V)} {i : Nat} {tz : TS} {D : Ends} (h : EvUs ta σ H xss) (hz : xss.length ≤ 1000) (k : ∀ l ps H1, Ex H H1 → H1 l = some (.lst (ps.map V.ref)) → Tups H1 ps xss → tz D (σ.set i (some (.ref l))) H1) :
    tSeq (tAsg (tLst ta) (gName i)) tz D σ H := h H (Ex.refl H) _ fun ps H1 e1 h1 => ⟨Nat.le_of_lt (sz1000 (by rw [List.length_map, h1.len]; omega)), fun l hl => k l ps _ (e1.trans (Ex.new hl)) upd_same (h1.ex (Ex.new hl))⟩
theorem q_catUs {σ : L2.St} {H : Hp} {ta : TA} {xss yss : List (List V)} {i j : Nat} {tz : TS} {D : Ends} {l : Addr} {ps : List Addr} (hj : σ[j]? = some (some (.ref l))) (hl : H l = some (.lst (ps.map V.ref))) (hp : Tups H ps xss) (h : EvUs ta σ H yss) (hz : xss.length ≤ 500) (hz2 : yss.length ≤ 500)
    (k : ∀ l ps H1, Ex H H1 → H1 l = some (.lst (ps.map V.ref)) → Tups H1 ps (xss ++ yss) → tz D (σ.set i (some (.ref l))) H1) :
    tSeq (tAsg (tOp rCat (tVar j) (tLst ta)) (gName i)) tz D σ H := ⟨.ref l, hj, h H (Ex.refl H) _ fun qs H1 e1 h1 => ⟨Nat.le_of_lt (sz1000 (by rw [List.length_map, h1.len]; omega)), fun l2 hl2 =>
      ⟨l, l2, ps.map V.ref, qs.map V.ref, rfl, rfl, Ex.new hl2 _ _ (e1 _ _ hl), upd_same, Nat.le_of_lt (sz1000 (by rw [List.length_map, List.length_map, h1.len, hp.len]; omega)), fun l3 hl3 =>
        k l3 (ps ++ qs) _ ((e1.trans (Ex.new hl2)).trans (Ex.new hl3)) (by rw [List.map_append]; exact upd_same) (((hp.ex e1).append h1).ex ((Ex.new hl2).trans (Ex.new hl3)))⟩⟩⟩
/-- what gathers a list of new tuples -/
def EvG (tl : TE) (σ : L2.St) (H : Hp) (xss : List (List V)) : Prop := ∀ H1, Ex H H1 → ∀ Q : VK, (∀ l ps H2, Ex H1 H2 → H2 l = some (.lst (ps.map V.ref)) → Tups H2 ps xss → Q (.ref l) H2) → tl σ H1 Q
theorem eg_cat {σ : L2.St} {H : Hp} {ta : TA} {xss yss : List (List V)} {j : Nat} {l : Addr} {ps : List Addr} (hj : σ[j]? = some (some (.ref l))) (hl : H l = some (.lst (ps.map V.ref))) (hp : Tups H ps xss) (h : EvUs ta σ H yss) (hz : xss.length ≤ 500) (hz2 : yss.length ≤ 500) :
    EvG (tOp rCat (tVar j) (tLst ta)) σ H (xss ++ yss) := fun H0 e0 Q k => ⟨.ref l, hj, h H0 e0 _ fun qs H1 e1 h1 => ⟨Nat.le_of_lt (sz1000 (by rw [List.length_map, h1.len]; omega)), fun l2 hl2 =>
      ⟨l, l2, ps.map V.ref, qs.map V.ref, rfl, rfl, Ex.new hl2 _ _ (e1 _ _ (e0 _ _ hl)), upd_same, Nat.le_of_lt (sz1000 (by rw [List.length_map, List.length_map, h1.len, hp.len]; omega)), fun l3 hl3 =>
        k l3 (ps ++ qs) _ ((e1.trans (Ex.new hl2)).trans (Ex.new hl3)) (by rw [List.map_append]; exact upd_same) ((((hp.ex e0).ex e1).append h1).ex ((Ex.new hl2).trans (Ex.new hl3)))⟩⟩⟩
theorem eg_var {σ : L2.St} {H : Hp} {xss : List (List V)} {j : Nat} {l : Addr} {ps : List Addr} (hj : σ[j]? = some (some (.ref l))) (hl : H l = some (.lst (ps.map V.ref))) (hp : Tups H ps xss) : EvG (tVar j) σ H xss := fun H0 e0 Q k => ⟨.ref l, hj, k l ps H0 (Ex.refl _) (e0 _ _ hl) (hp.ex e0)⟩
/-- words whose mark is true -/
theorem el_names {K : PySem.W.Frag} {H : Hp} {tl : TE} {s0 s1 s2 s3 s4 s5 s6 s7 : Option V} {rows : List (Str × Bool)} (hg : EvG tl [s0, s1, s2, s3, s4, s5, s6, s7] H (rows.map fun r => [V.str r.1, V.bl r.2])) (hz : rows.length ≤ 1000) :
    EvL (tLc (iList K tl) (gTup K 2 (gCons (gName 6) (gCons (gName 7) gNil))) (tB (tVar 7)) (tVar 6) [6, 7]) [s0, s1, s2, s3, s4, s5, s6, s7] H (given rows.length (fun i => ((rows[i]?).map (·.2)).getD false) (fun i => V.str (((rows[i]?).map (·.1)).getD ""))) := by
  intro H1 e1 Q q
  refine hg H1 e1 _ fun l ps H2 e2 hl ht => ⟨l, rfl, ⟨ps.map V.ref, SqL.of hl⟩, fun Dl hD => ?_⟩
  have hpl : ps.length = rows.length := by rw [ht.len, List.length_map]
  refine lc_list (xs := ps.map V.ref) (Cw H2 (fun i => ((rows[i]?).map (·.2)).getD false) (fun i => V.str (((rows[i]?).map (·.1)).getD "")) Dl) ⟨hD, Ex.new hD, upd_same⟩ (fun i H' _ p => SqL.of (p.2.1 _ _ hl)) (fun i x H' hi p => ?_) (fun H' p => ?_)
  · obtain ⟨pp, xs, rfl, hxs, hpp⟩ := ht.get hi
    rw [List.getElem?_map] at hxs
    cases hr : rows[i]? with
    | none => rw [hr] at hxs; cases hxs
    | some r =>
      rw [hr] at hxs
      obtain rfl : [V.str r.1, V.bl r.2] = xs := Option.some.inj hxs
      have hlt := (List.getElem?_eq_some_iff.mp hr).1
      refine ⟨pp, _, rfl, SqT.of (p.2.1 _ _ hpp), rfl, _, _, rfl, _, _, rfl, rfl, rfl, cw_turn p (by omega) (et_is (et_B (b := r.2) (ev_var rfl)) ?_) (fun hf => ev_is (ev_var (v := .str r.1) rfl) ?_)⟩
      · rw [hr] <;> rfl
      · rw [hr] <;> rfl
  · have h3 := p.2.2
    rw [List.length_map, hpl] at h3
    exact q Dl H' (fresh_back e2 hD) (e2.trans p.2.1) h3
/-- what is told of an error that is heard: the word of the class and its part; the place in a text; what there is too much of, and its bound -/
inductive HearV (Wd : Addr → Option Str) (Tx Tm : Addr → Prop) : Addr → List (Str × V) → List V → Prop
  | part {C : Addr} {W x : Str} : Wd C = some W → HearV Wd Tx Tm C [("part", .str x)] [.str W, .str x]
  | text {C : Addr} {i j : Int} : Tx C → HearV Wd Tx Tm C [("word", .int j), ("line", .int i)] [.str "text", .int i, .int j]
  | many {C : Addr} {x : Str} {j : Int} : Tm C → HearV Wd Tx Tm C [("most", .int j), ("what", .str x)] [.str "many", .str x, .int j]
/-- heard: what the def that calls makes of a lambda's reading; Wd: the words of the classes that may be caught -/
def TTh (Wd : Addr → Option Str) (Tx Tm : Addr → Prop) : (XK → Hp → VK → Prop) → Hp → VK → Prop := fun tl H Q => ∀ H0, Ex H H0 → ∀ (Ech : XK) (R : VK),
  (∀ C vfs ts dx H', HearV Wd Tx Tm C vfs ts → H' dx = some (.xd vfs) → (∀ p H'', H' p = none → Ex H' H'' → H'' p = some (.tup ts) → Q (.ref p) H'') → Ech (.ref C) (some dx) H') →
  (∀ v H', (∀ p H'', H' p = none → Ex H' H'' → H'' p = some (.lst [v]) → Q (.ref p) H'') → R v H') → tl Ech H0 R
end DL
set_option Elab.async false
set_option linter.all false
set_option maxRecDepth 100000
set_option maxHeartbeats 4000000
namespace DL
open PySem L2 Evl XcH LamX LamD
/-! ### a lambda that is heard -/
theorem Rel.tabs {K : PySem.W.Frag} {A : An} {σ : L2.St} {H G H1 : Hp} {s : S} (R : Rel K A σ H G s) (e : ExtN H H1) (t : Tabs A.tb H1) (ne : A.tb ≠ []) : Rel K A σ H1 G s := by
  have lst : ∀ a xs, H a = some (.lst xs) → H1 a = some (.lst xs) := fun a xs h => e a _ h fun ps z => nomatch z
  refine ⟨⟨fun a o n sn h => e a o (R.an.h a o n sn h) fun ps z => (R.ta ne).1 a ps (by rw [← z]; exact h), R.an.g, R.an.n, fun a o h => e a o (R.an.e a o h) fun ps z => R.an.t a ps (by rw [← z]; exact h), R.an.p, R.an.t, R.an.m, fun a h => ?_⟩, ⟨?_, fun a o h => ?_⟩, R.len, fun i c h => ?_, R.nd, R.tn, fun a xs h => ?_, t, R.ta, R.nn⟩
  · obtain ⟨o, ho⟩ := Option.ne_none_iff_exists'.mp h
    by_cases hp : a = A.pen
    · obtain ⟨xs0, p1, _⟩ := R.pn.ex
      rw [hp, lst _ _ p1]
      exact fun z => nomatch z
    · rw [e a o (R.an.h a o hp (by rw [(R.ta ne).2]; rfl) ho) fun ps z => (R.ta ne).1 a ps (by rw [← z]; exact ho)]
      exact fun z => nomatch z
  · obtain ⟨xs0, p1, p2⟩ := R.pn.ex
    exact ⟨xs0, lst _ _ p1, p2⟩
  · obtain ⟨q1, q2, q3⟩ := R.pn.st a o h
    refine ⟨?_, q2, q3⟩
    cases o with
    | lst ds => obtain ⟨xs, h1, h2⟩ := q1; exact ⟨xs, lst _ _ h1, h2⟩
    | dct ks ds => obtain ⟨xs, h1, h2, h3⟩ := q1; exact ⟨xs, e _ _ h1 (fun ps z => nomatch z), h2, h3⟩
    | ins C ns ds => obtain ⟨dx, xs, h1, h2, h3⟩ := q1; exact ⟨dx, xs, e _ _ h1 (fun ps z => nomatch z), h2, h3⟩
  · have q := R.sl i c h
    generalize σ[i]? = o at q
    cases q with
    | unb => exact .unb
    | val hd => exact .val hd
    | own q1 q2 q3 q4 q5 q6 => exact .own (lst _ _ q1) q2 q3 q4 q5 q6
    | new qm q1 ql q2 q3 q4 q5 q6 => exact .new qm (e _ _ q1 fun ps z => nomatch z) ql q2 q3 q4 q5 q6
  · obtain ⟨q1, q2⟩ := R.tm a xs h
    exact ⟨lst _ _ q1, q2⟩
def hideC : Cell → Cell
  | .own _ => .unb
  | .new _ _ _ => .unb
  | c => c
def hideE (env : List Cell) : List Cell := env.map hideC
theorem Rel.hide {K : PySem.W.Frag} {A : An} {σ : L2.St} {H G H1 : Hp} {s : S} (R : Rel K A σ H G s) (e : Ex H H1) : Rel K ⟨A.pen, s.n.st, H1, G, [], [], (0, 0, 0)⟩ σ H1 G ⟨hideE s.env, s.n⟩ := by
  have key : ∀ (i : Nat) (es : List D), (hideE s.env)[i]? ≠ some (.own es) := fun i es h => by
    unfold hideE at h
    rw [List.getElem?_map] at h
    cases hc : s.env[i]? with
    | none => rw [hc] at h; cases h
    | some c =>
      rw [hc] at h
      cases c <;> cases h
  have keyn : ∀ (i : Nat) (C : Addr) (ns : List Str) (es : List D), (hideE s.env)[i]? ≠ some (.new C ns es) := fun i C ns es h => by
    unfold hideE at h
    rw [List.getElem?_map] at h
    cases hc : s.env[i]? with
    | none => rw [hc] at h; cases h
    | some c =>
      rw [hc] at h
      cases c <;> cases h
  refine ⟨Grow.refl (R.an.e.trans e) R.an.p R.an.t, R.pn.up (Ex.refl _) R.an.p R.an.t e (fun a ha => R.pn.gnone ha), by unfold hideE; simp [R.len], fun i c h => ?_, fun i j ds es a _ h _ _ _ => key i ds h, .nil, (fun a xs h => nomatch h), (fun p hp => nomatch hp), (fun z => (z rfl).elim), fun i C ns ds h => (keyn i C ns ds h).elim⟩
  · unfold hideE at h
    rw [List.getElem?_map] at h
    cases hc : s.env[i]? with
    | none => rw [hc] at h; cases h
    | some c' =>
      rw [hc] at h
      cases h
      have q := R.sl i c' hc
      generalize σ[i]? = o at q
      cases q with
      | unb => exact .unb
      | val hd => exact .val hd
      | own q1 q2 q3 q4 q5 q6 => exact .unb
      | new qm q1 ql q2 q3 q4 q5 q6 => exact .unb
theorem ex_nn {H H1 : Hp} (h : Ex H H1) {a : Addr} (ha : H a ≠ none) : H1 a ≠ none := by
  obtain ⟨o, ho⟩ := Option.ne_none_iff_exists'.mp ha
  rw [h a o ho]
  exact fun z => nomatch z
theorem Grow.ex {pen : Addr} {S : Sto} {H H1 G : Hp} (e : Ex G H) (p : G pen = none) (t : NoT G) (h : Ex H H1) : Grow pen S H G S H1 G := ⟨fun a o _ _ ha => h a o ha, Ex.refl _, fun _ _ z => .inl z, e.trans h, p, t, fun _ h => .inl h, fun _ ha => ex_nn h ha⟩
theorem Grow.put {pen p : Addr} {S : Sto} {H H1 G : Hp} {o : HO} (e : Ex G H) (gp : G pen = none) (t : NoT G) (h : Ex H H1) (hp : H p = none) (h1 : H1 p = some o) (hpen : H pen ≠ none) (no : ∀ ps, o ≠ .tbl ps) : Grow pen S H G S H1 (upd G p o) := by
  have np : pen ≠ p := fun z => hpen (by rw [z]; exact hp)
  refine ⟨fun a u _ _ ha => h a u ha, Ex.new (fresh_back e hp), fun a g1 g2 => .inl ?_, fun a u ha => ?_, by rw [upd_ne np]; exact gp, t.upd no, fun _ h => .inl h, fun _ ha => ex_nn h ha⟩
  · rw [upd_ne (fun z => g1 (by rw [z]; exact hp))]
    exact g2
  · by_cases z : a = p
    · rw [z, upd_same] at ha
      rw [z, h1]
      exact ha
    · rw [upd_ne z] at ha
      exact h a u (e a u ha)
/-- the same by data -/
inductive HearD (Wd : Addr → Option Str) (Tx Tm : Addr → Prop) : Addr → List (Str × D) → List D → Prop
  | part {C : Addr} {W x : Str} : Wd C = some W → HearD Wd Tx Tm C [("part", .str x)] [.str W, .str x]
  | text {C : Addr} {i j : Int} : Tx C → HearD Wd Tx Tm C [("word", .int j), ("line", .int i)] [.str "text", .int i, .int j]
  | many {C : Addr} {x : Str} {j : Int} : Tm C → HearD Wd Tx Tm C [("most", .int j), ("what", .str x)] [.str "many", .str x, .int j]
theorem fsD_one {K : PySem.W.Frag} {pen : Addr} {G : Hp} {vfs : List (Str × V)} {a : Str} {d : D} (h : FsD K pen G vfs [(a, d)]) : ∃ v, vfs = [(a, v)] ∧ Dx K pen G v d := by
  obtain ⟨f1, f2⟩ := h
  match vfs, f1, f2 with
  | [(b, v)], f1, .cons h1 _ =>
    have : b = a := by simpa using f1
    exact ⟨v, by rw [this], h1⟩
theorem fsD_two {K : PySem.W.Frag} {pen : Addr} {G : Hp} {vfs : List (Str × V)} {a b : Str} {d e : D} (h : FsD K pen G vfs [(a, d), (b, e)]) : ∃ v u, vfs = [(a, v), (b, u)] ∧ Dx K pen G v d ∧ Dx K pen G u e := by
  obtain ⟨f1, f2⟩ := h
  match vfs, f1, f2 with
  | [(x, v), (y, u)], f1, .cons h1 (.cons h2 _) =>
    have z : x = a ∧ y = b := by simpa using f1
    exact ⟨v, u, by rw [z.1, z.2], h1, h2⟩
theorem HearD.v {K : PySem.W.Frag} {pen : Addr} {G : Hp} {Wd : Addr → Option Str} {Tx Tm : Addr → Prop} {C : Addr} {vfs : List (Str × V)} {fs : List (Str × D)} {ts : List D} (h : HearD Wd Tx Tm C fs ts) (f : FsD K pen G vfs fs) : ∃ vs, HearV Wd Tx Tm C vfs vs ∧ ∀ G', DxAll K pen G' vs ts := by
  cases h with
  | part hw =>
    obtain ⟨v, rfl, d⟩ := fsD_one f
    cases d
    exact ⟨_, .part hw, fun G' => .cons (.str _) (.cons (.str _) .nil)⟩
  | text hw =>
    obtain ⟨v, u, rfl, d, e⟩ := fsD_two f
    cases d
    cases e
    exact ⟨_, .text hw, fun G' => .cons (.str _) (.cons (.int _) (.cons (.int _) .nil))⟩
  | many hw =>
    obtain ⟨v, u, rfl, d, e⟩ := fsD_two f
    cases d
    cases e
    exact ⟨_, .many hw, fun G' => .cons (.str _) (.cons (.str _) (.cons (.int _) .nil))⟩
/-- _law_heard(lambda: ..): what is returned, in a list; else the word of the error and its part -/
def wHear (T : List (Addr × Str)) (Wd : Addr → Option Str) (Tx Tm : Addr → Prop) (wl : WE) : WE := fun Qe s Q => (Qe.tb = T ∧ T ≠ []) ∧ wl ⟨fun C fs n' => ∃ ts, HearD Wd Tx Tm C fs ts ∧ Q (.tup ts) ⟨s.env, n'⟩, []⟩ ⟨hideE s.env, s.n⟩ fun d s1 => Q (.lst [d]) ⟨s.env, s1.n⟩
theorem simE_hear {K : PySem.W.Frag} {E : XK} {T : List (Addr × Str)} {Wd : Addr → Option Str} {Tx Tm : Addr → Prop} {wl : WE} : SimE K E (tLam T (TTh Wd Tx Tm) fun E' => tOf K E' wl) (wHear T Wd Tx Tm wl) := fun A Qe W σ H G s Q P R q k => by
  obtain ⟨⟨q1, q2⟩, q3⟩ := q
  have hT : A.tb = T := by
    rcases W.tb with z | z
    · rw [q1] at z
      exact (q2 z).elim
    · rw [← z, q1]
  subst hT
  refine ⟨R.tb, fun H1 eN T1 => ?_⟩
  have R1 := R.tabs eN T1 q2
  intro H0 e0 Ech Rr kerr kval
  have fin : ∀ (H' G' H2 : Hp) (n' : M) (p : Addr) (o : HO), Grow A.pen s.n.st H0 G n'.st H' G' → PenG K A.pen n' G' H' → H' p = none → Ex H' H2 → H2 p = some o → (∀ ps, o ≠ .tbl ps) → Rel K A σ H2 (upd G' p o) ⟨s.env, n'⟩ ∧ Ex G' (upd G' p o) := fun H' G' H2 n' p o g pn hp e hq no => by
    have g0 : Grow A.pen s.n.st H1 G s.n.st H0 G := Grow.ex R1.an.e R1.an.p R1.an.t e0
    have g2 : Grow A.pen n'.st H' G' n'.st H2 (upd G' p o) := Grow.put g.e g.p g.t e hp hq pn.some no
    exact ⟨R1.grow ((g0.trans g).trans g2) (pn.up g2.g g2.p g2.t e fun a ha => by
      rw [upd_ne (fun z => ha (by rw [z]; exact pn.fresh hp))]
      exact pn.gnone ha), Ex.new (fresh_back g.e hp)⟩
  refine ⟨⟨A.pen, s.n.st, H0, G, [], [], (0, 0, 0)⟩, _, G, ⟨hideE s.env, s.n⟩, _, ⟨fun C fs n' dx H' G' vfs g pn h1 h2 h3 => ?_, .inl rfl⟩, R1.hide e0, q3, fun v H' G' d s' R' eg dd qd => ?_⟩
  · obtain ⟨ts, hD, hq⟩ := h3
    obtain ⟨vs, hV, hd⟩ := hD.v h2
    refine kerr C vfs vs dx H' hV h1 fun p H2 hp e hq2 => ?_
    obtain ⟨R2, e2⟩ := fin H' G' H2 n' p _ g pn hp e hq2 fun ps z => nomatch z
    exact k _ _ _ _ _ R2 (g.g.trans e2) (.tup (st_of upd_same) (hd _)) hq
  · refine kval v H' fun p H2 hp e hq2 => ?_
    obtain ⟨R2, e2⟩ := fin H' G' H2 s'.n p _ R'.an R'.pn hp e hq2 fun ps z => nomatch z
    exact k _ _ _ _ _ R2 (R'.an.g.trans e2) (.lst upd_same (.cons (dd.up e2) .nil)) qd
end DL
set_option Elab.async false
set_option linter.all false
set_option maxRecDepth 100000
set_option maxHeartbeats 4000000
namespace DL
open PySem L2 Evl
/-! ### things in the store -/
section
variable {K : PySem.W.Frag} {A : An} {σ : L2.St} {H G : Hp} {s : S} {a : Addr} {o : SO} {u : HO}
theorem SOk.notT {pen : Addr} (h : SOk K pen G H a o) : ∀ ps, H a ≠ some (.tbl ps) := fun ps z => by
  cases o with
  | lst ds => obtain ⟨xs, h1, _⟩ := h; rw [h1] at z; cases z
  | dct ks ds => obtain ⟨xs, h1, _⟩ := h; rw [h1] at z; cases z
  | ins C ns ds => obtain ⟨dx, xs, h1, _⟩ := h; rw [h1] at z; cases z
theorem updS_some {st : Sto} {b : Addr} (h : updS st a o b ≠ none) : b = a ∨ st b ≠ none := by
  by_cases z : b = a
  · exact .inl z
  · rw [updS_ne z] at h; exact .inr h
/-- what stands in the store changes -/
theorem Rel.sput (R : Rel K A σ H G s) (ha : s.n.st a ≠ none) (hk : SOk K A.pen G (upd H a u) a o) : Rel K A σ (upd H a u) G ⟨s.env, ⟨s.n.n, updS s.n.st a o⟩⟩ := by
  have ga := R.pn.gnone ha
  obtain ⟨o0, h0⟩ := Option.ne_none_iff_exists'.mp ha
  have np := (R.pn.st a o0 h0).2.2
  have eG : Ex G (upd H a u) := fun b v hb => by
    rw [upd_ne (fun z => by rw [z, ga] at hb; cases hb)]
    exact R.an.e b v hb
  have g : Grow A.pen s.n.st H G (updS s.n.st a o) (upd H a u) G := ⟨fun b v _ sn hb => by
    rw [upd_ne (fun z => ha (by rw [← z]; exact sn))]
    exact hb, Ex.refl _, fun _ _ h => .inl h, eG, R.pn.none, R.an.t, fun b hb => (updS_some hb).elim (fun z => .inl (by rw [z]; exact ha)) .inl, fun b hb => ne_none_upd hb⟩
  refine R.grow (n' := ⟨s.n.n, updS s.n.st a o⟩) g ⟨?_, fun b v hb => ?_⟩
  · obtain ⟨xs, h1, h2, h3⟩ := R.pn.ex
    exact ⟨xs, by rw [upd_ne (Ne.symm np)]; exact h1, h2, h3⟩
  · by_cases z : b = a
    · subst z
      have hb : updS s.n.st b o b = some v := hb
      rw [updS_same] at hb
      cases hb
      exact ⟨hk, ga, np⟩
    · have hb : updS s.n.st a o b = some v := hb
      rw [updS_ne z] at hb
      obtain ⟨q1, q2, q3⟩ := R.pn.st b v hb
      exact ⟨q1.up (Ex.refl _) fun w hw => by rw [upd_ne z]; exact hw, q2, q3⟩
/-- a new thing in the store -/
theorem Rel.snew (R : Rel K A σ H G s) (ha : H a = none) (hk : SOk K A.pen G (upd H a u) a o) : Rel K A σ (upd H a u) G ⟨s.env, ⟨s.n.n, updS s.n.st a o⟩⟩ := by
  have ga := fresh_back R.an.e ha
  have np : a ≠ A.pen := fun z => R.pn.some (by rw [← z]; exact ha)
  have g : Grow A.pen s.n.st H G (updS s.n.st a o) (upd H a u) G := (Grow.own R.an.e ha R.pn.none R.an.t).sto fun b hb => (updS_some hb).elim (fun z => .inr (by rw [z]; exact ha)) .inl
  refine R.grow (n' := ⟨s.n.n, updS s.n.st a o⟩) g ⟨?_, fun b v hb => ?_⟩
  · obtain ⟨xs, h1, h2, h3⟩ := R.pn.ex
    exact ⟨xs, by rw [upd_ne (Ne.symm np)]; exact h1, h2, h3⟩
  · by_cases z : b = a
    · subst z
      have hb : updS s.n.st b o b = some v := hb
      rw [updS_same] at hb
      cases hb
      exact ⟨hk, ga, np⟩
    · have hb : updS s.n.st a o b = some v := hb
      rw [updS_ne z] at hb
      obtain ⟨q1, q2, q3⟩ := R.pn.st b v hb
      exact ⟨q1.up (Ex.refl _) fun w hw => by rw [upd_ne z]; exact hw, q2, q3⟩
/-- a list of one's own goes into the store -/
theorem Rel.sown {ds : List D} (R : Rel K A σ H G s) (O : Own1 K A σ H G s a ds) : Rel K A σ H G ⟨s.env, ⟨s.n.n, updS s.n.st a (.lst ds)⟩⟩ := by
  obtain ⟨xs, h1, h2⟩ := O.ex
  refine ⟨R.an.sto fun b hb => ?_, ⟨R.pn.ex, fun b v hb => ?_⟩, R.len, fun i c h => ?_, R.nd, R.tn, fun b ys h => ?_, R.tb, R.ta, R.nn⟩
  · rcases updS_some hb with z | z
    · exact .inr (by rw [z]; exact O.h)
    · exact R.an.m b z
  · by_cases z : b = a
    · subst z
      have hb : updS s.n.st b (.lst ds) b = some v := hb
      rw [updS_same] at hb
      cases hb
      exact ⟨⟨xs, h1, h2⟩, O.g, O.p⟩
    · have hb : updS s.n.st a (.lst ds) b = some v := hb
      rw [updS_ne z] at hb
      exact R.pn.st b v hb
  · have q := R.sl i c h
    generalize ho : σ[i]? = oo at q
    cases q with
    | unb => exact .unb
    | val hv => exact .val hv
    | own q1 q2 q3 q4 q5 q6 => exact .own q1 q2 q3 q4 q5 (by
        show updS s.n.st a (.lst ds) _ = none
        rw [updS_ne (fun z => O.o i _ h (by rw [← z]; exact ho))]
        exact q6)
    | new qm q1 ql q2 q3 q4 q5 q6 => exact .new qm q1 ql q2 q3 q4 q5 (by
        show updS s.n.st a (.lst ds) _ = none
        rw [updS_ne (fun z => by rw [z, h1] at q1; cases q1)]
        exact q6)
  · obtain ⟨q1, q2, q3, q4, q5, q6⟩ := R.tm b ys h
    refine ⟨q1, q2, q3, q4, q5, ?_⟩
    show updS s.n.st a (.lst ds) b = none
    rw [updS_ne (fun z => O.t ys (by rw [← z]; exact h))]
    exact q6
/-- the frozen part, with more -/
noncomputable def frzG (P : Addr → Prop) (H G : Hp) : Hp := fun b => open Classical in if P b then H b else G b
theorem frzG_in {P : Addr → Prop} {b : Addr} (h : P b) : frzG P H G b = H b := by unfold frzG; exact if_pos h
theorem frzG_out {P : Addr → Prop} {b : Addr} (h : ¬ P b) : frzG P H G b = G b := by unfold frzG; exact if_neg h
/-- things of the store stay as they are from now on -/
theorem Rel.sfrz {P : Addr → Prop} {st : Sto} (R : Rel K A σ H G s) (hP : ∀ b, P b → s.n.st b ≠ none) (hst : ∀ b o, st b = some o → s.n.st b = some o ∧ ¬ P b) :
    Rel K A σ H (frzG P H G) ⟨s.env, ⟨s.n.n, st⟩⟩ ∧ Ex G (frzG P H G) := by
  have eg : Ex G (frzG P H G) := fun b v hb => by
    rw [frzG_out (fun z => by rw [R.pn.gnone (hP b z)] at hb; cases hb)]
    exact hb
  have eH : Ex (frzG P H G) H := fun b v hb => by
    by_cases z : P b
    · rw [frzG_in z] at hb; exact hb
    · rw [frzG_out z] at hb; exact R.an.e b v hb
  have nT : NoT (frzG P H G) := fun b ps hb => by
    by_cases z : P b
    · rw [frzG_in z] at hb
      obtain ⟨o, ho⟩ := Option.ne_none_iff_exists'.mp (hP b z)
      exact (R.pn.at ho).notT ps hb
    · rw [frzG_out z] at hb; exact R.an.t b ps hb
  have npP : ¬ P A.pen := fun z => by
    obtain ⟨o, ho⟩ := Option.ne_none_iff_exists'.mp (hP _ z)
    exact (R.pn.st _ _ ho).2.2 rfl
  have pp : frzG P H G A.pen = none := by rw [frzG_out npP]; exact R.pn.none
  have less : ∀ b, st b ≠ none → s.n.st b ≠ none := fun b hb => by
    obtain ⟨o, ho⟩ := Option.ne_none_iff_exists'.mp hb
    rw [(hst b o ho).1]
    exact fun z => nomatch z
  have out : ∀ b, s.n.st b = none → ¬ P b := fun b hb z => hP b z hb
  have stn : ∀ b, s.n.st b = none → st b = none := fun b hb => by
    rcases none_or (st b) with z | z
    · exact z
    · exact absurd hb (less b z)
  refine ⟨⟨⟨R.an.h, R.an.g.trans eg, fun b h1 h2 => ?_, eH, pp, nT, fun b hb => R.an.m b (less b hb), R.an.l⟩, ⟨?_, fun b o hb => ?_⟩, R.len, fun i c h => ?_, R.nd, R.tn, fun b ys h => ?_, R.tb, R.ta, R.nn⟩, eg⟩
  · rcases none_or (A.S0 b) with z | z
    · by_cases hp : P b
      · rcases R.an.m b (hP b hp) with y | y
        · exact absurd z y
        · exact absurd y h1
      · refine .inl ?_
        rw [frzG_out hp]
        exact R.an.n0 h1 h2 z
    · exact .inr z
  · obtain ⟨xs, h1, h2, h3⟩ := R.pn.ex
    exact ⟨xs, h1, h2.up eg, pp, nT⟩
  · obtain ⟨e1, e2⟩ := hst b o hb
    obtain ⟨q1, q2, q3⟩ := R.pn.st b o e1
    exact ⟨q1.up eg fun _ h => h, by rw [frzG_out e2]; exact q2, q3⟩
  · have q := R.sl i c h
    generalize ho : σ[i]? = oo at q
    cases q with
    | unb => exact .unb
    | val hv => exact .val (hv.up eg)
    | own q1 q2 q3 q4 q5 q6 => exact .own q1 (by rw [frzG_out (out _ q6)]; exact q2) q3 q4 (q5.up eg) (stn _ q6)
    | new qm q1 ql q2 q3 q4 q5 q6 => exact .new qm q1 ql (by rw [frzG_out (out _ q6)]; exact q2) q3 q4 (q5.up eg) (stn _ q6)
  · obtain ⟨q1, q2, q3, q4, q5, q6⟩ := R.tm b ys h
    exact ⟨q1, by rw [frzG_out (out _ q6)]; exact q2, q3, q4, q5, stn _ q6⟩
/-- the slots' data told anew -/
theorem Rel.setEnv {i : Nat} {d d' : D} (R : Rel K A σ H G s) (hi : s.env[i]? = some (.val d)) (hd : ∀ v, Dx K A.pen G v d → Dx K A.pen G v d') : Rel K A σ H G ⟨s.env.set i (.val d'), s.n⟩ := by
  obtain ⟨v, h1, h2⟩ := R.val hi
  have q := R.setV (i := i) (hd v h2)
  have e : σ.set i (some v) = σ := by
    refine List.ext_getElem? fun j => ?_
    by_cases z : i = j
    · subst z
      rw [List.getElem?_set_self (List.getElem?_eq_some_iff.mp h1).1, h1]
    · rw [List.getElem?_set_ne z]
  rw [e] at q
  exact q
end
/-! ### readings -/
def withS (s : S) (st : Sto) : S := ⟨s.env, ⟨s.n.n, st⟩⟩
/-- a list that goes into the store -/
def wNewL (wf : WF) : WE := fun Qe s Q => wf Qe s fun ds s1 => ∀ a, s1.n.st a = none → Q (.loc a) (withS s1 (updS s1.n.st a (.lst ds)))
/-- e[i], e a thing of the store or data -/
def wIxU (wa wb : WE) : WE := fun Qe s Q => wa Qe s fun d s1 => wb Qe s1 fun e s2 => match d, e with
  | .loc a, .int i => ∃ ds z, s2.n.st a = some (.lst ds) ∧ atI ds i = some z ∧ Q z s2
  | _, _ => fIx d e fun z => Q z s2
def wFldU (C : Addr) (f : Str) (wa : WE) : WE := fun Qe s Q => wa Qe s fun d s1 => match d with
  | .obj C' ns ds => C' = C ∧ ∃ z, (ns.zip ds).lookup f = some z ∧ Q z s1
  | .loc a => ∃ ns ds z, s1.n.st a = some (.ins C ns ds) ∧ (ns.zip ds).lookup f = some z ∧ Q z s1
  | _ => False
def wLenU (wa : WE) : WE := fun Qe s Q => wa Qe s fun d s1 => match d with
  | .loc a => ∃ ds, s1.n.st a = some (.lst ds) ∧ Q (.int (ds.length : Nat)) s1
  | _ => gLen [d] fun z => Q z s1
/-- a field set -/
def setN (f : Str) (d : D) : List Str → List D → List Str × List D
  | n :: ns, x :: xs => if n = f then (n :: ns, d :: xs) else ((n :: (setN f d ns xs).1), (x :: (setN f d ns xs).2))
  | _, _ => ([f], [d])
def wSetFld (C : Addr) (f : Str) (wo wv : WE) : WS := fun Qe De s => wv Qe s fun v s1 => wo Qe s1 fun d s2 => ∃ a ns ds, d = .loc a ∧ s2.n.st a = some (.ins C ns ds) ∧ ns.length < 1000 ∧ De.nx (withS s2 (updS s2.n.st a (.ins C (setN f v ns ds).1 (setN f v ns ds).2)))
theorem putF_set {K : PySem.W.Frag} {pen : Addr} {G : Hp} {f : Str} {v : V} {d : D} (hv : Dx K pen G v d) : ∀ {ns : List Str} {xs : List V} {ds : List D}, xs.length = ns.length → DxAll K pen G xs ds →
    ∃ ys, putF f v (ns.zip xs) = (setN f d ns ds).1.zip ys ∧ ys.length = (setN f d ns ds).1.length ∧ DxAll K pen G ys (setN f d ns ds).2
  | [], [], _, _, .nil => ⟨[v], rfl, rfl, .one hv⟩
  | [], _ :: _, _, h, _ => by simp at h
  | _ :: _, [], _, h, _ => by simp at h
  | n :: ns, x :: xs, _, h, .cons h1 h2 => by
    rw [List.zip_cons_cons, putF, setN]
    by_cases z : n = f
    · rw [if_pos z, if_pos z]
      exact ⟨v :: xs, rfl, h, .cons hv h2⟩
    · rw [if_neg z, if_neg z]
      obtain ⟨ys, e1, e2, e3⟩ := putF_set hv (ns := ns) (xs := xs) (by simpa using h) h2
      exact ⟨x :: ys, by rw [e1]; rfl, by simp [e2], .cons h1 e3⟩
/-- C(..): the object stands in the store -/
def wMake (C : Addr) (sp : DSp) (wr : WA) : WE := fun Qe s Q => wr Qe s fun ds s1 => ∀ x, s1.n.st x = none → sp (.loc x :: ds) ⟨s1.n.n, updS s1.n.st x (.ins C [] [])⟩ (fun d n' => d = .non ∧ Q (.loc x) ⟨s1.env, n'⟩) Qe.only
/-- from now on the object stays as it is -/
def eraS (st : Sto) (a : Addr) : Sto := fun b => if b = a then none else st b
def wFrzO (wa : WE) : WE := fun Qe s Q => wa Qe s fun d s1 => ∃ a C ns ds, d = .loc a ∧ s1.n.st a = some (.ins C ns ds) ∧ Q (.obj C ns ds) (withS s1 (eraS s1.n.st a))
def wFrzL (wa : WE) : WE := fun Qe s Q => wa Qe s fun d s1 => ∃ a ds, d = .loc a ∧ s1.n.st a = some (.lst ds) ∧ Q (.lst ds) (withS s1 (eraS s1.n.st a))
/-- a method's call -/
def wMeth (C : Addr) (m : Str) (sp : DSp) (wo : WE) (wr : WA) : WE := fun Qe s Q => wo Qe s fun d s1 => (match d with
  | .obj C' ns _ => C' = C ∧ m ∉ ns
  | .loc a => ∃ ns ds, s1.n.st a = some (.ins C ns ds) ∧ m ∉ ns
  | _ => False) ∧ wr Qe s1 fun ds s2 => sp (d :: ds) s2.n (fun d' n' => Q d' ⟨s2.env, n'⟩) Qe.only
theorem look_none {m : Str} {α : Type} : ∀ {ns : List Str} {xs : List α}, m ∉ ns → (ns.zip xs).lookup m = none
  | [], _, _ => by simp
  | _ :: _, [], _ => by simp
  | n :: ns, x :: xs, h => by
    rw [List.mem_cons, not_or] at h
    rw [List.zip_cons_cons, List.lookup_cons]
    rw [show (m == n) = false by simpa using h.1]
    exact look_none h.2
section
variable {X : Cx} {E : XK} {e a b : Expr} {es : List Expr} {wa wb wo wv : WE} {wf : WF} {wr : WA} {pos p pos' : Pos} {f x : Str} {C : Addr} {K : PySem.W.Frag}
theorem de_newL (h : DF X E e wf) : DE X E e (wNewL wf) := by
  obtain ⟨t, h1, h2⟩ := h.ex
  refine ⟨_, h1, fun A Qe W σ H G s Q P R q k => h2 A Qe W σ H G s _ _ R q fun a H1 G1 ds s1 R1 g1 o1 q1 => ?_⟩
  exact k _ _ _ _ _ (R1.sown o1) g1 .loc (q1 a o1.s)
theorem de_ixU (ha : DE X E a wa) (hb : DE X E b wb) (hs : PlainIx b := by exact fun _ _ => rfl) : DE X E (.Subscript a b pos) (wIxU wa wb) := by
  obtain ⟨ta, h1, h2⟩ := ha.ex
  obtain ⟨tb, h3, h4⟩ := hb.ex
  refine ⟨_, pe_ix ix_seq h1 h3 hs, fun A Qe W σ H G s Q P R q k => h2 A Qe W σ H G s _ _ R q fun v H1 G1 d s1 R1 g1 d1 q1 => h4 A Qe W σ H1 G1 s1 _ _ R1 q1 fun u H2 G2 e s2 R2 g2 d2 q2 => ?_⟩
  split at q2
  · obtain ⟨ds, z, h5, h6, q3⟩ := q2
    cases d1
    cases d2
    obtain ⟨xs, h7, h8⟩ := R2.pn.at h5
    obtain ⟨w, w1, w2⟩ := h8.at h6
    exact .inl ⟨_, xs, _, w, rfl, rfl, sq_of h7, w1, k _ _ _ _ _ R2 (g1.trans g2) w2 q3⟩
  · exact ref_ix A σ H2 G2 s2 v u d e _ _ R2 (d1.up g2) d2 q2 fun w H3 G3 z R3 g3 d3 q3 => k _ _ _ _ _ R3 (g1.trans (g2.trans g3)) d3 q3
theorem de_fldU (hC : Cls X.K C) (hn : NoAttr X.K C f) (ha : DE X E a wa) (hb : attributeBase a f X.env (eval a X.env) = eval a X.env := by rfl) : DE X E (.Attribute a f pos) (wFldU C f wa) := by
  obtain ⟨t, h1, h2⟩ := ha.ex
  refine ⟨_, pe_fld h1 hb, fun A Qe W σ H G s Q P R q k => h2 A Qe W σ H G s _ _ R q fun v H1 G1 d s1 R1 g1 d1 q1 => ?_⟩
  cases d with
  | obj C' ns ds =>
    obtain ⟨rfl, z, hz, q2⟩ := q1
    cases d1 with
    | obj hx hl hxa =>
      obtain ⟨u, u1, u2⟩ := look_of hxa hz
      exact ⟨_, _, _, _, u, rfl, R1.an.e _ _ hx, hC, hn, u1, k _ _ _ _ _ R1 g1 u2 q2⟩
  | loc a =>
    obtain ⟨ns, ds, z, h3, hz, q2⟩ := q1
    cases d1
    obtain ⟨dx, xs, h4, h5, h6⟩ := R1.pn.at h3
    obtain ⟨u, u1, u2⟩ := look_of h6 hz
    exact ⟨_, _, _, _, u, rfl, h4, hC, hn, u1, k _ _ _ _ _ R1 g1 u2 q2⟩
  | _ => exact (show False from q1).elim
theorem de_lenU {p2 : Pos} (hg : Gl X "len") (hm : X.mg "len" = none) (ha : DE X E a wa) (he : starEach [a] X.env = (false, eval a X.env) :: starEach [] X.env := by rfl) : DE X E (.Call (.Name "len" p2) [a] [] pos) (wLenU wa) := by
  obtain ⟨t, h1, h2⟩ := ha.ex
  refine ⟨_, pe_callB call_len hg hm bLen (pa_cons h1 pa_nil he) (by decide) (by decide) he (by rfl), fun A Qe W σ H G s Q P R q k => h2 A Qe W σ H G s _ _ R q fun v H1 G1 d s1 R1 g1 d1 q1 => ?_⟩
  split at q1
  · obtain ⟨ds, h3, q2⟩ := q1
    cases d1
    obtain ⟨xs, h4, h5⟩ := R1.pn.at h3
    exact ⟨_, _, rfl, .inl ⟨xs, sq_of h4, rfl⟩, k _ _ _ _ _ R1 g1 (.int _) (by rw [h5.length]; exact q2)⟩
  · exact refc_len A σ H1 G1 s1 [v] [d] _ _ R1 (.one d1) q1 fun w H2 G2 z R2 g2 d2 q2 => k _ _ _ _ _ R2 (g1.trans g2) d2 q2
theorem ds_setFld (hC : Cls X.K C) (hn : NoAttr X.K C f) (ho : DE X E b wo) (ha : DE X E a wv) (hs : swapsWith a (some (.Attribute b f pos')) pos.line X.env = pure false := by rfl) : DS X E (.Assign [.Attribute b f pos'] a pos) (wSetFld C f wo wv) := by
  obtain ⟨t, g1, g2⟩ := ha.ex
  obtain ⟨u, g3, g4⟩ := ho.ex
  refine ⟨_, ps_fld g3 g1 hs, fun A Qe W σ H G s De Dh R eo q => g2 A Qe W σ H G s _ _ R q fun v H1 G1 d s1 R1 e1 d1 q1 => g4 A Qe W σ H1 G1 s1 _ _ R1 q1 fun w H2 G2 d' s2 R2 e2 d2 q2 => ?_⟩
  obtain ⟨a0, ns, ds, rfl, h1, h2, q3⟩ := q2
  cases d2
  obtain ⟨dx, xs, h3, h4, h5⟩ := R2.pn.at h1
  obtain ⟨ys, y1, y2, y3⟩ := putF_set (f := f) (d1.up e2) h4 h5
  refine ⟨a0, C, dx, _, rfl, h3, hC, hn, by rw [List.length_zip, h4, Nat.min_self]; exact h2, ?_⟩
  rw [y1]
  exact eo.nx _ _ _ _ (R2.sput (a := a0) (o := .ins C (setN f d ns ds).1 (setN f d ns ds).2) (by rw [h1]; exact fun z => nomatch z) ⟨dx, ys, upd_same, y2, y3⟩) q3
theorem simE_makeS {K : PySem.W.Frag} {E : XK} {C : Addr} {sp : DSp} {t : TA} {wr : WA} (h : SimA K E t wr) : SimE K E (tMake C (spD K sp) [] E t) (wMake C sp wr) := fun A Qe W σ H G s Q P R q k =>
  h A Qe W σ H G s _ _ R q fun vs H1 G1 ds s1 R1 g1 d1 q1 => fun x dx hx hdx hne => by
    rw [List.append_nil]
    have hx2 : (upd H1 dx (.own x)) x = none := by rw [upd_ne (Ne.symm hne)]; exact hx
    have R2 : Rel K A σ (upd H1 dx (.own x)) G1 s1 := R1.temp hdx
    have R3 := R2.snew (a := x) (o := .ins C [] []) (u := .ins C dx []) hx2 ⟨dx, [], upd_same, rfl, .nil⟩
    refine ⟨A.pen, G1, ⟨s1.n.n, updS s1.n.st x (.ins C [] [])⟩, .loc x :: ds, _, Qe.only, R3.an.e, R3.pn, .cons .loc d1, q1 x (R1.pn.fresh hx), fun v H' G' d n' g p dd q2 => ?_, W.at R3⟩
    obtain ⟨rfl, q3⟩ := q2
    cases dd
    exact ⟨rfl, k _ _ _ _ _ (R3.grow g p) (g1.trans g.g) .loc q3⟩
theorem de_makeS {CX : CXT} {k : Nat} {f : Addr} {fd : FuncData} {ps : List Str} {sp : DSp} (M : Mk X.K C f) (F : FnOk X.prog X.w X.K X.mg X.base CX k f fd ps (spD X.K sp)) (hr : Room (k + 1) X.A) (hg : Gl X x) (hm : X.mg x = some (.ref C)) (hb : Binds X.K fd ps []) (hx : Passes CX X E)
    (ha : DA X E (e :: es) wr) (hdb : (x == ("__debug__" : Str)) = false := by decide) (he : starEach (e :: es) X.env = (false, eval e X.env) :: starEach es X.env := by rfl) (hpl : (backTo pos (starEach es X.env)).any (·.1) = false := by rfl) :
    DE X E (.Call (.Name x p) (e :: es) [] pos) (wMake C sp wr) := by
  obtain ⟨t, h1, h2⟩ := ha.ex
  exact ⟨_, pe_make M F hr hg hm hb .nil hx h1 hdb he hpl, simE_makeS h2⟩
theorem de_frzO (h : DE X E e wa) : DE X E e (wFrzO wa) := by
  obtain ⟨t, h1, h2⟩ := h.ex
  refine ⟨_, h1, fun A Qe W σ H G s Q P R q k => h2 A Qe W σ H G s _ _ R q fun v H1 G1 d s1 R1 g1 d1 q1 => ?_⟩
  obtain ⟨a0, C, ns, ds, rfl, h3, q2⟩ := q1
  cases d1
  obtain ⟨dx, xs, h4, h5, h6⟩ := R1.pn.at h3
  obtain ⟨R2, e2⟩ := R1.sfrz (P := fun b => b = a0) (st := eraS s1.n.st a0) (fun b z => by rw [z, h3]; exact fun z => nomatch z) fun b o hb => by
    unfold eraS at hb
    split at hb
    · cases hb
    · rename_i z; exact ⟨hb, z⟩
  exact k _ _ _ _ _ R2 (g1.trans e2) (.obj (by rw [frzG_in (P := fun b => b = a0) rfl]; exact h4) h5 (h6.up e2)) q2
theorem de_frzL (h : DE X E e wa) : DE X E e (wFrzL wa) := by
  obtain ⟨t, h1, h2⟩ := h.ex
  refine ⟨_, h1, fun A Qe W σ H G s Q P R q k => h2 A Qe W σ H G s _ _ R q fun v H1 G1 d s1 R1 g1 d1 q1 => ?_⟩
  obtain ⟨a0, ds, rfl, h3, q2⟩ := q1
  cases d1
  obtain ⟨xs, h4, h6⟩ := R1.pn.at h3
  obtain ⟨R2, e2⟩ := R1.sfrz (P := fun b => b = a0) (st := eraS s1.n.st a0) (fun b z => by rw [z, h3]; exact fun z => nomatch z) fun b o hb => by
    unfold eraS at hb
    split at hb
    · cases hb
    · rename_i z; exact ⟨hb, z⟩
  exact k _ _ _ _ _ R2 (g1.trans e2) (.lst (by rw [frzG_in (P := fun b => b = a0) rfl]; exact h4) (h6.up e2)) q2
theorem simE_meth {K : PySem.W.Frag} {E : XK} {C : Addr} {m : Str} {sp : DSp} {to : TE} {t : TA} (h0 : SimE K E to wo) (h : SimA K E t wr) : SimE K E (tMeth C m (spD K sp) [] E to t) (wMeth C m sp wo wr) := fun A Qe W σ H G s Q P R q k =>
  h0 A Qe W σ H G s _ _ R q fun v H1 G1 d s1 R1 g1 d1 q1 => by
    obtain ⟨q0, q1⟩ := q1
    have fin : tCall (spD K (fun ds n => sp (d :: ds) n)) [] E t σ H1 P → True := fun _ => trivial
    have hin : ∃ a dx fs, v = .ref a ∧ H1 a = some (.ins C dx fs) ∧ fs.lookup m = none := by
      cases d with
      | obj C' ns ds =>
        obtain ⟨rfl, hm⟩ := q0
        cases d1 with
        | obj hx hl hxa => exact ⟨_, _, _, rfl, R1.an.e _ _ hx, look_none hm⟩
      | loc a =>
        obtain ⟨ns, ds, h3, hm⟩ := q0
        cases d1
        obtain ⟨dx, xs, h4, h5, h6⟩ := R1.pn.at h3
        exact ⟨_, _, _, rfl, h4, look_none hm⟩
      | _ => exact q0.elim
    obtain ⟨a, dx, fs, rfl, h3, h4⟩ := hin
    refine ⟨a, dx, fs, rfl, h3, h4, h A Qe W σ H1 G1 s1 _ _ R1 q1 fun vs H2 G2 ds s2 R2 g2 d2 q2 => ?_⟩
    rw [List.append_nil]
    exact ⟨A.pen, G2, s2.n, d :: ds, _, Qe.only, R2.an.e, R2.pn, .cons (d1.up g2) d2, q2, fun v H' G' d n' g p dd q3 => k _ _ _ _ _ (R2.grow g p) (g1.trans (g2.trans g.g)) dd q3, W.at R2⟩
section
variable {CX : CXT} {k : Nat} {g : Addr} {fd : FuncData} {ps : List Str} {sp : DSp} {m : Str} {o : Expr} {apos : Pos} {pl : Sem Bool}
theorem de_meth (c : Cls X.K C) (hm : Meth X.K C m g) (F : FnOk X.prog X.w X.K X.mg X.base CX k g fd ps (spD X.K sp)) (hr : Room k X.A) (hb : Binds X.K fd ps []) (hx : Passes CX X E) (ho : DE X E o wo) (ha : DA X E (e :: es) wr)
    (hst : starEach (e :: es) X.env = (false, eval e X.env) :: starEach es X.env := by rfl) (hpl : (backTo pos (starEach es X.env)).any (·.1) = false := by rfl)
    (ht : eval (.Call (.Attribute o m apos) (e :: es) [] pos) X.env = (do
      let ov ← eval o X.env
      standAt apos.atName
      let (f, first) ← holding [ov] (getMethod ov m pl)
      callWith pos f first (backTo pos (starEach (e :: es) X.env)) (backToKw pos (keywordEach [] X.env))) := by rfl) : DE X E (.Call (.Attribute o m apos) (e :: es) [] pos) (wMeth C m sp wo wr) := by
  obtain ⟨to, h1, h2⟩ := ho.ex
  obtain ⟨t, h3, h4⟩ := ha.ex
  exact ⟨_, pe_meth h1 c hm F hr hb .nil hx h3 hst hpl ht, simE_meth h2 h4⟩
theorem de_meth0 (c : Cls X.K C) (hm : Meth X.K C m g) (F : FnOk X.prog X.w X.K X.mg X.base CX k g fd ps (spD X.K sp)) (hr : Room k X.A) (hb : Binds X.K fd ps []) (hx : Passes CX X E) (ho : DE X E o wo)
    (ht : eval (.Call (.Attribute o m apos) [] [] pos) X.env = (do
      let ov ← eval o X.env
      standAt apos.atName
      let (f, first) ← holding [ov] (getMethod ov m pl)
      callWith pos f first (backTo pos (starEach [] X.env)) (backToKw pos (keywordEach [] X.env))) := by rfl) : DE X E (.Call (.Attribute o m apos) [] [] pos) (wMeth C m sp wo wNil) := by
  obtain ⟨to, h1, h2⟩ := ho.ex
  exact ⟨_, pe_meth0 h1 c hm F hr hb .nil hx ht, simE_meth h2 fun A Qe _ σ H G s Q P R q k => k [] H G [] s R (Ex.refl _) .nil q⟩
end
end
end DL
set_option Elab.async false
set_option linter.all false
set_option maxRecDepth 100000
set_option maxHeartbeats 4000000
namespace DL
open PySem L2 Evl
/-! ### keywords alone, in any order -/
def pickL {α : Type} (pm : List Nat) (zs : List α) : List α := pm.filterMap fun i => zs[i]?
def gP {α : Type} (pm : List Nat) : List α → List α → List α := fun us ws => match us with
  | [] => pickL pm ws
  | _ => []
theorem Vals.pick {zs : List V} {ws : List Value} (h : Vals zs ws) : ∀ pm : List Nat, Vals (pickL pm zs) (pickL pm ws)
  | [] => .nil
  | i :: pm => by
    have ih := Vals.pick h pm
    unfold pickL at ih ⊢
    have hl := h.length
    rw [List.filterMap_cons, List.filterMap_cons]
    cases hz : zs[i]? with
    | none =>
      have : ws[i]? = none := by
        rw [List.getElem?_eq_none_iff] at hz ⊢
        omega
      rw [this]
      exact ih
    | some v =>
      obtain ⟨u, hu, r⟩ := h.get hz
      rw [hu]
      exact .cons r ih
theorem DxAll.pick {K : PySem.W.Frag} {pen : Addr} {G : Hp} {zs : List V} {ds : List D} (h : DxAll K pen G zs ds) : ∀ pm : List Nat, DxAll K pen G (pickL pm zs) (pickL pm ds)
  | [] => .nil
  | i :: pm => by
    have ih := h.pick pm
    unfold pickL at ih ⊢
    rw [List.filterMap_cons, List.filterMap_cons]
    cases hz : ds[i]? with
    | none =>
      have : zs[i]? = none := by
        rw [List.getElem?_eq_none_iff] at hz ⊢
        have := h.length
        omega
      rw [this]
      exact ih
    | some v =>
      obtain ⟨u, hu, r⟩ := h.get hz
      rw [hu]
      exact .cons r ih
structure DK (X : Cx) (E : XK) (kws : List Keyword) (w : WA) : Prop where
  ex : ∃ t, PK X kws t ∧ SimA X.K E t w
def wCallK (pm : List Nat) (sp : DSp) (wr : WA) : WE := fun Qe s Q => wr Qe s fun ds s1 => sp (pickL pm ds) s1.n (fun d n' => Q d ⟨s1.env, n'⟩) Qe.only
section
variable {X : Cx} {E : XK} {CX : CXT} {k : Nat} {f : Addr} {fd : FuncData} {ps ks : List Str} {sp : DSp} {x : Str} {p pos kpos : Pos} {e : Expr} {kws : List Keyword} {wr : WA} {wa : WE} {pm : List Nat} {nm : Option Str}
theorem dk_nil : DK X E [] wNil := ⟨_, pk_nil, fun A Qe _ σ H G s Q P R q k => k [] H G [] s R (Ex.refl _) .nil q⟩
theorem dk_cons (ha : DE X E e wa) (hr : DK X E kws wr) : DK X E (⟨nm, e, kpos⟩ :: kws) (wCons wa wr) := by
  obtain ⟨t, h1, h2⟩ := ha.ex
  obtain ⟨u, h3, h4⟩ := hr.ex
  exact ⟨_, pk_cons h1 h3, simA_cons h2 h4⟩
theorem de_kw (F : FnOk X.prog X.w X.K X.mg X.base CX k f fd ps (spD X.K sp)) (hr : Room k X.A) (hg : Gl X x) (hm : X.mg x = some (.ref f)) (hk : PySem.W.keepIn X.K (.ref f) = true) (hb : KBinds X.K fd ps ks (gP pm) (gP pm)) (hx : Passes CX X E) (hkw : DK X E kws wr)
    (hall : (backToKw pos (keywordEach kws X.env)).all (·.1.isSome) = true := by rfl) (hks : (backToKw pos (keywordEach kws X.env)).filterMap (·.1) = ks := by rfl) (hdb : (x == ("__debug__" : Str)) = false := by decide)
    (hpl : ((backTo pos (starEach [] X.env)).any (·.1) || (backToKw pos (keywordEach kws X.env)).any (·.1.isNone)) = false := by rfl) :
    DE X E (.Call (.Name x p) [] kws pos) (wCallK pm sp wr) := by
  obtain ⟨t, h1, h2⟩ := hkw.ex
  refine ⟨fun σ H Q => t σ H fun zs H1 => spD X.K sp (pickL pm zs) H1 Q E, ⟨fun pins s σ H Q I h => ?_⟩, fun A Qe W σ H G s Q P R q kk => h2 A Qe W σ H G s _ _ R q fun vs H1 G1 ds s1 R1 g1 d1 q1 =>
    ⟨A.pen, G1, s1.n, pickL pm ds, _, Qe.only, R1.an.e, R1.pn, d1.pick pm, q1, fun v H' G' d n' g p dd q2 => kk _ _ _ _ _ (R1.grow g p) (g1.trans g.g) dd q2, W.at R1⟩⟩
  refine wpAny_Call_Name_kw (ld_glob I hg hm ?_ hdb)
  refine PySem.W.callWith_KW0 (h₀ := X.base) I.ok.mod.kin hk hall ?_ hpl
  refine thn (h1.run pos pins s σ H _ I h) fun ws s2 ⟨zs, H2, I2, rz, q2⟩ => ⟨I2.kIn, ?_⟩
  rw [hks]
  exact run_fnk (us := []) (vs := []) (gV := gP pm) (g := gP pm) F hr hb hx I2 .nil rz q2
end
/-- how keywords alone bind -/
theorem kbP {K : PySem.W.Frag} {fd : FuncData} {ps ks : List Str} {pm : List Nat} (h : ∀ (s : Shared) (ws : List Value), K.In s.heap → (pickL pm ws).length = ps.length → BindsTo s fd ⟨[], ks.zip ws⟩ (ps.zip (pickL pm ws))) (hp : ps ≠ []) : KBinds K fd ps ks (gP pm) (gP pm) := by
  refine ⟨fun s us ws k hl => ?_, fun {vs us zs ws} r rz => ?_⟩
  · cases us with
    | nil => exact h s ws k hl
    | cons u us =>
      exfalso
      have hl : ([] : List Value).length = ps.length := hl
      exact hp (List.eq_nil_of_length_eq_zero hl.symm)
  · cases r with
    | nil => exact Vals.pick rz pm
    | cons _ _ => exact .nil
/-! ### t * n of a tuple -/
theorem mul_one_tup (l : Addr) (u : Tok) (xs : Array Value) (n : Nat) (dd : Option Addr) (sl : Array (Option Value)) :
    Meets (Builtin.«tuple.__mul__» ⟨[.ref l, .int 1 u], []⟩) fun _ R s => s.heap.get? l = some ⟨.type "tuple", dd, .seq xs n, sl⟩ ∧ R (.ok (.ret (.ref l))) s :=
  .of_wp fun prog w A R s h => by
    obtain ⟨hp, g, d, tk, os⟩ := s
    obtain ⟨hl, h⟩ := h
    have f1 := AutoSeq1.idx_int
    wp_walk using wpAny_loadPart' hl
    repeat (first
      | (refine wpAny_ite_false (decide_eq_false (by decide)) ?_; wp_walk using wpAny_loadPart' hl)
      | (refine wpAny_ite_true (by simp) ?_; wp_walk using wpAny_loadPart' hl))
    exact ⟨_, rfl, h⟩
def rRep1 (K : PySem.W.Frag) : R2 := fun x y H Q => ∃ l xs, x = .ref l ∧ y = .int 1 ∧ SqT K H l xs ∧ Q (.ref l) H
theorem op_rep1 {X : Cx} : OpR X (binaryOp .Mult) (rRep1 X.K) := by
  intro pins s σ H x y v u Q I rx ry h
  obtain ⟨l, xs, rfl, rfl, hT, q⟩ := h
  cases rx
  obtain ⟨t, rfl⟩ := ry
  obtain ⟨its, r, ⟨⟨cls, dd, data, sl⟩, ho, hc, n, hd⟩, hs⟩ := I.tuple hT
  simp only at hc hd
  subst hc hd
  exact wpAny_binaryOp_repeat_ref (T := "tuple") (U := "int") (by decide) ⟨_, ho, rfl⟩ (fun s' => typeIs_int s' 1 t) noFill_tuple_mul F.fills_int_mul F.slot_int_rmul repeat_tuple F.slot_int_index.lookup
    (call_meets F.slot_int_rmul (typeIs_int s 1 t) F.entry_int_rmul (F.args_int_rmul_2 _ _) (int_rmul_tuple 1 t l its.toArray n dd sl)
      ⟨ho, rfl, ⟨_, ho, rfl⟩, call_meets F.slot_tuple_mul ⟨_, ho, rfl⟩ F.entry_tuple_mul (F.args_tuple_mul_2 _ _) (mul_one_tup l t its.toArray n dd sl) ⟨ho, .ref l, H, I, rfl, q⟩⟩)
def rRepTU (K : PySem.W.Frag) : R2 := fun x y H Q => rRep1 K x y H Q ∨ rRepT K x y H Q
theorem op_repTU {X : Cx} : OpR X (binaryOp .Mult) (rRepTU X.K) := by
  intro pins s σ H x y v u Q I rx ry h
  rcases h with h | h
  · exact op_rep1 pins s σ H x y v u Q I rx ry h
  · exact op_repT pins s σ H x y v u Q I rx ry h
def fRepT : F2 := fun d e Q => match d, e with
  | .tup a, .int j => (1 ≤ j ∧ j ≤ 1000 ∧ a ≠ [] ∧ a.length ≤ 1000) ∧ Q (.tup (List.replicate j.toNat a).flatten)
  | _, _ => False
theorem ref_repT {K : PySem.W.Frag} : Ref2 K (rRepTU K) fRepT := by
  intro A σ H G s x y d e Q P R hx hy h k
  cases d with
  | tup a =>
    cases e with
    | int j =>
      cases hy
      cases hx with
      | tup hx hxa =>
        obtain ⟨⟨h1, h2, h3, h5⟩, h4⟩ := h
        by_cases z : j = 1
        · subst z
          refine .inl ⟨_, _, rfl, rfl, ex_t R.an.e hx, k _ _ _ _ R (Ex.refl _) (.tup hx hxa) ?_⟩
          simpa using h4
        · refine .inr ⟨_, j, _, rfl, rfl, ex_t R.an.e hx, fun z2 => h3 (by cases hxa with | nil => rfl | cons _ _ => cases z2), by omega, h2, by rw [hxa.length]; exact h5, fun p hp => ?_⟩
          exact k _ _ _ _ (R.new hp) (R.gnew hp) (.tup (st_of upd_same) ((hxa.reps _).up (R.gnew hp))) h4
    | _ => exact (show False from h).elim
  | _ => exact (show False from h).elim
end DL
set_option Elab.async false
set_option linter.all false
set_option maxRecDepth 100000
set_option maxHeartbeats 4000000
namespace DL
open PySem L2 Evl
/-! ### lists of the store -/
def putL (s : S) (a : Addr) (ds : List D) : S := withS s (updS s.n.st a (.lst ds))
/-- e.append(a) and so on, e a list of the store -/
def wAppL (wo wa : WE) : WE := fun Qe s Q => wo Qe s fun d s1 => ∃ a, d = .loc a ∧ (∃ ds, s1.n.st a = some (.lst ds)) ∧ wa Qe s1 fun e s2 => ∃ ds, s2.n.st a = some (.lst ds) ∧ ds.length < 100000 ∧ Q .non (putL s2 a (ds ++ [e]))
def wPopL (wo : WE) : WE := fun Qe s Q => wo Qe s fun d s1 => ∃ a ds e, d = .loc a ∧ s1.n.st a = some (.lst (ds ++ [e])) ∧ Q e (putL s1 a ds)
def wPopAtL (wo wa : WE) : WE := fun Qe s Q => wo Qe s fun d s1 => ∃ a, d = .loc a ∧ (∃ ds, s1.n.st a = some (.lst ds)) ∧ wa Qe s1 fun i s2 => ∃ (ds : List D) (j : Nat) (e : D), i = .int (j : Nat) ∧ s2.n.st a = some (.lst ds) ∧ ds[j]? = some e ∧ j < 100000 ∧ Q e (putL s2 a (ds.eraseIdx j))
def wInsL (wo wi wa : WE) : WE := fun Qe s Q => wo Qe s fun d s1 => ∃ a, d = .loc a ∧ (∃ ds, s1.n.st a = some (.lst ds)) ∧ wi Qe s1 fun i s2 => wa Qe s2 fun e s3 => ∃ (ds : List D) (j : Nat), i = .int (j : Nat) ∧ s3.n.st a = some (.lst ds) ∧ ds.length < 100000 ∧ j < 100000 ∧ Q .non (putL s3 a (ds.take j ++ [e] ++ ds.drop j))
/-- e[i] = d -/
def wgSubL (wo wi : WE) : WG := fun d Qe s Q => wo Qe s fun o s1 => wi Qe s1 fun i s2 => ∃ a ds j k, o = .loc a ∧ i = .int j ∧ s2.n.st a = some (.lst ds) ∧ ixN ds.length j = some k ∧ Q (putL s2 a (ds.set k d))
theorem DxAll.erase {K : PySem.W.Frag} {pen : Addr} {G : Hp} : ∀ {vs : List V} {ds : List D} (n : Nat), DxAll K pen G vs ds → DxAll K pen G (vs.eraseIdx n) (ds.eraseIdx n)
  | _, _, _, .nil => .nil
  | _, _, 0, .cons _ h => h
  | _, _, n + 1, .cons h1 h2 => .cons h1 (h2.erase n)
section
variable {X : Cx} {E : XK} {e a b o : Expr} {wa wb wo wi : WE} {pos p apos cpos pos' : Pos}
theorem de_appL (ho : DE X E o wo) (ha : DE X E a wa) (hbase : attributeBase o "append" X.env (eval o X.env) = eval o X.env := by rfl)
    (hfew : ((backTo cpos (starEach [a] X.env)).all (fun x => !x.1) && (backToKw cpos (keywordEach [] X.env)).all (fun x => x.1.isSome)
      && decide ([a].length + ([] : List Keyword).length + (if ([] : List Keyword).isEmpty then 0 else 1) < 30)) = true := by rfl)
    (hline : (apos.endLine == cpos.line) = true := by rfl) (hs : starEach [a] X.env = (false, eval a X.env) :: starEach [] X.env := by rfl) (hpl : (backTo cpos (starEach [] X.env)).any (·.1) = false := by rfl) :
    DE X E (.Call (.Attribute o "append" apos) [a] [] cpos) (wAppL wo wa) := by
  obtain ⟨to, g1, g2⟩ := ho.ex
  obtain ⟨ta, h1, h2⟩ := ha.ex
  refine ⟨_, pe_bm PySem.F.plainAttrs_list PySem.F.slot_list_append PySem.F.type_list_append mt_append g1 (pa_cons h1 pa_nil hs) hbase hfew hline hs hpl, fun A Qe W σ H G s Q P R q k => g2 A Qe W σ H G s _ _ R q fun v H1 G1 d s1 R1 e1 d1 q1 => ?_⟩
  obtain ⟨l, rfl, ⟨ds0, h3⟩, q1⟩ := q1
  cases d1
  obtain ⟨xs0, h4, _⟩ := R1.pn.at h3
  refine ⟨tyL h4, h2 A Qe W σ H1 G1 s1 _ _ R1 q1 fun u H2 G2 d2 s2 R2 e2 dd q2 => ?_⟩
  obtain ⟨ds, h5, h6, q3⟩ := q2
  obtain ⟨xs, h7, h8⟩ := R2.pn.at h5
  exact ⟨l, xs, u, rfl, rfl, h7, sz_lt (by rw [h8.length]; exact h6), k _ _ _ _ _ (R2.sput (a := l) (o := .lst (ds ++ [d2])) (by rw [h5]; exact fun z => nomatch z) ⟨_, upd_same, h8.append (.one dd)⟩) (e1.trans e2) .non q3⟩
theorem de_popL (ho : DE X E o wo) (hbase : attributeBase o "pop" X.env (eval o X.env) = eval o X.env := by rfl) (hline : (apos.endLine == cpos.line) = true := by rfl) :
    DE X E (.Call (.Attribute o "pop" apos) [] [] cpos) (wPopL wo) := by
  obtain ⟨to, g1, g2⟩ := ho.ex
  refine ⟨_, pe_bm0 PySem.F.plainAttrs_list PySem.F.slot_list_pop PySem.F.type_list_pop mt_pop g1 hbase hline, fun A Qe W σ H G s Q P R q k => g2 A Qe W σ H G s _ _ R q fun v H1 G1 d s1 R1 e1 d1 q1 => ?_⟩
  obtain ⟨l, ds, x, rfl, h3, q2⟩ := q1
  cases d1
  obtain ⟨xs, h7, h8⟩ := R1.pn.at h3
  obtain ⟨u, u1, u2, u3⟩ := snoc_of h8
  exact ⟨tyL h7, l, xs, u, rfl, rfl, h7, u1, k _ _ _ _ _ (R1.sput (a := l) (o := .lst ds) (by rw [h3]; exact fun z => nomatch z) ⟨_, upd_same, u3⟩) e1 u2 q2⟩
theorem de_popAtL (ho : DE X E o wo) (ha : DE X E a wa) (hbase : attributeBase o "pop" X.env (eval o X.env) = eval o X.env := by rfl)
    (hfew : ((backTo cpos (starEach [a] X.env)).all (fun x => !x.1) && (backToKw cpos (keywordEach [] X.env)).all (fun x => x.1.isSome)
      && decide ([a].length + ([] : List Keyword).length + (if ([] : List Keyword).isEmpty then 0 else 1) < 30)) = true := by rfl)
    (hline : (apos.endLine == cpos.line) = true := by rfl) (hs : starEach [a] X.env = (false, eval a X.env) :: starEach [] X.env := by rfl) (hpl : (backTo cpos (starEach [] X.env)).any (·.1) = false := by rfl) :
    DE X E (.Call (.Attribute o "pop" apos) [a] [] cpos) (wPopAtL wo wa) := by
  obtain ⟨to, g1, g2⟩ := ho.ex
  obtain ⟨ta, h1, h2⟩ := ha.ex
  refine ⟨_, pe_bm PySem.F.plainAttrs_list PySem.F.slot_list_pop PySem.F.type_list_pop mt_popAt g1 (pa_cons h1 pa_nil hs) hbase hfew hline hs hpl, fun A Qe W σ H G s Q P R q k => g2 A Qe W σ H G s _ _ R q fun v H1 G1 d s1 R1 e1 d1 q1 => ?_⟩
  obtain ⟨l, rfl, ⟨ds0, h3⟩, q1⟩ := q1
  cases d1
  obtain ⟨xs0, h4, _⟩ := R1.pn.at h3
  refine ⟨tyL h4, h2 A Qe W σ H1 G1 s1 _ _ R1 q1 fun u H2 G2 d2 s2 R2 e2 dd q2 => ?_⟩
  obtain ⟨ds, j, x, rfl, h5, h6, h9, q3⟩ := q2
  cases dd
  obtain ⟨xs, h7, h8⟩ := R2.pn.at h5
  obtain ⟨y, y1, y2⟩ := h8.get h6
  have hj : j < xs.length := (List.getElem?_eq_some_iff.mp y1).1
  have hk : seqIndex? ((j : Nat) : Int) xs.length = some j := by
    unfold seqIndex?
    have h1 : ¬ ((j : Nat) : Int) < 0 := by omega
    have h2 : ((j : Nat) : Int) < (xs.length : Int) := by omega
    have h3 : (0 : Int) ≤ ((j : Nat) : Int) := by omega
    simp [h1, h2, h3]
  refine ⟨l, xs, (j : Int), j, y, rfl, rfl, h7, by omega, by omega, hk, y1, ?_⟩
  exact k _ _ _ _ _ (R2.sput (a := l) (o := .lst (ds.eraseIdx j)) (by rw [h5]; exact fun z => nomatch z) ⟨_, upd_same, h8.erase j⟩) (e1.trans e2) y2 q3
theorem de_insL (ho : DE X E o wo) (hi : DE X E b wi) (ha : DE X E a wa) (hbase : attributeBase o "insert" X.env (eval o X.env) = eval o X.env := by rfl)
    (hfew : ((backTo cpos (starEach [b, a] X.env)).all (fun x => !x.1) && (backToKw cpos (keywordEach [] X.env)).all (fun x => x.1.isSome)
      && decide ([b, a].length + ([] : List Keyword).length + (if ([] : List Keyword).isEmpty then 0 else 1) < 30)) = true := by rfl)
    (hline : (apos.endLine == cpos.line) = true := by rfl) (hs : starEach [b, a] X.env = (false, eval b X.env) :: starEach [a] X.env := by rfl) (hs2 : starEach [a] X.env = (false, eval a X.env) :: starEach [] X.env := by rfl) (hpl : (backTo cpos (starEach [a] X.env)).any (·.1) = false := by rfl) :
    DE X E (.Call (.Attribute o "insert" apos) [b, a] [] cpos) (wInsL wo wi wa) := by
  obtain ⟨to, g1, g2⟩ := ho.ex
  obtain ⟨ti, i1, i2⟩ := hi.ex
  obtain ⟨ta, h1, h2⟩ := ha.ex
  refine ⟨_, pe_bm PySem.F.plainAttrs_list PySem.F.slot_list_insert PySem.F.type_list_insert mt_insert g1 (pa_cons i1 (pa_cons h1 pa_nil hs2) hs) hbase hfew hline hs hpl, fun A Qe W σ H G s Q P R q k => g2 A Qe W σ H G s _ _ R q fun v H1 G1 d s1 R1 e1 d1 q1 => ?_⟩
  obtain ⟨l, rfl, ⟨ds0, h3⟩, q1⟩ := q1
  cases d1
  obtain ⟨xs0, h4, _⟩ := R1.pn.at h3
  refine ⟨tyL h4, i2 A Qe W σ H1 G1 s1 _ _ R1 q1 fun u H2 G2 d2 s2 R2 e2 dd q2 => h2 A Qe W σ H2 G2 s2 _ _ R2 q2 fun w H3 G3 d3 s3 R3 e3 dd3 q3 => ?_⟩
  obtain ⟨ds, j, rfl, h5, h6, h9, q4⟩ := q3
  cases dd
  obtain ⟨xs, h7, h8⟩ := R3.pn.at h5
  refine ⟨l, xs, (j : Int), w, rfl, rfl, h7, sz_lt (by rw [h8.length]; exact h6), by omega, by omega, ?_⟩
  rw [Int.toNat_natCast]
  exact k _ _ _ _ _ (R3.sput (a := l) (o := .lst (ds.take j ++ [d3] ++ ds.drop j)) (by rw [h5]; exact fun z => nomatch z) ⟨_, upd_same, ((h8.take j).append (.one dd3)).append (h8.drop j)⟩) (e1.trans (e2.trans e3)) .non q4
theorem dg_subL (ho : DE X E o wo) (hi : DE X E b wi) (ha : ∀ v, assign (.Subscript o b pos) X.env v = (do
      let ov ← holding [v] (eval o X.env)
      let iv ← holding [v, ov] (eval b X.env)
      standAt pos
      holding [v, ov, iv] (setItem ov iv v)
      release [v, ov, iv] []) := by intro _; rfl) : DG X E (.Subscript o b pos) (wgSubL wo wi) := by
  obtain ⟨to, g1, g2⟩ := ho.ex
  obtain ⟨ti, h1, h2⟩ := hi.ex
  refine ⟨_, pg_sub g1 h1 set_list ha, fun A Qe W σ H G s v d Q P R hd q k => g2 A Qe W σ H G s _ _ R q fun ov H1 G1 od s1 R1 e1 d1 q1 => h2 A Qe W σ H1 G1 s1 _ _ R1 q1 fun iv H2 G2 id2 s2 R2 e2 d2 q2 => ?_⟩
  obtain ⟨a, ds, j, kk, rfl, rfl, h3, h4, q3⟩ := q2
  cases d1
  cases d2
  obtain ⟨xs, h5, h6⟩ := R2.pn.at h3
  exact ⟨a, xs, j, kk, rfl, rfl, h5, by rw [h6.length]; exact h4, k _ _ _ _ (R2.sput (a := a) (o := .lst (ds.set kk d)) (by rw [h3]; exact fun z => nomatch z) ⟨_, upd_same, h6.set kk (hd.up (e1.trans e2))⟩) (e1.trans e2) q3⟩
/-! ### a list of lists of the store, as it stays -/
def wFrz2 (i : Nat) (w : WS) : WS := fun Qe De s => ∃ (a : Addr) (as : List Addr) (dss : List (List D)), s.env[i]? = some (.val (.loc a)) ∧ s.n.st a = some (.lst (as.map .loc)) ∧ as.length = dss.length ∧ (∀ (j : Nat) (b : Addr) (ds : List D), as[j]? = some b → dss[j]? = some ds → s.n.st b = some (.lst ds)) ∧
  w Qe De ⟨s.env.set i (.val (.lst (dss.map .lst))), ⟨s.n.n, noS⟩⟩
theorem dxAll_locs {K : PySem.W.Frag} {pen : Addr} {G : Hp} : ∀ {xs : List V} {as : List Addr}, DxAll K pen G xs (as.map D.loc) → xs = as.map V.ref
  | _, [], .nil => rfl
  | _, a :: as, .cons h r => by
    cases h
    rw [dxAll_locs r]; rfl
theorem dss_frz2 {sts : List Stmt} {w : WS} (i : Nat) (h : DSs X E sts w) : DSs X E sts (wFrz2 i w) := by
  obtain ⟨t, g1, g2⟩ := h.ex
  refine ⟨t, g1, fun A Qe W σ H G s De Dh R eo q => ?_⟩
  obtain ⟨a, as, dss, h1, h2, h3, h4, q⟩ := q
  have hb : ∀ b ∈ as, ∃ j ds, as[j]? = some b ∧ dss[j]? = some ds ∧ s.n.st b = some (.lst ds) := fun b hb => by
    obtain ⟨j, hj⟩ := List.mem_iff_getElem?.mp hb
    have hl : j < dss.length := by rw [← h3]; exact (List.getElem?_eq_some_iff.mp hj).1
    exact ⟨j, _, hj, List.getElem?_eq_getElem hl, h4 j b _ hj (List.getElem?_eq_getElem hl)⟩
  obtain ⟨R2, e2⟩ := R.sfrz (P := fun b => b = a ∨ b ∈ as) (st := noS) (fun b z => by
    rcases z with rfl | z
    · rw [h2]; exact fun z => nomatch z
    · obtain ⟨j, ds, _, _, e⟩ := hb b z
      rw [e]; exact fun z => nomatch z) (fun b o z => nomatch z)
  refine g2 A Qe W σ H _ _ De Dh (R2.setEnv (s := ⟨s.env, ⟨s.n.n, noS⟩⟩) h1 fun v hv => ?_) eo q
  cases hv
  obtain ⟨xs, x1, x2⟩ := R.pn.at h2
  have hx := dxAll_locs x2
  subst hx
  refine .lst (by rw [frzG_in (P := fun b => b = a ∨ b ∈ as) (.inl rfl)]; exact x1) (dxAll_get (by simp [h3]) fun j v d hv hd => ?_)
  rw [List.getElem?_map] at hv hd
  obtain ⟨b, b1, rfl⟩ := Option.map_eq_some_iff.mp hv
  obtain ⟨ds, d1, rfl⟩ := Option.map_eq_some_iff.mp hd
  obtain ⟨ys, y1, y2⟩ := R.pn.at (h4 j b ds b1 d1)
  exact .lst (by rw [frzG_in (P := fun b => b = a ∨ b ∈ as) (.inr (List.mem_of_getElem? b1))]; exact y1) (y2.up e2)
end
end DL
set_option Elab.async false
set_option linter.all false
set_option maxRecDepth 100000
set_option maxHeartbeats 4000000
namespace DL
open PySem L2 Evl XcH LamX LamD
/-- what is wanted of a place where lambdas are heard -/
structure HearX (X : Cx) (T : List (Addr × Str)) (Wd : Addr → Option Str) (Tx Tm : Addr → Prop) : Prop where
  ex : ∃ (g : Addr) (pg : Arguments) (bg : List Stmt) (sg : Scope) (dV kV doc pm cdv ct oc : Value) (an od : Option Addr) (osl : Array (Option Value)) (Ng : List Str), X.mg "_law_heard" = some (.ref g) ∧ PySem.W.keepIn X.K (.ref g) = true ∧
    X.K.lookup g = some ⟨oc, od, .func (PySem.W.fnOf "_law_heard" "_law_heard" pg bg sg dV kV doc pm an cdv ct), osl⟩ ∧ PySem.W.codeIn X.K cdv "_law_heard" = true ∧ L2.Binds X.K (PySem.W.fnOf "_law_heard" "_law_heard" pg bg sg dV kV doc pm an cdv ct) ["ask"] [] ∧ FnScope Ng ["ask"] sg ∧ Ng[0]? = some ("ask" : Str) ∧ Vis sg "ask" ∧
    GivesTo X Ng "_law_heard" sg g cdv bg "ask" (X.env.qual ++ "<lambda>") (TTh Wd Tx Tm)
  tab : ∃ c P, TabB X.base X.mg c P ∧ X.env.code = .ref c ∧ (P, X.env.qual ++ "<lambda>") ∈ T ∧ ∀ p ∈ T, p.1 = P → p.2 = X.env.qual ++ "<lambda>"
  gl : Gl X "_law_heard"
  room : Room 20 X.A
section
variable {X : Cx} {E : XK} {T : List (Addr × Str)} {Wd : Addr → Option Str} {Tx Tm : Addr → Prop} {params : Arguments} {body : Expr} {scope : Scope} {wl : WE} {p lpos pos : Pos}
theorem de_hear0 (HR : HearX X T Wd Tx Tm) (L : LamS X.env.scope scope) (hdef : defaultsOf params X.env = ([], [])) (hbind : ∀ (q : Str) (cl : List (Str × Addr)) (pm cv ctv : Value), bindArgs (PySem.W.kla_fn "<lambda>" q params body scope cl pm cv ctv) ⟨[], []⟩ = pure [])
    (hbody : ∀ (A : Around) (outer : List Env) (s : Shared) (H : Hp) (E' : XK) (f c' : Addr), Room 18 (A.deeper (lamEnv X scope s.heap.objs.size f c')) → DE (lamCx X A outer s H E' scope f c') E' body wl) :
    DE X E (.Call (.Name "_law_heard" p) [.Lambda params body scope lpos] [] pos) (wHear T Wd Tx Tm wl) := by
  obtain ⟨g, pg, bg, sg, dV, kV, doc, pm, cdv, ct, oc, an, od, osl, Ng, h1, h2, h3, h4, h5, h6, h7, h8, h9⟩ := HR.ex
  obtain ⟨c, P, t1, t2, t3, t4⟩ := HR.tab
  exact ⟨_, pe_lamcall (t := fun E' => tOf X.K E' wl) (k := 18) HR.gl h1 h2 h3 h4 h5 h6 h7 h8 h9 t1 t2 t3 t4 HR.room L hdef hbind (fun A outer s H E' f c' hr => (hbody A outer s H E' f c' hr).pe), simE_hear⟩
theorem de_hear1 (HR : HearX X T Wd Tx Tm) {a1 : Str} {n : Int} {jn : Nat} {dp : Pos} (L : LamS1 X.N X.env.scope scope a1) (hdef : defaultsOf params X.env = ([eval (.Constant (.int n) jn dp) X.env], [])) (hkw : params.kwonlyargs = []) (hbind : Binds1 params body scope a1 n)
    (hbody : ∀ (A : Around) (outer : List Env) (s : Shared) (H : Hp) (E' : XK) (f c' : Addr), Room 18 (A.deeper (lamEnv X scope s.heap.objs.size f c')) → DE (lamCx X A outer s H E' scope f c') E' body wl) :
    DE X E (.Call (.Name "_law_heard" p) [.Lambda params body scope lpos] [] pos) (wHear T Wd Tx Tm wl) := by
  obtain ⟨g, pg, bg, sg, dV, kV, doc, pm, cdv, ct, oc, an, od, osl, Ng, h1, h2, h3, h4, h5, h6, h7, h8, h9⟩ := HR.ex
  obtain ⟨c, P, t1, t2, t3, t4⟩ := HR.tab
  exact ⟨_, pe_lamcall1 (t := fun E' => tOf X.K E' wl) (k := 18) HR.gl h1 h2 h3 h4 h5 h6 h7 h8 h9 t1 t2 t3 t4 HR.room L hdef hkw hbind (fun A outer s H E' f c' hr => (hbody A outer s H E' f c' hr).pe), simE_hear⟩
end
/-- a def that is called by position and by names -/
structure CalK (P : Program) (w : World) (K : PySem.W.Frag) (mg : Str → Option Value) (base : Heap) (k : Nat) (x : Str) (ps ks : List Str) (pm : List Nat) (sp : DSp) : Prop where
  ex : ∃ (f : Addr) (fd : FuncData), FnOk P w K mg base (L2.CX P w) k f fd ps (spD K sp) ∧ mg x = some (.ref f) ∧ PySem.W.keepIn K (.ref f) = true ∧ Binds K fd ps [] ∧ KBinds K fd ps ks (gP pm) (gP pm)
/-- {} -/
theorem de_dct0 {X : Cx} {E : XK} {pos : Pos} : DE X E (.Dict [] [] pos) (wC (.dct [] [])) := ⟨_, pe_dnewK, fun A Qe W σ H G s Q P R q k => fun p hp => k _ _ _ _ _ (R.new hp) (R.gnew hp) (.dct (xs := []) upd_same rfl .nil) q⟩
end DL
set_option Elab.async false
set_option linter.all false
set_option maxRecDepth 100000
set_option maxHeartbeats 4000000
namespace DL
open PySem L2 Evl
/-! ### texts -/
def txs (ys : List Str) : List D := ys.map D.str
theorem DxAll.txts {K : PySem.W.Frag} {pen : Addr} {G : Hp} : ∀ {vs : List V} {ns : List Str}, DxAll K pen G vs (ns.map D.str) → vs = ns.map V.str
  | _, [], h => by cases h; rfl
  | _, n :: ns, h => by
    cases h with
    | cons h1 h2 =>
      cases h1
      rw [h2.txts] <;> rfl
def wSplit (wa wb : WE) : WE := fun Qe s Q => wa Qe s fun d s1 => match d with
  | .str a => wb Qe s1 fun e s2 => match e with
    | .str b => (b.length == 0) = false ∧ a.length ≤ 90000 ∧ Q (.lst (txs (Txt.split a b))) s2
    | _ => False
  | _ => False
def wJoin (wa wb : WE) : WE := fun Qe s Q => wa Qe s fun d s1 => match d with
  | .str a => wb Qe s1 fun e s2 => ∃ ys : List Str, (e = .lst (txs ys) ∨ e = .tup (txs ys)) ∧ (ys.map (·.length)).sum + ys.length * a.length ≤ 16777216 ∧ Q (.str (Txt.join a ys)) s2
  | _ => False
def gStrI : FC := fun ds Q => match ds with
  | [.int i] => i.natAbs.log2 < 1920 ∧ Q (.str (toString i))
  | _ => False
def gIntS : FC := fun ds Q => match ds with
  | [.str a] => ∃ n, PySem.intText? a = some n ∧ a.length ≤ 640 ∧ Q (.int n)
  | _ => False
def fIxS : F2 := fun d e Q => match d, e with
  | .str w, .int i => ∃ c, atI w.cps.toList i = some c ∧ w.length ≤ 100000 ∧ Q (.str ⟨#[c]⟩)
  | _, _ => False
/-- a sign in a text -/
def fInS (neg : Bool) : F2 := fun d e Q => match e with
  | .str z => ∃ c : Nat, d = .str ⟨#[c]⟩ ∧ Q (.bl (if neg then !decide (c ∈ z.cps.toList) else decide (c ∈ z.cps.toList)))
  | _ => False
def rStrI : List V → Hp → VK → Prop := fun xs H Q => ∃ i, xs = [.int i] ∧ i.natAbs.log2 < 1920 ∧ Q (.str (toString i)) H
def rIntS : List V → Hp → VK → Prop := fun xs H Q => ∃ a n, xs = [.str a] ∧ PySem.intText? a = some n ∧ a.length ≤ 640 ∧ Q (.int n) H
def rInSg (neg : Bool) : R2 := fun x y H Q => ∃ (c : Nat) (z : Str), x = .str ⟨#[c]⟩ ∧ y = .str z ∧ Q (.bl (if neg then !decide (c ∈ z.cps.toList) else decide (c ∈ z.cps.toList))) H
theorem op_inSg {X : Cx} : OpR X (compareOp .In) (rInSg false) := op_in_sign
theorem op_notInSg {X : Cx} : OpR X (compareOp .NotIn) (rInSg true) := op_notIn_sign
theorem ref_inSg {K : PySem.W.Frag} {neg : Bool} : Ref2 K (rInSg neg) (fInS neg) := by
  intro A σ H G s x y d e Q P R hx hy h k
  cases e with
  | str z =>
    obtain ⟨c, rfl, q⟩ := h
    cases hx
    cases hy
    exact ⟨c, z, rfl, rfl, k _ _ G _ R (Ex.refl _) (.bl _) q⟩
  | _ => exact (show False from h).elim
theorem ref_ixS {K : PySem.W.Frag} : Ref2 K rIxS fIxS := by
  intro A σ H G s x y d e Q P R hx hy h k
  cases d with
  | str w =>
    cases e with
    | int i =>
      obtain ⟨c, h1, h2, q⟩ := h
      cases hx
      cases hy
      exact ⟨w, i, c, rfl, rfl, sz_of h2, h1, k _ _ G _ R (Ex.refl _) (.str _) q⟩
    | _ => exact (show False from h).elim
  | _ => exact (show False from h).elim
theorem refc_strI {K : PySem.W.Frag} : RefC K rStrI gStrI := by
  intro A σ H G s xs ds Q P R hd h k
  unfold gStrI at h
  split at h
  · cases hd with
    | cons h1 h2 => cases h2; cases h1; exact ⟨_, rfl, h.1, k _ _ _ _ R (Ex.refl _) (.str _) h.2⟩
  · exact h.elim
theorem refc_intS {K : PySem.W.Frag} : RefC K rIntS gIntS := by
  intro A σ H G s xs ds Q P R hd h k
  unfold gIntS at h
  split at h
  · obtain ⟨n, g1, g2, q⟩ := h
    cases hd with
    | cons h1 h2 => cases h2; cases h1; exact ⟨_, n, rfl, g1, g2, k _ _ _ _ R (Ex.refl _) (.int _) q⟩
  · exact h.elim
/-! a text's signs -/
def signsD (x : Str) : List D := x.cps.toList.map fun c => .str ⟨#[c]⟩
def wStrI (wa : WE) : WI := fun Qe s Q => wa Qe s fun d s1 => match d with
  | .str x => Q (signsD x) s1
  | _ => False
theorem yl_str {K : PySem.W.Frag} {pen : Addr} {G : Hp} (x : Str) : Yl K pen (Its x) G (signsD x) := fun A σ H1 G1 s i hp R g => by
  unfold signsD
  refine ⟨fun d hi => ?_, fun hi => (show x.cps.size ≤ i by simpa using hi)⟩
  rw [List.getElem?_map, Array.getElem?_toList] at hi
  obtain ⟨c, hc, rfl⟩ := Option.map_eq_some_iff.mp hi
  have hlt : i < x.cps.size := by
    rcases Nat.lt_or_ge i x.cps.size with z | z
    · exact z
    · rw [Array.getElem?_eq_none z] at hc; cases hc
  refine ⟨hlt, fun v H' y => ?_⟩
  obtain ⟨rfl, c', e1, rfl⟩ := y
  rw [hc] at e1
  cases e1
  exact ⟨G1, R, Ex.refl _, .str _⟩
/-! range(a, b) -/
def rng2 (i : Int) (n : Nat) : List D := (List.range n).map fun k => D.int (i + (k : Nat))
def wRange2I (wr : WA) : WI := fun Qe s Q => wr Qe s fun ds s1 => ∃ i j : Int, ds = [.int i, .int j] ∧ (i < 100000 ∧ -100000 < i ∧ j < 100000 ∧ -100000 < j) ∧ Q (rng2 i (j - i).toNat) s1
theorem yl_rng2 {K : PySem.W.Frag} {pen : Addr} {G : Hp} (lo : Int) (n : Nat) : Yl K pen (Itr lo n) G (rng2 lo n) := fun A σ H1 G1 s i hp R g => by
  unfold rng2
  refine ⟨fun d hi => ?_, fun hi => (show n ≤ i by simpa using hi)⟩
  obtain ⟨hlt, rfl⟩ := range_getV hi
  refine ⟨hlt, fun x H' y => ?_⟩
  obtain ⟨rfl, rfl⟩ := y
  exact ⟨G1, R, Ex.refl _, .int _⟩
/-! a new list of two -/
def wCatF (wa wb : WE) : WF := fun Qe s Q => wa Qe s fun d s1 => wb Qe s1 fun e s2 => match d, e with
  | .lst a, .lst b => a.length + b.length ≤ 100000 ∧ Q (a ++ b) s2
  | _, _ => False
/-- list(e), e a list of the store -/
def wLstOfU (wa : WE) : WF := fun Qe s Q => wa Qe s fun d s1 => match d with
  | .lst l => Q l s1
  | .tup l => Q l s1
  | .loc a => ∃ ds, s1.n.st a = some (.lst ds) ∧ Q ds s1
  | _ => False
section
variable {X : Cx} {E : XK} {a b o tg : Expr} {wa wb : WE} {wr : WA} {pos p apos : Pos}
theorem de_split (ha : DE X E o wa) (hb : DE X E b wb) (hs : starEach [b] X.env = [(false, eval b X.env)] := by rfl) (hbase : attributeBase o "split" X.env (eval o X.env) = eval o X.env := by rfl) (hline : (apos.endLine == pos.line) = true := by rfl) :
    DE X E (.Call (.Attribute o "split" apos) [b] [] pos) (wSplit wa wb) := by
  obtain ⟨ta, h1, h2⟩ := ha.ex
  obtain ⟨tb, h3, h4⟩ := hb.ex
  refine ⟨_, pe_split h1 h3 hs hbase hline, fun A Qe W σ H G s Q P R q k => h2 A Qe W σ H G s _ _ R q fun x H1 G1 d s1 R1 g1 d1 q1 => ?_⟩
  cases d with
  | str u =>
    cases d1
    refine ⟨⟨u, rfl⟩, h4 A Qe W σ H1 G1 s1 _ _ R1 q1 fun y H2 G2 e s2 R2 g2 d2 q2 => ?_⟩
    cases e with
    | str v =>
      cases d2
      obtain ⟨q3, q4, q5⟩ := q2
      exact ⟨u, v, rfl, rfl, q3, sz_of (by omega), fun p hp => k _ _ _ _ _ (R2.new hp) ((g1.trans g2).trans (R2.gnew hp)) (.lst upd_same DxAll.ofStrs) q5⟩
    | _ => exact (show False from q2).elim
  | _ => exact (show False from q1).elim
theorem de_join (ha : DE X E o wa) (hb : DE X E b wb) (hs : starEach [b] X.env = [(false, eval b X.env)] := by rfl) (hbase : attributeBase o "join" X.env (eval o X.env) = eval o X.env := by rfl) (hline : (apos.endLine == pos.line) = true := by rfl) :
    DE X E (.Call (.Attribute o "join" apos) [b] [] pos) (wJoin wa wb) := by
  obtain ⟨ta, h1, h2⟩ := ha.ex
  obtain ⟨tb, h3, h4⟩ := hb.ex
  refine ⟨_, pe_join h1 h3 hs hbase hline, fun A Qe W σ H G s Q P R q k => h2 A Qe W σ H G s _ _ R q fun x H1 G1 d s1 R1 g1 d1 q1 => ?_⟩
  cases d with
  | str u =>
    cases d1
    refine ⟨⟨u, rfl⟩, h4 A Qe W σ H1 G1 s1 _ _ R1 q1 fun y H2 G2 e s2 R2 g2 d2 q2 => ?_⟩
    obtain ⟨ys, he, q3, q4⟩ := q2
    rcases he with rfl | rfl
    · cases d2 with
      | lst hx hxa =>
        rw [hxa.txts] at hx
        exact ⟨u, _, ys, rfl, rfl, .inl (sq_of (R2.an.e _ _ hx)), q3, k _ _ _ _ _ R2 (g1.trans g2) (.str _) q4⟩
    · cases d2 with
      | tup hx hxa =>
        rw [hxa.txts] at hx
        exact ⟨u, _, ys, rfl, rfl, .inr (ex_t R2.an.e hx), q3, k _ _ _ _ _ R2 (g1.trans g2) (.str _) q4⟩
  | _ => exact (show False from q1).elim
theorem de_ixS (ha : DE X E a wa) (hb : DE X E b wb) (hs : PlainIx b := by exact fun _ _ => rfl) : DE X E (.Subscript a b pos) (wOp fIxS wa wb) := by
  obtain ⟨ta, h1, h2⟩ := ha.ex
  obtain ⟨tb, h3, h4⟩ := hb.ex
  exact ⟨_, pe_ix ix_str h1 h3 hs, simE_op ref_ixS h2 h4⟩
theorem de_pow (ha : DE X E a wa) (hb : DE X E b wb) : DE X E (.BinOp a .Pow b pos) (wOp (fInt CPow fun i j => .int (i ^ j.toNat)) wa wb) := de_op op_pow (ref_int fun _ _ => rfl) ha hb
theorem di_str (ha : DE X E a wa) : DI X E tg a (wStrI wa) := by
  obtain ⟨t, h1, h2⟩ := ha.ex
  refine ⟨_, pi_str h1, fun A Qe W σ H G s Q P R q k => h2 A Qe W σ H G s _ _ R q fun v H1 G1 d s1 R1 g1 d1 q1 => ?_⟩
  cases d with
  | str x => cases d1; exact ⟨x, rfl, k _ _ _ _ _ R1 g1 (yl_str x) q1⟩
  | _ => exact (show False from q1).elim
theorem di_range2 (hg : Gl X "range") (hm : X.mg "range" = none) (ha : DA X E [a, b] wr) (hs : starEach [a, b] X.env = [(false, eval a X.env), (false, eval b X.env)] := by rfl) (hs2 : starEach [b] X.env = [(false, eval b X.env)] := by rfl) : DI X E tg (.Call (.Name "range" p) [a, b] [] pos) (wRange2I wr) := by
  obtain ⟨t, h1, h2⟩ := ha.ex
  refine ⟨_, pi_range2 hg hm h1 hs hs2, fun A Qe W σ H G s Q P R q k => h2 A Qe W σ H G s _ _ R q fun vs H1 G1 ds s1 R1 g1 d1 q1 => ?_⟩
  obtain ⟨i, j, rfl, ⟨h3, h4, h5, h6⟩, q2⟩ := q1
  cases d1 with
  | cons e1 e2 =>
    cases e2 with
    | cons e2 e3 =>
      cases e3
      cases e1
      cases e2
      exact ⟨i, j, rfl, ⟨by omega, by omega, by omega, by omega⟩, k _ _ _ _ _ R1 g1 (yl_rng2 _ _) q2⟩
theorem df_cat (ha : DE X E a wa) (hb : DE X E b wb) : DF X E (.BinOp a .Add b pos) (wCatF wa wb) := by
  obtain ⟨ta, h1, h2⟩ := ha.ex
  obtain ⟨tb, h3, h4⟩ := hb.ex
  refine ⟨_, pe_op op_cat h1 h3, fun A Qe W σ H G s Q P R q k => h2 A Qe W σ H G s _ _ R q fun x H1 G1 d s1 R1 g1 d1 q1 => h4 A Qe W σ H1 G1 s1 _ _ R1 q1 fun y H2 G2 e s2 R2 g2 d2 q2 => ?_⟩

  split at q2
  · obtain ⟨q3, q4⟩ := q2
    cases d1 with
    | lst hx hxa =>
      cases d2 with
      | lst hy hya =>
        refine ⟨_, _, _, _, rfl, rfl, R2.an.e _ _ (g2 _ _ hx), R2.an.e _ _ hy, sz_of (by rw [hxa.length, hya.length]; exact q3), fun p hp => ?_⟩
        obtain ⟨R3, o3⟩ := R2.lst hp ((hxa.up g2).append hya)
        exact k _ _ _ _ _ R3 (g1.trans g2) o3 q4
  · exact q2.elim
theorem df_lstOfU (hg : Gl X "list") (hm : X.mg "list" = none) (ha : DE X E a wa) (he : starEach [a] X.env = (false, eval a X.env) :: starEach [] X.env := by rfl) : DF X E (.Call (.Name "list" p) [a] [] pos) (wLstOfU wa) := by
  obtain ⟨t, h1, h2⟩ := ha.ex
  refine ⟨_, pe_callTy call_list_of hg hm bList (pa_cons h1 pa_nil he) (by decide) (by decide) he (by rfl), fun A Qe W σ H G s Q P R q k => h2 A Qe W σ H G s _ _ R q fun v H1 G1 d s1 R1 g1 d1 q1 => ?_⟩
  cases d with
  | lst l =>
    cases d1 with
    | lst hx hxa =>
      refine ⟨_, _, rfl, .inl (sq_of (R1.an.e _ _ hx)), fun p hp => ?_⟩
      obtain ⟨R2, o2⟩ := R1.lst hp hxa
      exact k _ _ _ _ _ R2 g1 o2 q1
  | tup l =>
    cases d1 with
    | tup hx hxa =>
      refine ⟨_, _, rfl, .inr (ex_t R1.an.e hx), fun p hp => ?_⟩
      obtain ⟨R2, o2⟩ := R1.lst hp hxa
      exact k _ _ _ _ _ R2 g1 o2 q1
  | loc l =>
    obtain ⟨ds, h3, q2⟩ := q1
    cases d1
    obtain ⟨xs, h4, h5⟩ := R1.pn.at h3
    refine ⟨_, _, rfl, .inl (sq_of h4), fun p hp => ?_⟩
    obtain ⟨R2, o2⟩ := R1.lst hp h5
    exact k _ _ _ _ _ R2 g1 o2 q2
  | _ => exact (show False from q1).elim
end
end DL
set_option Elab.async false
set_option linter.all false
set_option maxRecDepth 100000
set_option maxHeartbeats 4000000
namespace DL
open PySem L2 Evl NdefX XcS
/-! ### raise of an error that keeps two things -/
structure ErC2 (K : PySem.W.Frag) (mg : Str → Option Value) (x : Str) (D C fI : Addr) (f1 f2 : Str) : Prop where
  sup : SupC K D C
  no1 : PySem.W.findIn K (.ref C) f1 = some none
  no2 : PySem.W.findIn K (.ref C) f2 = some none
  ini : PySem.W.findIn K (.ref C) "__init__" = some (some (.ref fI))
  tI : PySem.W.typeIn K (.ref fI) = some (.type "function")
  mgC : mg x = some (.ref C)
def spTwo (K : PySem.W.Frag) (D : Addr) (f1 f2 : Str) : Sp := fun vs H Q _ => ∃ a C y z, vs = [.ref a, y, z] ∧ H a = some (exo a C none) ∧ SupC K D C ∧ PySem.W.findIn K (.ref C) f1 = some none ∧ PySem.W.findIn K (.ref C) f2 = some none ∧
  ∀ dx, H dx = none → dx ≠ a → Q .non (upd (upd (upd H dx (exd dx [(f1, y)])) a (exo a C (some dx))) dx (exd dx [(f2, z), (f1, y)]))
/-- the error class at C may be raised -/
structure Er2 (P : Program) (w : World) (K : PySem.W.Frag) (mg : Str → Option Value) (base : Heap) (x : Str) (C : Addr) (f1 f2 : Str) : Prop where
  ex : ∃ (D fI : Addr) (fd : FuncData), ErC2 K mg x D C fI f1 f2 ∧ FnOk P w K mg base CX0 1 fI fd ["self", f1, f2] (spTwo K D f1 f2) ∧ Binds K fd ["self", f1, f2] []
def wRaise2 (C : Addr) (f1 f2 : Str) (wa wb : WE) : WS := fun Qe _ s => wa Qe s fun d s1 => wb Qe s1 fun e s2 => Qe C [(f2, e), (f1, d)] s2.n
section
variable {X : Cx} {E : XK} {a b : Expr} {wa wb : WE} {pos pos2 p : Pos} {x f1 f2 : Str} {C : Addr}
theorem ds_raise2 (Ec : Er2 X.prog X.w X.K X.mg X.base x C f1 f2) (hr : Room 2 X.A) (hs : X.stack = X.env :: X.outer) (hf : X.env.frame = some X.env.locals) (hex : X.ex = []) {E₁ : Value → Shared → Prop}
    (hx : X.xe = fun e s' => wpAny (model X.prog X.w) X.A (leaving X.env e) (fun _ s'' => L2.CX X.prog X.w X.outer X.H_0 X.s_0 E e s'') E₁ s') (ha : DE X E a wa) (hb0 : DE X E b wb) (hc : X.calm = true := by rfl) (hg : Gl X x := by rfl)
    (hdb : (x == ("__debug__" : Str)) = false := by decide) (he : starEach [a, b] X.env = (false, eval a X.env) :: starEach [b] X.env := by rfl) (he2 : starEach [b] X.env = (false, eval b X.env) :: starEach [] X.env := by rfl) (hpl : (backTo pos (starEach [b] X.env)).any (·.1) = false := by rfl) :
    DS X E (.Raise (some (.Call (.Name x p) [a, b] [] pos)) none pos2) (wRaise2 C f1 f2 wa wb) := by
  obtain ⟨t, h1, h2⟩ := ha.ex
  obtain ⟨u, h3, h4⟩ := hb0.ex
  obtain ⟨D, fI, fd, Ec, I, bI⟩ := Ec.ex
  refine ⟨_, ps_raise hc (takes_of hs hf hex hx) (pmk_oex Ec.sup.ox Ec.ini Ec.tI I hr bI .nil pass0 hg Ec.mgC (pa_cons h1 (pa_cons h3 pa_nil he2) he) hdb he hpl), fun A Qe W σ H G s De Dh R eo q => ?_⟩
  refine h2 A Qe W σ H G s _ _ R q fun v H1 G1 d s1 R1 g1 d1 q1 => h4 A Qe W σ H1 G1 s1 _ _ R1 q1 fun v2 H2 G2 d' s2 R2 g2 d2 q2 => ⟨(by show 2 ≤ 1000; decide), fun b hb => ?_⟩
  refine ⟨b, C, v, v2, rfl, upd_same, Ec.sup, Ec.no1, Ec.no2, fun dx hdx hne => ⟨rfl, dx, [(f2, v2), (f1, v)], ?_, upd_same, ?_, ?_⟩⟩
  · rw [upd_ne (Ne.symm hne), upd_same]
  · rw [upd_ne hne] at hdx
    exact hdx
  · rw [upd_ne hne] at hdx
    have keep : ∀ c o, H2 c = some o → (upd (del (upd (upd (upd (upd H2 b (exo b C none)) dx (exd dx [(f1, v)])) b (exo b C (some dx))) dx (exd dx [(f2, v2), (f1, v)])) b) dx (HO.xd [(f2, v2), (f1, v)])) c = some o := fun c o hc => by
      have n1 := ne_of_none hc hb
      have n2 := ne_of_none hc hdx
      rw [upd_ne n2, del_ne n1, upd_ne n2, upd_ne n1, upd_ne n2, upd_ne n1]
      exact hc
    have g : Grow A.pen s2.n.st H2 G2 s2.n.st (upd (del (upd (upd (upd (upd H2 b (exo b C none)) dx (exd dx [(f1, v)])) b (exo b C (some dx))) dx (exd dx [(f2, v2), (f1, v)])) b) dx (HO.xd [(f2, v2), (f1, v)])) G2 :=
      ⟨fun c o _ _ hc => keep c o hc, Ex.refl _, fun c _ h => .inl h, fun c o hc => keep c o (R2.an.e c o hc), R2.pn.none, R2.an.t, fun _ h => .inl h, fun c hc => by
        obtain ⟨o, ho⟩ := Option.ne_none_iff_exists'.mp hc
        rw [keep c o ho]
        exact fun z => nomatch z⟩
    have gp := R2.pn.up (Ex.refl _) R2.pn.none R2.an.t keep fun a ha => R2.pn.gnone ha
    exact W.er C [(f2, d'), (f1, d)] s2.n dx _ G2 [(f2, v2), (f1, v)] (R2.an.trans g) gp upd_same ⟨rfl, .cons d2 (.cons (d1.up g2) .nil)⟩ q2
end
end DL
set_option Elab.async false
set_option linter.all false
set_option maxRecDepth 100000
set_option maxHeartbeats 4000000
namespace DL
open PySem L2 Evl
/-! ### a text among texts -/
def fInTx (neg : Bool) : F2 := fun d e Q => ∃ (x : Str) (ys : List Str), d = .str x ∧ (e = .lst (txs ys) ∨ e = .tup (txs ys)) ∧ Q (.bl (if neg then !decide (x ∈ ys) else decide (x ∈ ys)))
theorem inV_str (x : Str) (ys : List Str) : inV (.str x) (ys.map V.str) = decide (x ∈ ys) := by
  unfold inV
  rw [Bool.eq_iff_iff, decide_eq_true_eq, List.any_eq_true]
  constructor
  · rintro ⟨v, hv, e⟩
    obtain ⟨y, hy, rfl⟩ := List.mem_map.mp hv
    have : y = x := by simpa [eqV] using e
    rw [← this]; exact hy
  · intro h
    exact ⟨.str x, List.mem_map.mpr ⟨x, h, rfl⟩, by simp [eqV]⟩
theorem flat_strs (ys : List Str) : (ys.map V.str).all flatV = true := by
  rw [List.all_eq_true]
  intro v hv
  obtain ⟨y, _, rfl⟩ := List.mem_map.mp hv
  rfl
theorem ref_inTx {K : PySem.W.Frag} {neg : Bool} : Ref2 K (rIn K neg) (fInTx neg) := by
  intro A σ H G s x y d e Q P R hx hy h k
  obtain ⟨w, ys, rfl, he, q⟩ := h
  cases hx
  rcases he with rfl | rfl
  · cases hy with
    | lst h1 h2 =>
      rw [h2.txts] at h1
      refine ⟨_, _, rfl, .inl (sq_of (R.an.e _ _ h1)), rfl, flat_strs _, k _ _ G _ R (Ex.refl _) (.bl _) ?_⟩
      rw [inV_str]
      exact q
  · cases hy with
    | tup h1 h2 =>
      rw [h2.txts] at h1
      refine ⟨_, _, rfl, .inr (ex_t R.an.e h1), rfl, flat_strs _, k _ _ G _ R (Ex.refl _) (.bl _) ?_⟩
      rw [inV_str]
      exact q
/-! ### methods and classes at hand -/
structure CalM (P : Program) (w : World) (K : PySem.W.Frag) (mg : Str → Option Value) (base : Heap) (k : Nat) (C : Addr) (m : Str) (ps : List Str) (sp : DSp) : Prop where
  ex : ∃ (f : Addr) (fd : FuncData), Meth K C m f ∧ FnOk P w K mg base (L2.CX P w) k f fd ps (spD K sp) ∧ Binds K fd ps []
structure CalI (P : Program) (w : World) (K : PySem.W.Frag) (mg : Str → Option Value) (base : Heap) (k : Nat) (x : Str) (C : Addr) (ps : List Str) (dvs : List V) (sp : DSp) : Prop where
  ex : ∃ (f : Addr) (fd : FuncData) (ds : List Value), Mk K C f ∧ FnOk P w K mg base (L2.CX P w) k f fd ps (spD K sp) ∧ Binds K fd ps ds ∧ Vals dvs ds ∧ mg x = some (.ref C)
/-- the same with defaults behind -/
def wMakeD (C : Addr) (sp : DSp) (dds : List D) (wr : WA) : WE := fun Qe s Q => wr Qe s fun ds s1 => ∀ x, s1.n.st x = none → sp (.loc x :: (ds ++ dds)) ⟨s1.n.n, updS s1.n.st x (.ins C [] [])⟩ (fun d n' => d = .non ∧ Q (.loc x) ⟨s1.env, n'⟩) Qe.only
theorem simE_makeD {K : PySem.W.Frag} {E : XK} {C : Addr} {sp : DSp} {t : TA} {wr : WA} {dvs : List V} {dds : List D} (hd : ∀ pen G, DxAll K pen G dvs dds) (h : SimA K E t wr) : SimE K E (tMake C (spD K sp) dvs E t) (wMakeD C sp dds wr) := fun A Qe W σ H G s Q P R q k =>
  h A Qe W σ H G s _ _ R q fun vs H1 G1 ds s1 R1 g1 d1 q1 => fun x dx hx hdx hne => by
    have hx2 : (upd H1 dx (.own x)) x = none := by rw [upd_ne (Ne.symm hne)]; exact hx
    have R2 : Rel K A σ (upd H1 dx (.own x)) G1 s1 := R1.temp hdx
    have R3 := R2.snew (a := x) (o := .ins C [] []) (u := .ins C dx []) hx2 ⟨dx, [], upd_same, rfl, .nil⟩
    refine ⟨A.pen, G1, ⟨s1.n.n, updS s1.n.st x (.ins C [] [])⟩, .loc x :: (ds ++ dds), _, Qe.only, R3.an.e, R3.pn, .cons .loc (d1.append (hd _ _)), q1 x (R1.pn.fresh hx), fun v H' G' d n' g p dd q2 => ?_, W.at R3⟩
    obtain ⟨rfl, q3⟩ := q2
    cases dd
    exact ⟨rfl, k _ _ _ _ _ (R3.grow g p) (g1.trans g.g) .loc q3⟩
section
variable {X : Cx} {E : XK} {C : Addr} {k : Nat} {ps : List Str} {sp : DSp} {x m : Str} {p pos apos : Pos} {e o : Expr} {es : List Expr} {wr : WA} {wo : WE} {dvs : List V} {dds : List D}
theorem de_new (I : CalI X.prog X.w X.K X.mg X.base k x C ps dvs sp) (hd : ∀ pen G, DxAll X.K pen G dvs dds) (hr : Room (k + 1) X.A) (hg : Gl X x) (hx : Passes (L2.CX X.prog X.w) X E)
    (ha : DA X E (e :: es) wr) (hdb : (x == ("__debug__" : Str)) = false := by decide) (he : starEach (e :: es) X.env = (false, eval e X.env) :: starEach es X.env := by rfl) (hpl : (backTo pos (starEach es X.env)).any (·.1) = false := by rfl) :
    DE X E (.Call (.Name x p) (e :: es) [] pos) (wMakeD C sp dds wr) := by
  obtain ⟨f, fd, ds, M, F, hb, hv, hm⟩ := I.ex
  obtain ⟨t, h1, h2⟩ := ha.ex
  exact ⟨_, pe_make M F hr hg hm hb hv hx h1 hdb he hpl, simE_makeD hd h2⟩
theorem de_mth {pl : Sem Bool} (c : Cls X.K C) (I : CalM X.prog X.w X.K X.mg X.base k C m ps sp) (hr : Room k X.A) (hx : Passes (L2.CX X.prog X.w) X E) (ho : DE X E o wo) (ha : DA X E (e :: es) wr)
    (hst : starEach (e :: es) X.env = (false, eval e X.env) :: starEach es X.env := by rfl) (hpl : (backTo pos (starEach es X.env)).any (·.1) = false := by rfl)
    (ht : eval (.Call (.Attribute o m apos) (e :: es) [] pos) X.env = (do
      let ov ← eval o X.env
      standAt apos.atName
      let (f, first) ← holding [ov] (getMethod ov m pl)
      callWith pos f first (backTo pos (starEach (e :: es) X.env)) (backToKw pos (keywordEach [] X.env))) := by rfl) : DE X E (.Call (.Attribute o m apos) (e :: es) [] pos) (wMeth C m sp wo wr) := by
  obtain ⟨f, fd, hm, F, hb⟩ := I.ex
  exact de_meth c hm F hr hb hx ho ha hst hpl ht
theorem de_mth0 {pl : Sem Bool} (c : Cls X.K C) (I : CalM X.prog X.w X.K X.mg X.base k C m ps sp) (hr : Room k X.A) (hx : Passes (L2.CX X.prog X.w) X E) (ho : DE X E o wo)
    (ht : eval (.Call (.Attribute o m apos) [] [] pos) X.env = (do
      let ov ← eval o X.env
      standAt apos.atName
      let (f, first) ← holding [ov] (getMethod ov m pl)
      callWith pos f first (backTo pos (starEach [] X.env)) (backToKw pos (keywordEach [] X.env))) := by rfl) : DE X E (.Call (.Attribute o m apos) [] [] pos) (wMeth C m sp wo wNil) := by
  obtain ⟨f, fd, hm, F, hb⟩ := I.ex
  exact de_meth0 c hm F hr hb hx ho ht
end
end DL
set_option Elab.async false
set_option linter.all false
namespace K78
open PySem L2 Evl DL
/-- a statement of the text's top, by place -/
def top (i : Nat) : Stmt := PySem.Challenge.pw_atallprices_k78_texts_of_fields_bent.main.body.getD i (.Pass ⟨0, 0, 0, 0⟩)
/-- a def of a class, by place -/
def inC (i j : Nat) : Stmt := inClass (top i) j
end K78
set_option Elab.async false
set_option linter.all false
set_option maxRecDepth 100000
set_option maxHeartbeats 4000000
namespace K2
open PySem L2 Evl
/-! ### data: lists and tuples, {} -/
mutual
inductive Dx (K : PySem.W.Frag) (H : Hp) : V → PyData → Prop
  | non : Dx K H .non .none
  | bl (b : Bool) : Dx K H (.bl b) (.bool b)
  | int (i : Int) : Dx K H (.int i) (.int i)
  | str (x : Str) : Dx K H (.str x) (.str x)
  | lst {a : Addr} {xs : List V} {ds : List PyData} : SqL K H a xs → DxAll K H xs ds → Dx K H (.ref a) (.list ds)
  | tup {a : Addr} {xs : List V} {ds : List PyData} : SqT K H a xs → DxAll K H xs ds → Dx K H (.ref a) (.tuple ds)
  | dct {a : Addr} : H a = some (.dK []) → Dx K H (.ref a) (.dict [])
inductive DxAll (K : PySem.W.Frag) (H : Hp) : List V → List PyData → Prop
  | nil : DxAll K H [] []
  | cons {v : V} {vs : List V} {d : PyData} {ds : List PyData} : Dx K H v d → DxAll K H vs ds → DxAll K H (v :: vs) (d :: ds)
end
section
variable {K : PySem.W.Frag} {H H' : Hp}
mutual
theorem Dx.ex (e : Ex H H') : ∀ (d : PyData) (v : V), Dx K H v d → Dx K H' v d
  | .none, _, h => by cases h; exact .non
  | .bool b, _, h => by cases h; exact .bl b
  | .int i, _, h => by cases h; exact .int i
  | .str x, _, h => by cases h; exact .str x
  | .list ds, _, h => by
    cases h with
    | lst hs ha => exact .lst (ex_l e hs) (DxAll.ex e ds _ ha)
  | .tuple ds, _, h => by
    cases h with
    | tup hs ha => exact .tup (ex_t e hs) (DxAll.ex e ds _ ha)
  | .dict kvs, _, h => by
    cases h with
    | dct ha => exact .dct (e _ _ ha)
theorem DxAll.ex (e : Ex H H') : ∀ (ds : List PyData) (vs : List V), DxAll K H vs ds → DxAll K H' vs ds
  | [], _, h => by cases h; exact .nil
  | d :: ds, _, h => by
    cases h with
    | cons h1 h2 => exact .cons (Dx.ex e d _ h1) (DxAll.ex e ds _ h2)
end
theorem DxAll.length : ∀ {vs : List V} {ds : List PyData}, DxAll K H vs ds → vs.length = ds.length
  | _, _, .nil => rfl
  | _, _, .cons _ h => by rw [List.length_cons, List.length_cons, h.length]
theorem DxAll.get : ∀ {vs : List V} {ds : List PyData} {i : Nat} {d : PyData}, DxAll K H vs ds → ds[i]? = some d → ∃ v, vs[i]? = some v ∧ Dx K H v d
  | _, _, i, _, .nil, h => by simp at h
  | _, _, 0, d, .cons h1 _, h => by
    simp at h
    subst h
    exact ⟨_, rfl, h1⟩
  | _, _, i + 1, d, .cons _ h2, h => by
    simp at h
    obtain ⟨v, e, q⟩ := DxAll.get h2 h
    exact ⟨v, by simpa using e, q⟩
theorem DxAll.getV : ∀ {vs : List V} {ds : List PyData} {i : Nat} {v : V}, DxAll K H vs ds → vs[i]? = some v → ∃ d, ds[i]? = some d ∧ Dx K H v d
  | _, _, i, _, .nil, h => by simp at h
  | _, _, 0, v, .cons h1 _, h => by
    simp at h
    subst h
    exact ⟨_, rfl, h1⟩
  | _, _, i + 1, v, .cons _ h2, h => by
    simp at h
    obtain ⟨d, e, q⟩ := DxAll.getV h2 h
    exact ⟨d, by simpa using e, q⟩
theorem DxAll.append : ∀ {vs ws : List V} {ds es : List PyData}, DxAll K H vs ds → DxAll K H ws es → DxAll K H (vs ++ ws) (ds ++ es)
  | _, _, _, _, .nil, h => h
  | _, _, _, _, .cons h1 h2, h => .cons h1 (h2.append h)
theorem DxAll.take : ∀ {vs : List V} {ds : List PyData} (n : Nat), DxAll K H vs ds → DxAll K H (vs.take n) (ds.take n)
  | _, _, 0, _ => by simpa using DxAll.nil
  | _, _, _ + 1, .nil => by simpa using DxAll.nil
  | _, _, n + 1, .cons h1 h2 => by
    rw [List.take_succ_cons, List.take_succ_cons]
    exact .cons h1 (h2.take n)
theorem DxAll.drop : ∀ {vs : List V} {ds : List PyData} (n : Nat), DxAll K H vs ds → DxAll K H (vs.drop n) (ds.drop n)
  | _, _, 0, h => h
  | _, _, _ + 1, .nil => .nil
  | _, _, n + 1, .cons _ h2 => h2.drop n
end
/-! ### what a statement is -/
/-- the type's name -/
def tyN : PyData → String
  | .none => "NoneType"
  | .bool _ => "bool"
  | .int _ => "int"
  | .str _ => "str"
  | .list _ => "list"
  | .tuple _ => "tuple"
  | .dict _ => "dict"
theorem Dx.ty {K : PySem.W.Frag} {H : Hp} {v : V} {d : PyData} (h : Dx K H v d) : TyX K H v (.type (tyN d)) := by
  cases h with
  | non => exact .base .non
  | bl b => exact .base (.bl b)
  | int i => exact .base (.int i)
  | str x => exact .base (.str x)
  | lst hs _ =>
    rcases hs with (h | ⟨o, h⟩) | ⟨o, its, n, hk, hc, _⟩
    · exact .base (.lst h)
    · exact .base (.frz h)
    · exact .kList hk hc
  | tup hs _ =>
    rcases hs with (h | ⟨o, h⟩) | ⟨o, its, n, hk, hc, _⟩
    · exact .base (.tup h)
    · exact .fTuple h
    · exact .kTuple hk hc
  | dct h => exact .base (.dK h)
def isRow : PyData → Bool
  | .list _ => true
  | .tuple _ => true
  | _ => false
def isTxt : PyData → Bool
  | .str _ => true
  | _ => false
theorem kit_two {K : PySem.W.Frag} {n a b : String} {x y : Bool} (h1 : kitB n a = some x) (h2 : kitB n b = some y) : PySem.W.kitAny K (.type n) [.type a, .type b] = some (x || y) := by
  refine kitAny_cons (kit_ty h1) (fun hx => ?_) (fun hx => by rw [hx] <;> rfl)
  subst hx
  exact kitAny_cons (kit_ty h2) (fun hy => by subst hy; exact kitAny_nil) (fun hy => by rw [hy] <;> rfl)
theorem kit_row (K : PySem.W.Frag) (d : PyData) : PySem.W.kitAny K (.type (tyN d)) [.type "list", .type "tuple"] = some (isRow d) := by
  cases d with
  | none => exact kit_two (n := "NoneType") (x := false) (y := false) (by decide +kernel) (by decide +kernel)
  | bool _ => exact kit_two (n := "bool") (x := false) (y := false) (by decide +kernel) (by decide +kernel)
  | int _ => exact kit_two (n := "int") (x := false) (y := false) (by decide +kernel) (by decide +kernel)
  | str _ => exact kit_two (n := "str") (x := false) (y := false) (by decide +kernel) (by decide +kernel)
  | list _ => exact kit_two (n := "list") (x := true) (y := false) (by decide +kernel) (by decide +kernel)
  | tuple _ => exact kit_two (n := "tuple") (x := false) (y := true) (by decide +kernel) (by decide +kernel)
  | dict _ => exact kit_two (n := "dict") (x := false) (y := false) (by decide +kernel) (by decide +kernel)
theorem kit_txt (K : PySem.W.Frag) (d : PyData) : PySem.W.kitOne K (.type (tyN d)) (.type "str") = some (isTxt d) := by
  cases d with
  | none => exact kit_ty (a := "NoneType") (r := false) (by decide +kernel)
  | bool _ => exact kit_ty (a := "bool") (r := false) (by decide +kernel)
  | int _ => exact kit_ty (a := "int") (r := false) (by decide +kernel)
  | str _ => exact kit_ty (a := "str") (r := true) (by decide +kernel)
  | list _ => exact kit_ty (a := "list") (r := false) (by decide +kernel)
  | tuple _ => exact kit_ty (a := "tuple") (r := false) (by decide +kernel)
  | dict _ => exact kit_ty (a := "dict") (r := false) (by decide +kernel)
def top (i : Nat) : Stmt := K78.top i
end K2
namespace K2
open PySem L2 Evl
/-- a tuple of the written part -/
def KT (K : PySem.W.Frag) (a : Addr) (xs : List V) : Prop := ∃ (o : Obj) (its : Array Value) (n : Nat), K.lookup a = some o ∧ o.cls = .type "tuple" ∧ o.data = .seq its n ∧ its.size ≤ sizeLine ∧ Vals xs its.toList
theorem KT.sq {K : PySem.W.Frag} {H : Hp} {a : Addr} {xs : List V} (h : KT K a xs) : SqT K H a xs := .inr h
/-- no global of this name: the built-in one is meant -/
structure Bl (mg : Str → Option Value) : Prop where
  isi : mg "isinstance" = none
  list : mg "list" = none
  tuple : mg "tuple" = none
  str : mg "str" = none
  len : mg "len" = none
  all : mg "all" = none
  sorted : mg "sorted" = none
  set : mg "set" = none
  repr : mg "repr" = none
  abs : mg "abs" = none
  int : mg "int" = none
  range : mg "range" = none
/-! ### is_row -/
abbrev sRow : Stmt := top 4
def spRow (K : PySem.W.Frag) : Sp := fun vs H Q _ => ∃ v d, vs = [v] ∧ Dx K H v d ∧ ∀ H', Ex H H' → Q (.bl (isRow d)) H'
theorem scRow : FnScope ["value"] ["value"] (defScope sRow) := ⟨rfl, rfl, rfl, by decide +kernel, rfl, by decide +kernel, by decide +kernel⟩
section
variable {P : Program} {w : World} {K : PySem.W.Frag} {mg : Str → Option Value} {base : Heap}
theorem ok_row {f : Addr} {fd : FuncData} (F : Fun K "is_row" "is_row" sRow f fd) (B : Bl mg) : FnOk P w K mg base CX0 1 f fd ["value"] (spRow K) := by
  refine F.ok scRow (fun vs H Q E h => ?_) (fun cdv A outer s H vs Q E hr h => ?_)
  · obtain ⟨v, d, rfl, _⟩ := h
    rfl
  · obtain ⟨v, d, rfl, hd, k⟩ := h
    refine ⟨_, pss_one (ps_ret (pe_callB call_isiT rfl B.isi (by decide +kernel) (pa_cons (pv 0) (pa_cons (pe_tup (pa_cons (pe_bltn (v := .ty "list") rfl B.list (by decide +kernel) rfl) (pa_cons (pe_bltn (v := .ty "tuple") rfl B.tuple (by decide +kernel) rfl) pa_nil))) pa_nil)))), ?_⟩
    refine ⟨_, rfl, (by show 2 ≤ sizeLine; decide), fun t ht => ?_⟩
    refine ⟨v, t, _, _, _, _, rfl, upd_same, .cons (.ty _) (.cons (.ty _) .nil), (Dx.ex (Ex.new ht) d v hd).ty, kit_row K d, k _ (Ex.new ht)⟩
end
end K2
namespace K2
open PySem L2 Evl
/-! ### a list beside an empty one -/
section
variable {X : Cx}
def rNeE (K : PySem.W.Frag) : R2 := fun x y H Q => ∃ a b xs, x = .ref a ∧ y = .ref b ∧ SqL K H a xs ∧ SqL K H b [] ∧ Q (.bl (!xs.isEmpty)) H
def rEqE (K : PySem.W.Frag) : R2 := fun x y H Q => ∃ a b xs, x = .ref a ∧ y = .ref b ∧ SqL K H a xs ∧ SqL K H b [] ∧ Q (.bl xs.isEmpty) H
theorem op_neE (hu : X.A.units < cLine) : OpR X (compareOp .NotEq) (rNeE X.K) := by
  intro pins s σ H x y v u Q I rx ry h
  obtain ⟨a, b, xs, rfl, rfl, ha, hb, q⟩ := h
  cases (show v = Value.ref a from rx)
  cases (show u = Value.ref b from ry)
  obtain ⟨us, r1, p1, _⟩ := I.list ha
  obtain ⟨ws, r2, p2, _⟩ := I.list hb
  cases r2
  unfold compareOp
  cases r1 with
  | nil => exact PySem.SeqAt.RcNeAt.lists (e := fun _ => true) p1.isList p2.isList rfl hu (fun j h1 => absurd h1 (by simp)) X.prog X.w X.xe _ ⟨.bl false, H, I, rfl, q⟩
  | cons r t => exact PySem.SeqAt.RcNeAt.lists_lengths p1.isList p2.isList (by simp) hu X.prog X.w X.xe _ ⟨.bl true, H, I, rfl, q⟩
theorem op_eqE (hu : X.A.units < cLine) : OpR X (compareOp .Eq) (rEqE X.K) := by
  intro pins s σ H x y v u Q I rx ry h
  obtain ⟨a, b, xs, rfl, rfl, ha, hb, q⟩ := h
  cases (show v = Value.ref a from rx)
  cases (show u = Value.ref b from ry)
  obtain ⟨us, r1, p1, _⟩ := I.list ha
  obtain ⟨ws, r2, p2, _⟩ := I.list hb
  cases r2
  unfold compareOp
  cases r1 with
  | nil => exact PySem.SeqAt.RcAt.lists (e := fun _ => true) p1.isList p2.isList rfl hu (fun j h1 => absurd h1 (by simp)) X.prog X.w X.xe _ ⟨.bl true, H, I, rfl, q⟩
  | cons r t => exact PySem.SeqAt.RcAt.lists_lengths p1.isList p2.isList (by simp) hu X.prog X.w X.xe _ ⟨.bl false, H, I, rfl, q⟩
end
/-! ### what fixed makes -/
mutual
def fix : PyData → PyData
  | .list ds => .tuple (fixAll ds)
  | .tuple ds => .tuple (fixAll ds)
  | .none => .none
  | .bool b => .bool b
  | .int i => .int i
  | .str x => .str x
  | .dict kvs => .dict kvs
def fixAll : List PyData → List PyData
  | [] => []
  | d :: ds => fix d :: fixAll ds
end
mutual
def nodes : PyData → Nat
  | .list ds => 1 + nodesAll ds
  | .tuple ds => 1 + nodesAll ds
  | .none => 1
  | .bool _ => 1
  | .int _ => 1
  | .str _ => 1
  | .dict _ => 1
def nodesAll : List PyData → Nat
  | [] => 0
  | d :: ds => nodes d + nodesAll ds
end
theorem fixAll_map : ∀ ds, fixAll ds = ds.map fix
  | [] => rfl
  | d :: ds => by rw [fixAll, fixAll_map ds] <;> rfl
def items : PyData → Option (List PyData)
  | .list ds => some ds
  | .tuple ds => some ds
  | _ => none
theorem fix_row {d : PyData} {ds : List PyData} (h : items d = some ds) : fix d = .tuple (fixAll ds) := by
  cases d <;> first | (cases h; rfl) | cases h
theorem fix_leaf {d : PyData} (h : isRow d = false) : fix d = d := by
  cases d <;> first | rfl | cases h
theorem items_row {d : PyData} (h : isRow d = true) : ∃ ds, items d = some ds := by
  cases d <;> first | exact ⟨_, rfl⟩ | cases h
/-! ### the machine of fixed -/
structure Fr where
  t : Addr
  q : Addr
  v : V
  row : PyData
  ds : List PyData
  i : Nat
  dn : List V
def OkF (K : PySem.W.Frag) (G H : Hp) (c : Fr) : Prop := G c.t = some (.tup [c.v, .ref c.q]) ∧ Dx K G c.v c.row ∧ items c.row = some c.ds ∧ c.i < c.ds.length ∧ G c.q = none ∧ H c.q = some (.lst c.dn) ∧ DxAll K G c.dn (fixAll (c.ds.take c.i))
def Fit : PyData → List Fr → PyData → Prop
  | e, [], r => e = r
  | e, c :: cs, r => c.ds[c.i]? = some e ∧ items c.row = some c.ds ∧ Fit c.row cs r
def rest : List Fr → Nat
  | [] => 0
  | c :: cs => 2 * nodesAll (c.ds.drop (c.i + 1)) + 1 + rest cs
/-- frames on the line, bottom first -/
def onLine (ctx : List Fr) : List V := ctx.reverse.map fun c => V.ref c.t
structure Mach (K : PySem.W.Frag) (H0 : Hp) (L : Addr) (G H : Hp) (ctx : List Fr) : Prop where
  e0 : Ex H0 G
  e1 : Ex G H
  l0 : G L = none
  ok : ∀ c ∈ ctx, OkF K G H c
  nd : (L :: ctx.map (·.q)).Nodup
theorem nodes_pos : ∀ d : PyData, 1 ≤ nodes d := fun d => by cases d <;> simp [nodes]
theorem nodes_items {d : PyData} {ds : List PyData} (h : items d = some ds) : nodes d = 1 + nodesAll ds := by
  cases d <;> first | (cases h; rfl) | cases h
theorem nodes_len : ∀ ds : List PyData, ds.length ≤ nodesAll ds
  | [] => Nat.zero_le _
  | d :: ds => by
    have h1 := nodes_len ds
    have h2 := nodes_pos d
    rw [List.length_cons, nodesAll]
    omega
theorem nodes_get : ∀ {ds : List PyData} {i : Nat} {e : PyData}, ds[i]? = some e → nodes e + nodesAll (ds.drop (i + 1)) ≤ nodesAll ds
  | [], _, _, h => by simp at h
  | d :: ds, 0, e, h => by
    simp at h
    subst h
    rw [nodesAll]
    simp
  | d :: ds, i + 1, e, h => by
    simp at h
    have q := nodes_get h
    rw [nodesAll, List.drop_succ_cons]
    omega
theorem nodes_drop {ds : List PyData} {i : Nat} {e : PyData} (h : ds[i]? = some e) : nodesAll (ds.drop i) = nodes e + nodesAll (ds.drop (i + 1)) := by
  obtain ⟨hi, he⟩ := List.getElem?_eq_some_iff.mp h
  rw [List.drop_eq_getElem_cons hi, nodesAll, he]
theorem fit_nodes : ∀ {ctx : List Fr} {e r : PyData}, Fit e ctx r → nodes e + ctx.length ≤ nodes r
  | [], e, r, h => by
    have h : e = r := h
    rw [h]
    exact Nat.le_refl _
  | c :: cs, e, r, h => by
    obtain ⟨h1, h2, h3⟩ := h
    have q := fit_nodes h3
    have q1 := nodes_get h1
    have q2 := nodes_items h2
    rw [List.length_cons]
    omega
section
variable {K : PySem.W.Frag} {H0 G H H' : Hp} {L : Addr} {ctx : List Fr}
theorem OkF.ex {c : Fr} (h : OkF K G H c) (e : Ex H H') : OkF K G H' c := ⟨h.1, h.2.1, h.2.2.1, h.2.2.2.1, h.2.2.2.2.1, e _ _ h.2.2.2.2.2.1, h.2.2.2.2.2.2⟩
theorem Mach.ex (m : Mach K H0 L G H ctx) (e : Ex H H') : Mach K H0 L G H' ctx := ⟨m.e0, m.e1.trans e, m.l0, fun c hc => (m.ok c hc).ex e, m.nd⟩
/-- the line is written -/
theorem Mach.line (m : Mach K H0 L G H ctx) (xs : List V) : Mach K H0 L G (upd H L (.lst xs)) ctx := by
  refine ⟨m.e0, m.e1.mut m.l0, m.l0, fun c hc => ?_, m.nd⟩
  have h := m.ok c hc
  refine ⟨h.1, h.2.1, h.2.2.1, h.2.2.2.1, h.2.2.2.2.1, ?_, h.2.2.2.2.2.2⟩
  rw [upd_ne (fun z => (List.nodup_cons.mp m.nd).1 (by rw [← z]; exact List.mem_map_of_mem hc))]
  exact h.2.2.2.2.2.1
/-- more is known for good -/
theorem Mach.more {p : Addr} {o u : HO} (m : Mach K H0 L G H ctx) (hL : H L = some u) (hp : H p = none) : Mach K H0 L (upd G p o) (upd H p o) ctx := by
  have gp : G p = none := fresh_back m.e1 hp
  have e2 : Ex G (upd G p o) := Ex.new gp
  refine ⟨m.e0.trans e2, fun a u e => ?_, ?_, fun c hc => ?_, m.nd⟩
  · by_cases ha : a = p
    · rw [ha, upd_same] at e ⊢
      exact e
    · rw [upd_ne ha] at e ⊢
      exact m.e1 a u e
  · rw [upd_ne (ne_of_none hL hp)]
    exact m.l0
  · obtain ⟨h1, h2, h3, h4, h5, h6, h7⟩ := m.ok c hc
    refine ⟨e2 _ _ h1, Dx.ex e2 _ _ h2, h3, h4, ?_, ?_, DxAll.ex e2 _ _ h7⟩
    · rw [upd_ne (ne_of_none h6 hp)]
      exact h5
    · rw [upd_ne (ne_of_none h6 hp)]
      exact h6
/-- a frame is put on -/
theorem Mach.cons {c : Fr} (m : Mach K H0 L G H ctx) (hc : OkF K G H c) (nq : ∀ d ∈ ctx, d.q ≠ c.q) (nL : L ≠ c.q) : Mach K H0 L G H (c :: ctx) := by
  refine ⟨m.e0, m.e1, m.l0, fun d hd => ?_, ?_⟩
  · rcases List.mem_cons.mp hd with e | hd
    · subst e
      exact hc
    · exact m.ok d hd
  · have nd := List.nodup_cons.mp m.nd
    rw [List.map_cons, List.nodup_cons, List.nodup_cons]
    refine ⟨fun z => ?_, fun z => ?_, nd.2⟩
    · rcases List.mem_cons.mp z with z | z
      · exact nL z
      · exact nd.1 z
    · obtain ⟨d, hd, e⟩ := List.mem_map.mp z
      exact nq d hd e
theorem Mach.pop {c : Fr} (m : Mach K H0 L G H (c :: ctx)) : Mach K H0 L G H ctx := ⟨m.e0, m.e1, m.l0, fun d hd => m.ok d (List.mem_cons_of_mem _ hd), by
  have nd := m.nd
  rw [List.map_cons, List.nodup_cons, List.nodup_cons] at nd
  rw [List.nodup_cons]
  exact ⟨fun z => nd.1 (List.mem_cons_of_mem _ z), nd.2.2⟩⟩
/-- the upper frame has one value more -/
theorem Mach.step {c : Fr} {dv : V} {e : PyData} (m : Mach K H0 L G H (c :: ctx)) (he : c.ds[c.i]? = some e) (hd : Dx K G dv (fix e)) :
    Mach K H0 L G (upd H c.q (.lst (c.dn ++ [dv]))) ctx ∧ DxAll K G (c.dn ++ [dv]) (fixAll (c.ds.take (c.i + 1))) ∧ (∀ d ∈ ctx, d.q ≠ c.q) ∧ L ≠ c.q := by
  obtain ⟨h1, h2, h3, h4, h5, h6, h7⟩ := m.ok c List.mem_cons_self
  have all : DxAll K G (c.dn ++ [dv]) (fixAll (c.ds.take (c.i + 1))) := by
    rw [List.take_succ, he, fixAll_map, List.map_append, ← fixAll_map]
    exact h7.append (.cons hd .nil)
  have nd := m.nd
  rw [List.map_cons, List.nodup_cons, List.nodup_cons] at nd
  have nq : ∀ d ∈ ctx, d.q ≠ c.q := fun d hd z => nd.2.1 (by rw [← z]; exact List.mem_map_of_mem hd)
  refine ⟨⟨m.e0, m.e1.mut h5, m.l0, fun d hd => ?_, m.pop.nd⟩, all, nq, fun z => nd.1 (by rw [z]; exact List.mem_cons_self)⟩
  obtain ⟨g1, g2, g3, g4, g5, g6, g7⟩ := m.ok d (List.mem_cons_of_mem _ hd)
  refine ⟨g1, g2, g3, g4, g5, ?_, g7⟩
  rw [upd_ne (nq d hd)]
  exact g6
end
theorem row_at {K : PySem.W.Frag} {G : Hp} {v : V} {e : PyData} {ds : List PyData} (h : Dx K G v e) (hi : items e = some ds) : ∃ a xs, v = .ref a ∧ (SqL K G a xs ∨ SqT K G a xs) ∧ DxAll K G xs ds := by
  cases h with
  | lst hs ha => cases hi; exact ⟨_, _, rfl, .inl hs, ha⟩
  | tup hs ha => cases hi; exact ⟨_, _, rfl, .inr hs, ha⟩
  | _ => cases hi
theorem sq_ex {K : PySem.W.Frag} {G H : Hp} {a : Addr} {xs : List V} (e : Ex G H) (h : SqL K G a xs ∨ SqT K G a xs) : SqL K H a xs ∨ SqT K H a xs := h.elim (fun z => .inl (ex_l e z)) fun z => .inr (ex_t e z)
theorem lenV_sq {K : PySem.W.Frag} {H : Hp} {a : Addr} {xs : List V} (h : SqL K H a xs ∨ SqT K H a xs) : LenV K (.ref a) H xs.length := h.elim (fun z => .inl ⟨xs, z, rfl⟩) fun z => .inr ⟨xs, z, rfl⟩
theorem ix_sq {K : PySem.W.Frag} {H : Hp} {a : Addr} {xs : List V} {i : Nat} {v : V} {Q : VK} (h : SqL K H a xs ∨ SqT K H a xs) (hi : xs[i]? = some v) (q : Q v H) : rIx K (.ref a) (.int (i : Int)) H Q :=
  h.elim (fun z => .inl ⟨a, xs, _, v, rfl, rfl, z, atI_nat hi, q⟩) fun z => .inr (.inl ⟨a, xs, _, v, rfl, rfl, z, atI_nat hi, q⟩)
theorem last_snoc (l : List V) (y : V) : (l ++ [y])[(l ++ [y]).length - 1]? = some y := by simp
theorem onLine_cons (c : Fr) (cs : List Fr) : onLine (c :: cs) = onLine cs ++ [.ref c.t] := by
  unfold onLine
  rw [List.reverse_cons, List.map_append] <;> rfl
theorem onLine_len (cs : List Fr) : (onLine cs).length = cs.length := by
  unfold onLine
  rw [List.length_map, List.length_reverse]
theorem sz1000 {n : Nat} (h : n ≤ 2000) : n < sizeLine := Nat.lt_of_le_of_lt h (by decide)
/-- at the head of the loop; m: what is left -/
def Head (K : PySem.W.Frag) (H0 : Hp) (v0 : V) (root : PyData) (m : Nat) (σ : L2.St) (H : Hp) : Prop :=
  ∃ (L : Addr) (G : Hp) (ctx : List Fr) (e : PyData) (xs : List V), Mach K H0 L G H ctx ∧ Fit e ctx root ∧ H L = some (.lst xs) ∧
    ((∃ (t : Addr) (v : V) (dn o p : Option V), xs = onLine ctx ++ [.ref t] ∧ G t = some (.tup [v, .non]) ∧ Dx K G v e ∧ m = 2 * nodes e + rest ctx ∧ σ = [some v0, dn, some (.ref L), o, p]) ∨
      (∃ (c : Fr) (cs : List Fr) (dv : V) (o p : Option V), ctx = c :: cs ∧ xs = onLine ctx ∧ Dx K G dv (fix e) ∧ m = rest ctx + 1 ∧ σ = [some v0, some dv, some (.ref L), o, p]))
/-- if line == []: return done -/
theorem tail {K : PySem.W.Frag} {H0 G H : Hp} {L : Addr} {ctx : List Fr} {e root : PyData} {v0 dv : V} {o p : Option V} {m : Nat} {D : Ends} (mc : Mach K H0 L G H ctx) (hf : Fit e ctx root) (hL : H L = some (.lst (onLine ctx))) (hd : Dx K G dv (fix e))
    (hm : rest ctx + 1 < m) (kr : ∀ u H', Ex H0 H' → Dx K H' u (fix root) → D.rt u H') (kn : ∀ σ' H' m', m' < m → Head K H0 v0 root m' σ' H' → D.nx σ' H') :
    tIfS (tTest (tOp (rEqE K) (tVar 2) (tLst tNil))) (tRet (tVar 1)) tNext D [some v0, some dv, some (.ref L), o, p] H := by
  refine ⟨_, rfl, Nat.zero_le _, fun b hb => ⟨L, b, onLine ctx, rfl, rfl, SqL.of (Ex.new hb _ _ hL), SqL.of upd_same, _, rfl, ?_⟩⟩
  have m1 := mc.ex (Ex.new (o := .lst []) hb)
  cases ctx with
  | nil =>
    have z : e = root := hf
    subst z
    refine iteT ⟨dv, rfl, kr _ _ (m1.e0.trans m1.e1) (Dx.ex m1.e1 _ _ hd)⟩
  | cons c cs =>
    have en : (onLine (c :: cs)).isEmpty = false := by
      unfold onLine
      rw [List.reverse_cons, List.map_append]
      cases (List.map (fun c => V.ref c.t) cs.reverse) <;> rfl
    rw [en]
    refine iteF (kn _ _ _ hm ⟨L, G, c :: cs, e, _, m1, hf, Ex.new hb _ _ hL, .inr ⟨c, cs, dv, o, p, rfl, rfl, hd, rfl, rfl⟩⟩)
/-! ### fixed -/
abbrev sFix : Stmt := top 23
def spFix (K : PySem.W.Frag) : Sp := fun vs H Q _ => ∃ v d, vs = [v] ∧ Dx K H v d ∧ nodes d ≤ 1000 ∧ ∀ u H', Ex H H' → Dx K H' u (fix d) → Q u H'
theorem scFix : FnScope ["value", "done", "line", "one", "parts"] ["value"] (defScope sFix) := ⟨rfl, rfl, rfl, by decide +kernel, rfl, by decide +kernel, by decide +kernel⟩
section
variable {P : Program} {w : World} {K : PySem.W.Frag} {mg : Str → Option Value} {base : Heap}
theorem ok_fix {f fr : Addr} {fd fdr : FuncData} (F : Fun K "fixed" "fixed" sFix f fd) (B : Bl mg) (R : FnOk P w K mg base CX0 1 fr fdr ["value"] (spRow K)) (mr : mg "is_row" = some (.ref fr)) (kr : PySem.W.keepIn K (.ref fr) = true) (br : Binds K fdr ["value"] []) : FnOk P w K mg base CX0 2 f fd ["value"] (spFix K) := by
  refine F.ok scFix (fun vs H Q E h => ?_) (fun cdv A outer s H vs Q E hr h => ?_)
  · obtain ⟨v, d, rfl, _⟩ := h
    rfl
  · obtain ⟨v, d, rfl, hd, hn, k⟩ := h
    have hu : (cxOf CX0 P w K mg base ["value", "done", "line", "one", "parts"] "fixed" (defScope sFix) f cdv A outer s H E).nox.A.units < cLine := by
      have := hu_of hr
      exact Nat.lt_of_le_of_lt (Nat.le_succ _) this
    refine ⟨_, pss_cons (ps_par (i := 1) (j := 2) rfl scFix.nd rfl rfl (by decide) rfl rfl (pa_cons pe_non (pa_cons (pe_lst (pa_cons (pe_tup (pa_cons (pv 0) (pa_cons pe_non pa_nil))) pa_nil)) pa_nil)) (by rfl))
      (pss_cons (ps_while PassesOwn.never (pt_cmpR (op_neE hu) (pv 2) (pe_lst pa_nil) (nomark _))
        (pss_cons (ps_asg (pe_bm0 PySem.F.plainAttrs_list PySem.F.slot_list_pop PySem.F.type_list_pop mt_pop (pv 2)) (pg_tup rfl (pgs_cons (pg_name (i := 3) scFix.nd rfl (Or.inl rfl)) (pgs_cons (pg_name (i := 4) scFix.nd rfl (Or.inl rfl)) pgs_nil))))
          (pss_cons (ps_if (pt_not (pt_val (pe_call R hr (by rfl) mr kr br .nil pass0 (pa_cons (pv 3) pa_nil))))
              (pss_one (ps_set (i := 1) scFix.nd rfl (Or.inl rfl) (pv 3)))
              (pss_one (ps_if (pt_cmp (pc_isN (pv 4)))
                (pss_cons (ps_expr (pe_bm PySem.F.plainAttrs_list PySem.F.slot_list_append PySem.F.type_list_append mt_append (pv 2) (pa_cons (pe_tup (pa_cons (pv 3) (pa_cons (pe_lst pa_nil) pa_nil))) pa_nil)))
                  (pss_cons (ps_set (i := 1) scFix.nd rfl (Or.inl rfl) pe_non)
                    (pss_cons (ps_if (pt_cmpR op_gt (pe_callB call_len (by rfl) B.len (by decide +kernel) (pa_cons (pv 3) pa_nil)) pe_int (nomark _))
                        (pss_cons (ps_expr (pe_bm PySem.F.plainAttrs_list PySem.F.slot_list_append PySem.F.type_list_append mt_append (pv 2) (pa_cons (pe_tup (pa_cons (pe_ix ix_seq (pv 3) pe_int (fun _ _ => rfl)) (pa_cons pe_non pa_nil))) pa_nil)))
                          (pss_one ps_continue)) pss_nil)
                      (pss_cons (ps_expr (pe_bm0 PySem.F.plainAttrs_list PySem.F.slot_list_pop PySem.F.type_list_pop mt_pop (pv 2)))
                        (pss_one (ps_set (i := 1) scFix.nd rfl (Or.inl rfl) (pe_tup pa_nil)))))))
                (pss_cons (ps_expr (pe_bm PySem.F.plainAttrs_list PySem.F.slot_list_append PySem.F.type_list_append mt_append (pv 4) (pa_cons (pv 1) pa_nil)))
                  (pss_cons (ps_if (pt_cmpR op_lt (pe_callB call_len (by rfl) B.len (by decide +kernel) (pa_cons (pv 4) pa_nil)) (pe_callB call_len (by rfl) B.len (by decide +kernel) (pa_cons (pv 3) pa_nil)) (nomark _))
                      (pss_cons (ps_expr (pe_bm PySem.F.plainAttrs_list PySem.F.slot_list_append PySem.F.type_list_append mt_append (pv 2) (pa_cons (pe_tup (pa_cons (pv 3) (pa_cons (pv 4) pa_nil))) pa_nil)))
                        (pss_cons (ps_expr (pe_bm PySem.F.plainAttrs_list PySem.F.slot_list_append PySem.F.type_list_append mt_append (pv 2) (pa_cons (pe_tup (pa_cons (pe_ix ix_seq (pv 3) (pe_callB call_len (by rfl) B.len (by decide +kernel) (pa_cons (pv 4) pa_nil)) (fun _ _ => rfl)) (pa_cons pe_non pa_nil))) pa_nil)))
                          (pss_one ps_continue))) pss_nil)
                    (pss_one (ps_set (i := 1) scFix.nd rfl (Or.inl rfl) (pe_tupleOf (by rfl) B.tuple (pv 4)))))))))
            (pss_one (ps_if (pt_cmpR (op_eqE hu) (pv 2) (pe_lst pa_nil) (nomark _)) (pss_one (ps_ret (pv 1))) pss_nil)))))
        (pss_one (ps_ret (pv 1)))), ?_⟩
    refine ⟨v, rfl, (by show 2 ≤ sizeLine; decide), fun t ht => ⟨(by show 1 ≤ sizeLine; decide), fun L hL => ⟨_, _, rfl, ?_⟩⟩⟩
    refine ⟨Head K H v d, ⟨2 * nodes d + 0, L, upd H t (.tup [v, .non]), [], d, [.ref t], ⟨Ex.new ht, Ex.new hL, hL, fun c hc => (by cases hc), by simp⟩, rfl, upd_same, .inl ⟨t, v, some .non, none, none, rfl, upd_same, Dx.ex (Ex.new ht) _ _ hd, rfl, rfl⟩⟩, ?_⟩
    intro m σ H1 hh
    obtain ⟨L, G, ctx, e, xs, mc, hf, hL1, hcase⟩ := hh
    have hsz := fit_nodes hf
    rcases hcase with ⟨t0, v1, dn0, o0, p0, rfl, ht0, hd0, rfl, rfl⟩ | ⟨c, cs, dv, o0, p0, rfl, rfl, hdv, rfl, rfl⟩
    · -- down
      refine ⟨_, rfl, Nat.zero_le _, fun b hb => ⟨L, b, _, rfl, rfl, SqL.of (Ex.new hb _ _ hL1), SqL.of upd_same, _, rfl, ?_⟩⟩
      have m2 := (mc.ex (Ex.new (o := .lst []) hb)).line (onLine ctx)
      have hL2 := Ex.new (o := .lst []) hb _ _ hL1
      rw [show (!(onLine ctx ++ [V.ref t0]).isEmpty) = true from by simp]
      refine iteT ⟨fun σ' H' => ∃ m', m' < 2 * nodes e + rest ctx ∧ Head K H v d m' σ' H', fun _ _ h => h, ?_⟩
      refine ⟨_, rfl, .inl ⟨rfl, _, SqL.of hL2⟩, L, _, _, rfl, rfl, hL2, last_snoc _ _, t0, [v1, .non], rfl, SqT.of ?_, rfl, v1, _, rfl, .non, _, rfl, rfl, ?_⟩
      · rw [List.dropLast_concat]
        exact m2.e1 _ _ ht0
      rw [List.dropLast_concat]
      refine ⟨_, rfl, v1, e, rfl, Dx.ex m2.e1 _ _ hd0, fun H3 e3 => ⟨_, rfl, ?_⟩⟩
      have m3 := m2.ex e3
      have hL3 : H3 L = some (.lst (onLine ctx)) := e3 _ _ upd_same
      have hp := nodes_pos e
      cases hr0 : isRow e with
      | false =>
        refine iteT ⟨v1, rfl, ?_⟩
        refine tail m3 hf hL3 (by rw [fix_leaf hr0]; exact hd0) (m := 2 * nodes e + rest ctx) (by omega) (fun u H' e' h' => k u H' e' h') (fun σ' H' m' hlt hh => ⟨m', hlt, hh⟩)
      | true =>
        obtain ⟨ds, hds⟩ := items_row hr0
        obtain ⟨a, ys, rfl, hsq, hys⟩ := row_at hd0 hds
        have hnd := nodes_items hds
        refine iteF ⟨.non, rfl, _, rfl, ?_⟩
        rw [show decide (V.non = V.non) = true from decide_eq_true rfl]
        refine iteT ?_
        -- line.append((one, []))
        refine ⟨_, rfl, .inl ⟨rfl, _, SqL.of hL3⟩, _, rfl, Nat.zero_le _, fun q hq => ⟨(by show 2 ≤ sizeLine; decide), fun t1 ht1 => ?_⟩⟩
        have hLq : upd H3 q (.lst []) L = some (.lst (onLine ctx)) := Ex.new hq _ _ hL3
        have gq : G q = none := fresh_back m3.e1 hq
        have gt1 : G t1 = none := fresh_back m3.e1 (fresh_back (Ex.new hq) ht1)
        have m4 := (m3.ex (Ex.new (o := .lst []) hq)).more (o := .tup [.ref a, .ref q]) hLq ht1
        have hL4 : upd (upd H3 q (.lst [])) t1 (.tup [.ref a, .ref q]) L = some (.lst (onLine ctx)) := Ex.new ht1 _ _ hLq
        have q4 : upd (upd H3 q (.lst [])) t1 (.tup [.ref a, .ref q]) q = some (.lst []) := Ex.new ht1 _ _ upd_same
        have nqL : q ≠ L := fun z => by rw [z, hL3] at hq; cases hq
        have nqt : q ≠ t1 := fun z => by rw [z] at ht1; rw [upd_same] at ht1; cases ht1
        refine ⟨L, _, _, rfl, rfl, hL4, sz1000 (by rw [onLine_len]; omega), ?_⟩
        have m5 := m4.line (onLine ctx ++ [.ref t1])
        have g1 : Ex G (upd G t1 (.tup [.ref a, .ref q])) := Ex.new gt1
        have hq5 : upd (upd (upd H3 q (.lst [])) t1 (.tup [.ref a, .ref q])) L (.lst (onLine ctx ++ [.ref t1])) q = some (.lst []) := by rw [upd_ne nqL]; exact q4
        have nqc : ∀ c ∈ ctx, c.q ≠ q := fun c hc z => by
          have y := (m3.ok c hc).2.2.2.2.2.1
          rw [z, hq] at y
          cases y
        -- done = None; if len(one) > 0
        have hsq5 := sq_ex (g1.trans m5.e1) hsq
        have hlen : ys.length = ds.length := hys.length
        refine ⟨_, rfl, _, _, rfl, lenV_sq hsq5, _, _, rfl, rfl, _, rfl, ?_⟩
        cases ds with
        | nil =>
          have e0 : ys = [] := List.length_eq_zero_iff.mp hlen
          subst e0
          refine iteF ⟨_, rfl, .inl ⟨rfl, _, SqL.of upd_same⟩, L, _, _, rfl, rfl, upd_same, last_snoc _ _, (by show 0 ≤ sizeLine; decide), fun t2 ht2 => ?_⟩
          rw [List.dropLast_concat] at ht2 ⊢
          rw [upd_upd] at ht2 ⊢
          have m6 := m4.line (onLine ctx)
          have m7 := m6.more (o := .tup []) upd_same ht2
          refine tail m7 hf (Ex.new ht2 _ _ upd_same) (by rw [fix_row hds]; exact .tup (st_of upd_same) .nil) (m := 2 * nodes e + rest ctx) (by omega) (fun u H' e' h' => k u H' e' h') (fun σ' H' m' hlt hh => ⟨m', hlt, hh⟩)
        | cons d1 ds =>
          cases ys with
          | nil => cases hlen
          | cons y1 ys =>
            rw [show decide ((0 : Int) < (((y1 :: ys).length : Nat) : Int)) = true from decide_eq_true (by rw [List.length_cons]; omega)]
            refine iteT ?_
            have hd1 : Dx K G y1 d1 := by cases hys; assumption
            refine ⟨_, rfl, .inl ⟨rfl, _, SqL.of upd_same⟩, _, rfl, ix_sq (i := 0) hsq5 rfl ⟨(by show 2 ≤ sizeLine; decide), fun t2 ht2 => ?_⟩⟩
            have m6 := m5.more (o := .tup [y1, .non]) upd_same ht2
            refine ⟨L, _, _, rfl, rfl, Ex.new ht2 _ _ upd_same, sz1000 (by rw [List.length_append, onLine_len]; simp; omega), ?_⟩
            have m7 := m6.line (onLine ctx ++ [.ref t1] ++ [.ref t2])
            have gt2 : upd G t1 (.tup [.ref a, .ref q]) t2 = none := fresh_back m5.e1 ht2
            have g2 : Ex (upd G t1 (.tup [.ref a, .ref q])) (upd (upd G t1 (.tup [.ref a, .ref q])) t2 (.tup [y1, .non])) := Ex.new gt2
            have nt2 : q ≠ t2 := ne_of_none hq5 ht2
            have m8 := m7.cons (c := ⟨t1, q, .ref a, e, d1 :: ds, 0, []⟩) ⟨g2 _ _ upd_same, Dx.ex (g1.trans g2) _ _ hd0, hds, Nat.succ_pos _, by rw [upd_ne nt2, upd_ne nqt]; exact gq, by rw [upd_ne nqL]; exact Ex.new ht2 _ _ hq5, .nil⟩ nqc (Ne.symm nqL)
            have hn1 := nodesAll.eq_2 d1 ds
            refine ⟨2 * nodes d1 + rest (⟨t1, q, .ref a, e, d1 :: ds, 0, []⟩ :: ctx), ?_, L, _, _, d1, _, m8, ⟨rfl, hds, hf⟩, upd_same, .inl ⟨t2, y1, _, _, _, ?_, upd_same, Dx.ex (g1.trans g2) _ _ hd1, rfl, rfl⟩⟩
            · show 2 * nodes d1 + (2 * nodesAll ds + 1 + rest ctx) < _
              omega
            · rw [onLine_cons]
    · -- up
      refine ⟨_, rfl, Nat.zero_le _, fun b hb => ⟨L, b, _, rfl, rfl, SqL.of (Ex.new hb _ _ hL1), SqL.of upd_same, _, rfl, ?_⟩⟩
      have m2 := (mc.ex (Ex.new (o := .lst []) hb)).line (onLine cs)
      have hL2 := Ex.new (o := .lst []) hb _ _ hL1
      obtain ⟨he, hrow, hf2⟩ := hf
      rw [onLine_cons] at hL2 ⊢
      rw [show (!(onLine cs ++ [V.ref c.t]).isEmpty) = true from by simp]
      refine iteT ⟨fun σ' H' => ∃ m', m' < rest (c :: cs) + 1 ∧ Head K H v d m' σ' H', fun _ _ h => h, ?_⟩
      have hct := (m2.ok c List.mem_cons_self).1
      refine ⟨_, rfl, .inl ⟨rfl, _, SqL.of hL2⟩, L, _, _, rfl, rfl, hL2, last_snoc _ _, c.t, [c.v, .ref c.q], rfl, SqT.of ?_, rfl, c.v, _, rfl, .ref c.q, _, rfl, rfl, ?_⟩
      · rw [List.dropLast_concat]
        exact m2.e1 _ _ hct
      rw [List.dropLast_concat]
      obtain ⟨h1, h2, h3, h4, h5, h6, h7⟩ := m2.ok c List.mem_cons_self
      refine ⟨_, rfl, c.v, c.row, rfl, Dx.ex m2.e1 _ _ h2, fun H3 e3 => ⟨_, rfl, ?_⟩⟩
      have m3 := m2.ex e3
      have hL3 : H3 L = some (.lst (onLine cs)) := e3 _ _ upd_same
      have hr0 : isRow c.row = true := by
        cases hc : c.row <;> rw [hc] at hrow <;> first | rfl | cases hrow
      rw [hr0]
      refine iteF ⟨.ref c.q, rfl, _, rfl, ?_⟩
      rw [show decide (V.ref c.q = V.non) = false from decide_eq_false (fun z => nomatch z)]
      refine iteF ?_
      -- parts.append(done)
      obtain ⟨m4, hall, nq, nL⟩ := m3.step he hdv
      have hq3 : H3 c.q = some (.lst c.dn) := e3 _ _ h6
      have hdl : c.dn.length = c.i := by
        rw [h7.length, fixAll_map, List.length_map, List.length_take]
        omega
      have hcl := (List.getElem?_eq_some_iff.mp he).1
      have hsz2 := fit_nodes hf2
      have hnr := nodes_items hrow
      have hnl := nodes_len c.ds
      refine ⟨_, rfl, .inl ⟨rfl, _, SqL.of hq3⟩, _, rfl, c.q, _, _, rfl, rfl, hq3, sz1000 (by omega), ?_⟩
      obtain ⟨a, ys, hv, hsq, hys⟩ := row_at h2 hrow
      have hlen : ys.length = c.ds.length := hys.length
      have h2' : Dx K G (.ref a) c.row := by
        rw [← hv]
        exact h2
      have hL4 : upd H3 c.q (.lst (c.dn ++ [dv])) L = some (.lst (onLine cs)) := by rw [upd_ne nL]; exact hL3
      rw [hv]
      refine ⟨_, rfl, _, _, rfl, .inl ⟨_, SqL.of upd_same, rfl⟩, _, rfl, _, _, rfl, lenV_sq (sq_ex m4.e1 hsq), _, _, rfl, rfl, _, rfl, ?_⟩
      have hdl2 : (c.dn ++ [dv]).length = c.i + 1 := by rw [List.length_append, hdl] <;> rfl
      by_cases hlt : c.i + 1 < c.ds.length
      · rw [show decide ((((c.dn ++ [dv]).length : Nat) : Int) < ((ys.length : Nat) : Int)) = true from decide_eq_true (by rw [hdl2, hlen]; omega)]
        refine iteT ?_
        -- line.append((one, parts))
        refine ⟨_, rfl, .inl ⟨rfl, _, SqL.of hL4⟩, _, rfl, _, rfl, (by show 2 ≤ sizeLine; decide), fun t3 ht3 => ?_⟩
        have m5 := m4.more (o := .tup [.ref a, .ref c.q]) hL4 ht3
        refine ⟨L, _, _, rfl, rfl, Ex.new ht3 _ _ hL4, sz1000 (by rw [onLine_len]; omega), ?_⟩
        have m6 := m5.line (onLine cs ++ [.ref t3])
        have gt3 : G t3 = none := fresh_back m4.e1 ht3
        have g1 : Ex G (upd G t3 (.tup [.ref a, .ref c.q])) := Ex.new gt3
        have nqt3 : c.q ≠ t3 := ne_of_none (upd_same (H := H3) (a := c.q) (o := .lst (c.dn ++ [dv]))) ht3
        have hq6 : upd (upd (upd H3 c.q (.lst (c.dn ++ [dv]))) t3 (.tup [.ref a, .ref c.q])) L (.lst (onLine cs ++ [.ref t3])) c.q = some (.lst (c.dn ++ [dv])) := by
          rw [upd_ne (Ne.symm nL), upd_ne nqt3, upd_same]
        have m7 := m6.cons (c := ⟨t3, c.q, .ref a, c.row, c.ds, c.i + 1, c.dn ++ [dv]⟩) ⟨upd_same, Dx.ex g1 _ _ h2', hrow, hlt, by rw [upd_ne nqt3]; exact h5, hq6, DxAll.ex g1 _ _ hall⟩ nq nL
        obtain ⟨y1, hy1, hdy⟩ := hys.get (List.getElem?_eq_getElem hlt)
        have hq7 := sq_ex (g1.trans m6.e1) hsq
        -- line.append((one[len(parts)], None))
        refine ⟨_, rfl, .inl ⟨rfl, _, SqL.of upd_same⟩, _, rfl, _, rfl, _, _, rfl, .inl ⟨_, SqL.of hq6, rfl⟩, ?_⟩
        rw [hdl2]
        refine ix_sq hq7 hy1 ⟨(by show 2 ≤ sizeLine; decide), fun t4 ht4 => ?_⟩
        have m8 := m7.more (o := .tup [y1, .non]) upd_same ht4
        refine ⟨L, _, _, rfl, rfl, Ex.new ht4 _ _ upd_same, sz1000 (by rw [List.length_append, onLine_len]; simp; omega), ?_⟩
        have m9 := m8.line (onLine cs ++ [.ref t3] ++ [.ref t4])
        have gt4 : upd G t3 (.tup [.ref a, .ref c.q]) t4 = none := fresh_back m6.e1 ht4
        have g2 : Ex (upd G t3 (.tup [.ref a, .ref c.q])) (upd (upd G t3 (.tup [.ref a, .ref c.q])) t4 (.tup [y1, .non])) := Ex.new gt4
        have hnd := nodes_drop (List.getElem?_eq_getElem hlt)
        refine ⟨2 * nodes c.ds[c.i + 1] + rest (⟨t3, c.q, .ref a, c.row, c.ds, c.i + 1, c.dn ++ [dv]⟩ :: cs), ?_, L, _, _, _, _, m9, ⟨List.getElem?_eq_getElem hlt, hrow, hf2⟩, upd_same, .inl ⟨t4, y1, _, _, _, ?_, upd_same, Dx.ex (g1.trans g2) _ _ hdy, rfl, rfl⟩⟩
        · show 2 * nodes c.ds[c.i + 1] + (2 * nodesAll (c.ds.drop (c.i + 1 + 1)) + 1 + rest cs) < 2 * nodesAll (c.ds.drop (c.i + 1)) + 1 + rest cs + 1
          omega
        · rw [onLine_cons]
      · rw [show decide ((((c.dn ++ [dv]).length : Nat) : Int) < ((ys.length : Nat) : Int)) = false from decide_eq_false (by rw [hdl2, hlen]; omega)]
        refine iteF ⟨_, rfl, .inl ⟨c.q, _, rfl, SqL.of upd_same, fun t4 ht4 => ?_⟩⟩
        have m5 := m4.more (o := .tup (c.dn ++ [dv])) hL4 ht4
        have gt4 : G t4 = none := fresh_back m4.e1 ht4
        refine tail m5 hf2 (Ex.new ht4 _ _ hL4) (by
          rw [fix_row hrow]
          rw [List.take_of_length_le (by omega)] at hall
          exact .tup (st_of upd_same) (DxAll.ex (Ex.new gt4) _ _ hall)) (m := rest (c :: cs) + 1) (by show rest cs + 1 < 2 * nodesAll (c.ds.drop (c.i + 1)) + 1 + rest cs + 1; omega) (fun u H' e' h' => k u H' e' h') (fun σ' H' m' hlt hh => ⟨m', hlt, hh⟩)
end
end K2
set_option Elab.async false
set_option linter.all false
set_option maxRecDepth 100000
set_option maxHeartbeats 4000000
namespace K78
open PySem L2 Evl DL
mutual
/-- data without objects of one's own -/
def plain : D → Bool
  | .lst ds => plains ds
  | .tup ds => plains ds
  | .pen => false
  | .obj _ _ _ => false
  | .non => true
  | .bl _ => true
  | .int _ => true
  | .str _ => true
  | .dct ks ds => ks.isEmpty && ds.isEmpty
  | .loc _ => false
def plains : List D → Bool
  | [] => true
  | d :: ds => plain d && plains ds
end
mutual
def toP : D → PyData
  | .non => .none
  | .bl b => .bool b
  | .int i => .int i
  | .str x => .str x
  | .lst ds => .list (toPs ds)
  | .tup ds => .tuple (toPs ds)
  | .dct _ _ => .dict []
  | .loc _ => .none
  | .pen => .none
  | .obj _ _ _ => .none
def toPs : List D → List PyData
  | [] => []
  | d :: ds => toP d :: toPs ds
end
mutual
def fixD : D → D
  | .lst ds => .tup (fixDs ds)
  | .tup ds => .tup (fixDs ds)
  | .non => .non
  | .bl b => .bl b
  | .int i => .int i
  | .str x => .str x
  | .dct ks ds => .dct ks ds
  | .loc a => .loc a
  | .pen => .pen
  | .obj C n d => .obj C n d
def fixDs : List D → List D
  | [] => []
  | d :: ds => fixD d :: fixDs ds
end
mutual
def nd : D → Nat
  | .lst ds => 1 + nds ds
  | .tup ds => 1 + nds ds
  | .non => 1
  | .bl _ => 1
  | .int _ => 1
  | .str _ => 1
  | .dct _ _ => 1
  | .loc _ => 1
  | .pen => 1
  | .obj _ _ _ => 1
def nds : List D → Nat
  | [] => 0
  | d :: ds => nd d + nds ds
end
mutual
theorem nd_toP : ∀ d : D, K2.nodes (toP d) = nd d
  | .lst ds => by rw [toP, K2.nodes, nd, nds_toP ds]
  | .tup ds => by rw [toP, K2.nodes, nd, nds_toP ds]
  | .non => rfl
  | .bl _ => rfl
  | .int _ => rfl
  | .str _ => rfl
  | .dct _ _ => rfl
  | .loc _ => rfl
  | .pen => rfl
  | .obj _ _ _ => rfl
theorem nds_toP : ∀ ds : List D, K2.nodesAll (toPs ds) = nds ds
  | [] => rfl
  | d :: ds => by rw [toPs, K2.nodesAll, nds, nd_toP d, nds_toP ds]
end
section
variable {K : PySem.W.Frag} {pen : Addr} {G H : Hp}
theorem sqT_part {a : Addr} {xs : List V} (h : SqT K G a xs) : SqT K (part G) a xs := by
  rcases h with (h | ⟨o, h⟩) | h
  · exact .inl (.inl (part_tup h))
  · exact .inl (.inr ⟨o, part_frz h⟩)
  · exact .inr h
mutual
theorem to2 : ∀ (d : D) (v : V), plain d = true → DL.Dx K pen G v d → K2.Dx K (part G) v (toP d)
  | .non, _, _, h => by cases h; exact .non
  | .bl b, _, _, h => by cases h; exact .bl b
  | .int i, _, _, h => by cases h; exact .int i
  | .str x, _, _, h => by cases h; exact .str x
  | .lst ds, _, l, h => by
    cases h with
    | lst hs ha => exact .lst (sq_of (part_lst hs)) (to2s ds _ l ha)
  | .tup ds, _, l, h => by
    cases h with
    | tup hs ha => exact .tup (sqT_part hs) (to2s ds _ l ha)
  | .dct ks ds, _, l, h => by
    rw [plain, Bool.and_eq_true, List.isEmpty_iff, List.isEmpty_iff] at l
    cases h with
    | dct hs hl ha =>
      obtain ⟨rfl, rfl⟩ := l
      exact .dct (part_dK hs)
  | .loc _, _, l, h => by cases l
  | .pen, _, l, h => by cases l
  | .obj _ _ _, _, l, h => by cases l
theorem to2s : ∀ (ds : List D) (vs : List V), plains ds = true → DL.DxAll K pen G vs ds → K2.DxAll K (part G) vs (toPs ds)
  | [], _, _, h => by cases h; exact .nil
  | d :: ds, _, l, h => by
    rw [plains, Bool.and_eq_true] at l
    cases h with
    | cons h1 h2 => exact .cons (to2 d _ l.1 h1) (to2s ds _ l.2 h2)
end
mutual
theorem of2 : ∀ (d : D) (v : V), plain d = true → K2.Dx K H v (K2.fix (toP d)) → DL.Dx K pen H v (fixD d)
  | .non, _, _, h => by cases h; exact .non
  | .bl b, _, _, h => by cases h; exact .bl b
  | .int i, _, _, h => by cases h; exact .int i
  | .str x, _, _, h => by cases h; exact .str x
  | .lst ds, _, l, h => by
    rw [toP, K2.fix] at h
    cases h with
    | tup hs ha => exact .tup hs (of2s ds _ l ha)
  | .tup ds, _, l, h => by
    rw [toP, K2.fix] at h
    cases h with
    | tup hs ha => exact .tup hs (of2s ds _ l ha)
  | .dct ks ds, _, l, h => by
    rw [plain, Bool.and_eq_true, List.isEmpty_iff, List.isEmpty_iff] at l
    obtain ⟨rfl, rfl⟩ := l
    rw [toP, K2.fix] at h
    cases h with
    | dct hs => exact .dct (xs := []) hs rfl .nil
  | .pen, _, l, h => by cases l
  | .loc _, _, l, h => by cases l
  | .obj _ _ _, _, l, h => by cases l
theorem of2s : ∀ (ds : List D) (vs : List V), plains ds = true → K2.DxAll K H vs (K2.fixAll (toPs ds)) → DL.DxAll K pen H vs (fixDs ds)
  | [], _, _, h => by
    rw [toPs, K2.fixAll] at h
    cases h; exact .nil
  | d :: ds, _, l, h => by
    rw [plains, Bool.and_eq_true] at l
    rw [toPs, K2.fixAll] at h
    cases h with
    | cons h1 h2 => exact .cons (of2 d _ l.1 h1) (of2s ds _ l.2 h2)
end
end
def sp_fixed : DSp := fun ds n Qd _ => ∃ d, ds = [d] ∧ plain d = true ∧ nd d ≤ 1000 ∧ Qd (fixD d) n
theorem ok_fixedD {P : Program} {w : World} {K : PySem.W.Frag} {mg : Str → Option Value} {base : Heap} {k : Nat} {f : Addr} {fd : FuncData} (F : FnOk P w K mg base CX0 k f fd ["value"] (K2.spFix K)) : FnOk P w K mg base (L2.CX P w) k f fd ["value"] (spD K sp_fixed) :=
  okFrame F (fun ds n Qd Qe h => by
    obtain ⟨d, rfl, _⟩ := h
    rfl) fun pen G n vs ds Qd Qe hd h => by
      obtain ⟨d, rfl, hp, hn, q⟩ := h
      cases hd with
      | cons h1 h2 =>
        cases h2
        exact ⟨_, toP d, rfl, to2 d _ hp h1, by rw [nd_toP]; exact hn, fun u H' e hu => ⟨e, fixD d, of2 d u hp hu, q⟩⟩
end K78
set_option Elab.async false
set_option linter.all false
set_option maxRecDepth 100000
set_option maxHeartbeats 4000000
namespace K2
open PySem L2 Evl
theorem bLen : bootBuiltins "len" = some (.builtin "len") := by decide +kernel
section
variable {K : PySem.W.Frag} {σ : L2.St} {H : Hp} {ta : TE} {y : V} {t : PyData}
/-- len of a row -/
def rLenV (K : PySem.W.Frag) : List V → Hp → VK → Prop := fun xs H Q => ∃ x n, xs = [x] ∧ LenV K x H n ∧ Q (.int n) H
theorem ev_lenV {a : Addr} {xs : List V} (ha : Ev ta σ H (.ref a)) (h : SqL K H a xs ∨ SqT K H a xs) : Ev (tCB (rLenV K) (tCons ta tNil)) σ H (.int (xs.length : Nat)) := ev_cb (ea_cons ha ea_nil) fun H1 e Q q => ⟨_, _, rfl, lenV_sq (sq_ex e h), q H1 (Ex.refl H1)⟩
theorem rv_ixQ {a : Addr} {xs : List V} {i : Nat} {v : V} (h : SqL K H a xs ∨ SqT K H a xs) (hi : xs[i]? = some v) : RV (rIx K) (.ref a) (.int (i : Int)) H v := fun H1 e Q q => ix_sq (sq_ex e h) hi (q H1 (Ex.refl H1))
end
end K2
namespace K2
open PySem L2 Evl
/-! ### the pen -/
/-- all but the pen stays -/
def ExP (pen : Addr) (H H' : Hp) : Prop := (∀ a o, a ≠ pen → H a = some o → H' a = some o) ∧ ∀ c r, H pen = some (.lst (.ref c :: r)) → ∃ r', H' pen = some (.lst (.ref c :: r'))
theorem ExP.refl (pen : Addr) (H : Hp) : ExP pen H H := ⟨fun _ _ _ h => h, fun c r h => ⟨r, h⟩⟩
theorem ExP.trans {pen : Addr} {H H1 H2 : Hp} (a : ExP pen H H1) (b : ExP pen H1 H2) : ExP pen H H2 := ⟨fun x o n h => b.1 x o n (a.1 x o n h), fun c r h => let ⟨r', h'⟩ := a.2 c r h; b.2 c r' h'⟩
theorem _root_.Evl.Ex.toP {pen : Addr} {H H' : Hp} (e : Ex H H') : ExP pen H H' := ⟨fun a o _ h => e a o h, fun c r h => ⟨r, e _ _ h⟩⟩
def PenS (pen : Addr) (T : Nat) (H : Hp) : Prop := ∃ (c : Addr) (cs : List Int) (n : Nat) (r : Int), H pen = some (.lst [.ref c, .int (n : Int), .int r]) ∧ H c = some (.lst (cs.map V.int)) ∧ cs.length ≤ 63 ∧ n ≤ T
theorem PenS.ex {pen : Addr} {T : Nat} {H H' : Hp} (h : PenS pen T H) (e : Ex H H') : PenS pen T H' := by
  obtain ⟨c, cs, n, r, h1, h2, h3⟩ := h
  exact ⟨c, cs, n, r, e _ _ h1, e _ _ h2, h3⟩
theorem PenS.le {pen : Addr} {T T' : Nat} {H : Hp} (h : PenS pen T H) (l : T ≤ T') : PenS pen T' H := by
  obtain ⟨c, cs, n, r, h1, h2, h3, h4⟩ := h
  exact ⟨c, cs, n, r, h1, h2, h3, Nat.le_trans h4 l⟩
theorem pen_ne {H : Hp} {pen c : Addr} {cs : List Int} {a b : V} (h1 : H pen = some (.lst [.ref c, a, b])) (h2 : H c = some (.lst (cs.map V.int))) : c ≠ pen := by
  intro z
  rw [z, h1] at h2
  cases cs with
  | nil => cases h2
  | cons _ _ => cases h2
abbrev sPen : Stmt := top 43
abbrev sDraw : Stmt := top 44
abbrev sPick : Stmt := top 45
def spPen (K : PySem.W.Frag) : Sp := fun vs H Q _ => ∃ (a : Addr) (ns : List Int), vs = [.ref a] ∧ SqL K H a (ns.map V.int) ∧ ns.length ≤ 63 ∧ ∀ pen H', H pen = none → Ex H H' → PenS pen 0 H' → Q (.ref pen) H'
def spDraw : Sp := fun vs H Q _ => ∃ (pen : Addr) (m T : Nat), vs = [.ref pen, .int (m : Int)] ∧ 0 < m ∧ m < 1000000 ∧ PenS pen T H ∧ T < 1000000 ∧ ∀ (j : Nat) H', j < m → ExP pen H H' → PenS pen (T + 1) H' → Q (.int (j : Int)) H'
def nDraw : List Str := ["pen", "many", "rest", "turn", "cell", "mixed"]
theorem scPen : FnScope ["script", "cell"] ["script"] (defScope sPen) := ⟨rfl, rfl, rfl, by decide +kernel, rfl, by decide +kernel, by decide +kernel⟩
theorem scDraw : FnScope nDraw ["pen", "many"] (defScope sDraw) := ⟨rfl, rfl, rfl, by decide +kernel, rfl, by decide +kernel, by decide +kernel⟩
theorem bInt : bootBuiltins "int" = some (.type "int") := by decide +kernel
theorem bAbs : bootBuiltins "abs" = some (.builtin "abs") := by decide +kernel
def cellV (cs : List Int) (n : Nat) : Int := if cs.isEmpty = true then 61129 * (n : Int) + 7919 else cs.getD (n % cs.length) 0
def rInt1 : List V → Hp → VK → Prop := fun xs H Q => (∃ i, xs = [.int i] ∧ Q (.int i) H) ∨ ∃ k, xs = [.bl k] ∧ Q (.int (if k then 1 else 0)) H
section
variable {σ : L2.St} {H : Hp} {ta : TE} {i : Int} {k : Bool}
theorem ev_int (h : Ev ta σ H (.int i)) : Ev (tCB rInt1 (tCons ta tNil)) σ H (.int i) := ev_cb (ea_cons h ea_nil) fun H1 _ Q q => .inl ⟨i, rfl, q H1 (Ex.refl H1)⟩
theorem ev_intB (h : Ev ta σ H (.bl k)) : Ev (tCB rInt1 (tCons ta tNil)) σ H (.int (if k then 1 else 0)) := ev_cb (ea_cons h ea_nil) fun H1 _ Q q => .inr ⟨k, rfl, q H1 (Ex.refl H1)⟩
def rAbs : List V → Hp → VK → Prop := fun xs H Q => ∃ i, xs = [.int i] ∧ Q (.int (if i < 0 then -i else i)) H
theorem ev_abs (h : Ev ta σ H (.int i)) : Ev (tCB rAbs (tCons ta tNil)) σ H (.int (if i < 0 then -i else i)) := ev_cb (ea_cons h ea_nil) fun H1 _ Q q => ⟨i, rfl, q H1 (Ex.refl H1)⟩
theorem fin_mod {Q : VK} {x : Int} {m : Nat} (hm : 0 < m) (k : ∀ j : Nat, j < m → Q (.int (j : Int)) H) : Q (.int (x % (m : Int))) H := by
  have h0 : (0 : Int) ≤ x % (m : Int) := Int.emod_nonneg _ (by omega)
  have h1 : x % (m : Int) < (m : Int) := Int.emod_lt_of_pos _ (by omega)
  have h := k (x % (m : Int)).toNat (by omega)
  rw [Int.toNat_of_nonneg h0] at h
  exact h
theorem mul_bd {a b A B : Int} (h0 : 0 ≤ a) (h1 : a ≤ A) (h2 : 0 ≤ b) (h3 : b ≤ B) : 0 ≤ a * b ∧ a * b ≤ A * B :=
  ⟨Int.mul_nonneg h0 h2, Int.mul_le_mul h1 h3 h2 (Int.le_trans h0 h1)⟩
theorem powok {b : Int} {e : Int} (h0 : 0 ≤ e) (h1 : e ≤ 1000000) (h2 : 0 ≤ b) (h3 : b < 18446744073709551616) : CPow b e := ⟨h0, h1, by omega⟩
end
section
variable {P : Program} {w : World} {K : PySem.W.Frag} {mg : Str → Option Value} {base : Heap}
theorem ok_draw {f : Addr} {fd : FuncData} (F : Fun K "_law_draw" "_law_draw" sDraw f fd) (B : Bl mg) : FnOk P w K mg base CX0 1 f fd ["pen", "many"] spDraw := by
  refine F.ok scDraw (fun vs H Q E h => ?_) (fun cdv A outer s H vs Q E hr h => ?_)
  · obtain ⟨pen, m, T, rfl, _⟩ := h
    rfl
  · obtain ⟨pen, m, T, rfl, hm0, hm1, hP, hT, k⟩ := h
    have hu : (cxOf CX0 P w K mg base nDraw "_law_draw" (defScope sDraw) f cdv A outer s H E).nox.A.units < cLine := Nat.lt_of_le_of_lt (Nat.le_succ _) (hu_of hr)
    refine ⟨_, pss_cons (ps_if (pt_cmpR op_gt (pe_ix ix_seq (pv 0) pe_int (fun _ _ => rfl)) pe_int (nomark _))
        (pss_cons (ps_set (i := 2) scDraw.nd rfl (Or.inl rfl) (pe_callTy call_int1 (by rfl) B.int bInt (pa_cons (pe_ix ix_seq (pv 0) pe_int (fun _ _ => rfl)) pa_nil)))
          (pss_cons (ps_asg (pe_op op_fdiv (pv 2) (pv 1)) (pg_sub (pv 0) pe_int set_list))
            (pss_one (ps_ret (pe_op op_mod (pe_callTy call_int1 (by rfl) B.int bInt (pa_cons (pv 2) pa_nil)) (pv 1)))))) pss_nil)
      (pss_cons (ps_set (i := 3) scDraw.nd rfl (Or.inl rfl) (pe_ix ix_seq (pv 0) pe_int (fun _ _ => rfl)))
        (pss_cons (ps_asg (pe_op op_add (pv 3) pe_int) (pg_sub (pv 0) pe_int set_list))
          (pss_cons (ps_set (i := 4) scDraw.nd rfl (Or.inl rfl) (pe_op op_add (pe_op op_mul pe_int (pv 3)) pe_int))
            (pss_cons (ps_if (pt_cmpR (op_neE hu) (pe_ix ix_seq (pv 0) pe_int (fun _ _ => rfl)) (pe_lst pa_nil) (nomark _))
                (pss_one (ps_set (i := 4) scDraw.nd rfl (Or.inl rfl) (pe_ix ix_seq (pe_ix ix_seq (pv 0) pe_int (fun _ _ => rfl)) (pe_op op_mod (pe_callTy call_int1 (by rfl) B.int bInt (pa_cons (pv 3) pa_nil)) (pe_callB call_len (by rfl) B.len bLen (pa_cons (pe_ix ix_seq (pv 0) pe_int (fun _ _ => rfl)) pa_nil))) (fun _ _ => rfl)))) pss_nil)
              (pss_cons (ps_if (pw_and (pt_cmpR op_lt (pv 3) (pe_callB call_len (by rfl) B.len bLen (pa_cons (pe_ix ix_seq (pv 0) pe_int (fun _ _ => rfl)) pa_nil)) (nomark _))
                    (pw_and1 (pt_cmpR op_ge (pe_callB call_abs (by rfl) B.abs bAbs (pa_cons (pv 4) pa_nil)) (pe_op op_pow pe_int pe_int) (nomark _)))).pt
                  (pss_cons (ps_set (i := 2) scDraw.nd rfl (Or.inl rfl) (pe_op op_add (pe_op op_mul pe_int (pe_op op_sub (pe_callB call_abs (by rfl) B.abs bAbs (pa_cons (pv 4) pa_nil)) (pe_op op_pow pe_int pe_int))) (pe_callTy call_int1 (by rfl) B.int bInt (pa_cons (pe_cmpR op_lt (pv 4) pe_int (nomark _)) pa_nil))))
                    (pss_cons (ps_asg (pe_op op_fdiv (pe_callTy call_int1 (by rfl) B.int bInt (pa_cons (pv 2) pa_nil)) (pv 1)) (pg_sub (pv 0) pe_int set_list))
                      (pss_one (ps_ret (pe_op op_mod (pe_callTy call_int1 (by rfl) B.int bInt (pa_cons (pv 2) pa_nil)) (pv 1)))))) pss_nil)
                (pss_cons (ps_set (i := 5) scDraw.nd rfl (Or.inl rfl) (pe_op op_mod (pe_callTy call_int1 (by rfl) B.int bInt (pa_cons (pe_op op_pow (pe_op op_add (pe_op op_add (pe_op op_mod (pe_callTy call_int1 (by rfl) B.int bInt (pa_cons (pv 4) pa_nil)) pe_int) (pe_op op_mul pe_int (pv 3))) pe_int) pe_int) pa_nil)) pe_int))
                  (pss_cons (ps_set (i := 5) scDraw.nd rfl (Or.inl rfl) (pe_op op_mod (pe_callTy call_int1 (by rfl) B.int bInt (pa_cons (pe_op op_pow (pe_op op_add (pe_op op_add (pe_op op_mul (pv 5) (pe_op op_add (pe_op op_mul pe_int (pv 3)) pe_int)) (pe_op op_mul (pe_op op_mul pe_int (pv 3)) (pv 3))) pe_int) pe_int) pa_nil)) pe_int))
                    (pss_one (ps_ret (pe_op op_mod (pe_callTy call_int1 (by rfl) B.int bInt (pa_cons (pe_op op_fdiv (pv 5) pe_int) pa_nil)) (pv 1))))))))))), ?_⟩
    obtain ⟨c, cs, n, r, h1, h2, h3, h4⟩ := hP
    have hcp := pen_ne h1 h2
    have hmm : CDiv r (m : Int) := ⟨by omega, by omega⟩
    have fin : ∀ (x : Int) (n' : Nat) (r' : Int) (H1 H2 : Hp), n' ≤ T + 1 → ExP pen H H1 → H1 c = some (.lst (cs.map V.int)) → Ex (upd H1 pen (.lst [.ref c, .int (n' : Int), .int r'])) H2 → Q (.int (x % (m : Int))) H2 := fun x n' r' H1 H2 hn' e1 hc1 e2 =>
      fin_mod hm0 fun j hj => k j H2 hj ⟨fun a o ne ha => e2 _ _ (by rw [upd_ne ne]; exact e1.1 a o ne ha), fun c' r2 h' => by rw [h1] at h'; cases h'; exact ⟨_, e2 _ _ upd_same⟩⟩ ⟨c, cs, n', r', e2 _ _ upd_same, e2 _ _ (by rw [upd_ne hcp]; exact hc1), h3, hn'⟩
    refine q_when (b := decide (0 < r)) (et_test (ev_op (ev_op (ev_var rfl) ev_c (rv_ixQ (i := 2) (.inl (SqL.of h1)) rfl)) ev_c rv_I0)) (fun hb H1 e1 => ?_) (fun hb H1 e1 => ?_)
    · refine q_asg (ev_int (ev_op (ev_var rfl) ev_c (rv_ixQ (i := 2) (.inl (SqL.of (e1 _ _ h1))) rfl))) fun H2 e2 => ?_
      refine q_setL (j := 2) ((e1.trans e2) _ _ h1) (ev_op (ev_var rfl) (ev_var rfl) (rv_I hmm)) (ev_var rfl) ev_c (by simp) fun H3 e3 => ?_
      refine s_ret (ev_op (ev_int (ev_var rfl)) (ev_var rfl) (rv_I (show (0 : Int) < (m : Int) by omega))) fun H4 e4 => ?_
      exact fin r n _ H3 H4 (by omega) ((e1.trans e2).trans e3).toP (((e1.trans e2).trans e3) _ _ h2) e4
    · refine q_asg (ev_op (ev_var rfl) ev_c (rv_ixQ (i := 1) (.inl (SqL.of (e1 _ _ h1))) rfl)) fun H2 e2 => ?_
      refine q_setL (j := 1) (v := .int ((n + 1 : Nat) : Int)) ((e1.trans e2) _ _ h1) (ev_is (ev_op (ev_var rfl) ev_c rv_I0) (by push_cast; rfl)) (ev_var rfl) ev_c (by simp) fun H3 e3 => ?_
      have e03 := (e1.trans e2).trans e3
      have g1 : upd H3 pen (.lst ([V.ref c, .int (n : Int), .int r].set 1 (.int ((n + 1 : Nat) : Int)))) pen = some (.lst [.ref c, .int ((n + 1 : Nat) : Int), .int r]) := upd_same
      have g2 : upd H3 pen (.lst ([V.ref c, .int (n : Int), .int r].set 1 (.int ((n + 1 : Nat) : Int)))) c = some (.lst (cs.map V.int)) := by rw [upd_ne hcp]; exact e03 _ _ h2
      have g0 : ExP pen H (upd H3 pen (.lst ([V.ref c, .int (n : Int), .int r].set 1 (.int ((n + 1 : Nat) : Int))))) := ⟨fun a o ne ha => by rw [upd_ne ne]; exact e03 _ _ ha, fun c' r2 h' => by rw [h1] at h'; cases h'; exact ⟨_, g1⟩⟩
      generalize upd H3 pen (.lst ([V.ref c, .int (n : Int), .int r].set 1 (.int ((n + 1 : Nat) : Int)))) = H4 at g0 g1 g2
      refine q_asg (v := .int (61129 * (n : Int) + 7919)) (ev_op (ev_op ev_c (ev_var rfl) (rv_I (.inl ⟨by decide, by decide⟩))) ev_c rv_I0) fun H5 e5 => ?_
      refine q_ifAsg (b := !cs.isEmpty) (v := .int (cellV cs n)) (et_test (ev_is (ev_opL (xs := []) (ev_op (ev_var rfl) ev_c (rv_ixQ (i := 0) (v := .ref c) (.inl (SqL.of (e5 _ _ g1))) rfl)) (el_lst ea_nil (by decide)) fun p H6 hp e6 H7 e7 Q1 q1 => ⟨c, p, cs.map V.int, rfl, rfl, SqL.of ((e5.trans (e6.trans e7)) _ _ g2), SqL.of (e7 _ _ hp), q1 _ (Ex.refl _)⟩) (by rw [List.isEmpty_map]))) (fun hb => ?_) (fun hb => ?_) (fun H6 e6 => ?_)
      · have hl : 0 < cs.length := by
          cases cs with
          | nil => cases hb
          | cons _ _ => exact Nat.succ_pos _
        refine ev_op (ev_op (ev_var rfl) ev_c (rv_ixQ (i := 0) (v := .ref c) (.inl (SqL.of (e5 _ _ g1))) rfl)) (ev_is (w := .int ((n % cs.length : Nat) : Int)) (ev_op (ev_int (ev_var rfl)) (ev_lenV (xs := cs.map V.int) (ev_op (ev_var rfl) ev_c (rv_ixQ (i := 0) (v := .ref c) (.inl (SqL.of (e5 _ _ g1))) rfl)) (.inl (SqL.of (e5 _ _ g2)))) (rv_I (by rw [List.length_map]; exact Int.natCast_pos.mpr hl))) (by rw [List.length_map]; rfl)) (rv_ixQ (.inl (SqL.of (e5 _ _ g2))) ?_)
        have hlt := Nat.mod_lt n hl
        rw [List.getElem?_map, List.getElem?_eq_getElem hlt]
        unfold cellV
        rw [if_neg (by cases cs with | nil => cases hb | cons _ _ => simp), List.getD_eq_getElem?_getD, List.getElem?_eq_getElem hlt] <;> rfl
      · unfold cellV
        rw [if_pos (by cases cs with | nil => rfl | cons _ _ => cases hb)] <;> rfl
      · have hc0 : ∀ H', Ex H6 H' → SqL K H' pen [.ref c, .int ((n + 1 : Nat) : Int), .int r] := fun H' e => SqL.of (e _ _ ((e5.trans e6) _ _ g1))
        have e46 := e5.trans e6
        generalize cellV cs n = x
        refine q_when (b := decide ((n : Int) < ((cs.map V.int).length : Nat)) && decide ((10 : Int) ^ (18 : Int).toNat ≤ (if x < 0 then -x else x))) (et_and (et_test (ev_op (ev_var rfl) (ev_lenV (xs := cs.map V.int) (ev_op (ev_var rfl) ev_c (rv_ixQ (i := 0) (v := .ref c) (.inl (SqL.of (e46 _ _ g1))) rfl)) (.inl (SqL.of (e46 _ _ g2)))) rv_I0)) (fun _ => et_test (ev_op (ev_abs (ev_var rfl)) (ev_op ev_c ev_c (rv_I ⟨by decide, by decide, by decide⟩)) rv_I0))) (fun hb H7 e7 => ?_) (fun hb H7 e7 => ?_)
        · refine q_asg (ev_op (ev_op ev_c (ev_op (ev_abs (ev_var rfl)) (ev_op ev_c ev_c (rv_I ⟨by decide, by decide, by decide⟩)) rv_I0) (rv_I (.inl ⟨by decide, by decide⟩))) (ev_intB (ev_op (ev_var rfl) ev_c rv_I0)) rv_I0) fun H8 e8 => ?_
          generalize 2 * ((if x < 0 then -x else x) - (10 : Int) ^ (18 : Int).toNat) + (if decide (x < 0) = true then 1 else 0) = y
          refine q_setL (j := 2) (((e46.trans e7).trans e8) _ _ g1) (ev_op (ev_int (ev_var rfl)) (ev_var rfl) (rv_I (show CDiv y (m : Int) from ⟨by omega, by omega⟩))) (ev_var rfl) ev_c (by simp) fun H9 e9 => ?_
          have e49 := ((e46.trans e7).trans e8).trans e9
          refine s_ret (ev_op (ev_int (ev_var rfl)) (ev_var rfl) (rv_I (show (0 : Int) < (m : Int) by omega))) fun H10 e10 => ?_
          exact fin y (n + 1) _ H9 H10 (by omega) (g0.trans e49.toP) (e49 _ _ g2) e10
        · have hn : (n : Int) ≤ 1000000 := by omega
          have b1 : 0 ≤ x % 2147483563 + 61129 * (n : Int) + 7919 ∧ x % 2147483563 + 61129 * (n : Int) + 7919 < 18446744073709551616 := by omega
          refine q_asg (ev_op (ev_int (ev_op (ev_op (ev_op (ev_op (ev_int (ev_var rfl)) ev_c (rv_I (by decide))) (ev_op ev_c (ev_var rfl) (rv_I (.inl ⟨by decide, by decide⟩))) rv_I0) ev_c rv_I0) ev_c (rv_I (powok (by decide) (by decide) b1.1 b1.2)))) ev_c (rv_I (by decide))) fun H8 e8 => ?_
          generalize hM : (x % 2147483563 + 61129 * (n : Int) + 7919) ^ (5 : Int).toNat % 2147483629 = M
          have hM0 : 0 ≤ M ∧ M ≤ 2147483629 := by omega
          have b2 := mul_bd (A := 2147483629) (B := 2007919) hM0.1 hM0.2 (show (0 : Int) ≤ 2 * (n : Int) + 7919 by omega) (by omega)
          have b3 := mul_bd (A := 44017000000) (B := 1000000) (show (0 : Int) ≤ 44017 * (n : Int) by omega) (by omega) (show (0 : Int) ≤ (n : Int) by omega) hn
          have b4 : 0 ≤ M * (2 * (n : Int) + 7919) + 44017 * (n : Int) * (n : Int) + 61129 ∧ M * (2 * (n : Int) + 7919) + 44017 * (n : Int) * (n : Int) + 61129 < 18446744073709551616 := by omega
          refine q_asg (ev_op (ev_int (ev_op (ev_op (ev_op (ev_op (ev_var rfl) (ev_op (ev_op ev_c (ev_var rfl) (rv_I (.inl ⟨by decide, by decide⟩))) ev_c rv_I0) (rv_I (.inl ⟨by omega, by omega⟩))) (ev_op (ev_op ev_c (ev_var rfl) (rv_I (.inl ⟨by decide, by decide⟩))) (ev_var rfl) (rv_I (.inr ⟨by omega, by omega⟩))) rv_I0) ev_c rv_I0) ev_c (rv_I (powok (by decide) (by decide) b4.1 b4.2)))) ev_c (rv_I (by decide))) fun H9 e9 => ?_
          refine s_ret (ev_op (ev_int (ev_op (ev_var rfl) ev_c (rv_I ⟨by decide, by decide⟩))) (ev_var rfl) (rv_I (show (0 : Int) < (m : Int) by omega))) fun H10 e10 => ?_
          have e410 := (((e46.trans e7).trans e8).trans e9).trans e10
          exact fin_mod hm0 fun j hj => k j H10 hj (g0.trans e410.toP) ⟨c, cs, n + 1, r, e410 _ _ g1, e410 _ _ g2, h3, by omega⟩
end
end K2
set_option Elab.async false
set_option linter.all false
set_option maxRecDepth 100000
set_option maxHeartbeats 4000000
namespace K2
open PySem L2 Evl
open K78 (top)
theorem given_list {α : Type} (xs : List α) (p : α → Bool) (g : α → V) {f : Nat → Bool} {v : Nat → V} (hf : ∀ i x, xs[i]? = some x → f i = p x) (hv : ∀ i x, xs[i]? = some x → v i = g x) : given xs.length f v = (xs.filter p).map g := by
  have key : ∀ n, n ≤ xs.length → given n f v = ((xs.take n).filter p).map g := by
    intro n
    induction n with
    | zero => intro _; rfl
    | succ n ih =>
      intro hn
      have hx : xs[n]? = some xs[n] := List.getElem?_eq_getElem (by omega)
      have ht : xs.take (n + 1) = xs.take n ++ [xs[n]] := by rw [List.take_succ, hx] <;> rfl
      rw [ht, List.filter_append, List.map_append]
      cases hp : f n with
      | true =>
        rw [given_yes hp, ih (by omega), hv n _ hx]
        have e : p xs[n] = true := by rw [← hf n _ hx, hp]
        simp [List.filter_cons, e]
      | false =>
        rw [given_no hp, ih (by omega)]
        have e : p xs[n] = false := by rw [← hf n _ hx, hp]
        simp [List.filter_cons, e]
  have q := key xs.length (Nat.le_refl _)
  rw [List.take_length] at q
  exact q
section
variable {K : PySem.W.Frag} {σ : L2.St} {H : Hp} {te tl : TE} {t : TT} {vs : List Nat} {j : Nat}
/-- [e for y in new list if t] -/
theorem el_lcAN {xs : List V} (p : V → Bool) (g : V → V) (h : EvL tl σ H xs) (hz : xs.length ≤ 40000) (hw : ∀ x, wipe ((wipe σ vs).set j (some x)) vs = wipe σ vs)
    (ht : ∀ (x : V) H1, Ex H H1 → x ∈ xs → EvT t ((wipe σ vs).set j (some x)) H1 (p x)) (he : ∀ (x : V) H1, Ex H H1 → x ∈ xs → p x = true → Ev te ((wipe σ vs).set j (some x)) H1 (g x)) :
    EvL (tLc (iList K tl) (gName j) t te vs) σ H ((xs.filter p).map g) := by
  obtain ⟨f, hf⟩ : ∃ f : Nat → Bool, ∀ i c, xs[i]? = some c → f i = p c := ⟨fun i => match xs[i]? with | some c => p c | none => false, fun i c e => by simp only [e]⟩
  obtain ⟨v, hv⟩ : ∃ v : Nat → V, ∀ i c, xs[i]? = some c → v i = g c := ⟨fun i => match xs[i]? with | some c => g c | none => .non, fun i c e => by simp only [e]⟩
  rw [← given_list xs p g hf hv]
  refine el_lcNL f v h hz hw (fun i x H1 e hi => et_is (ht x H1 e (List.mem_of_getElem? hi)) (hf i x hi).symm) fun i x H1 e hi hp => ?_
  rw [hv i x hi]
  exact he x H1 e (List.mem_of_getElem? hi) (by rw [← hf i x hi]; exact hp)
end
theorem et_yes : EvT tYes σ H true := fun H1 _ Q q => q H1 (Ex.refl H1)
theorem s_pen {σ : L2.St} {H : Hp} {te : TE} {xs : List V} {D : Ends} {a b : V} (h : EvL te σ H xs) (k : ∀ c p H1 H2, H c = none → H p = none → Ex H H1 → H2 c = some (.lst xs) → Ex H H2 → H2 p = some (.lst [.ref c, a, b]) → D.rt (.ref p) H2) : tRet (tLst (tCons te (tCons (tC a) (tCons (tC b) tNil)))) D σ H :=
  h H (Ex.refl H) _ fun c H1 hc e1 h1 => ⟨(by show 3 ≤ sizeLine; decide), fun pen hp => k c pen H1 _ hc (fresh_back e1 hp) e1 (Ex.new hp _ _ h1) (e1.trans (Ex.new hp)) upd_same⟩

section
variable {P : Program} {w : World} {K : PySem.W.Frag} {mg : Str → Option Value} {base : Heap}
theorem ok_pen {f : Addr} {fd : FuncData} (F : Fun K "_law_pen" "_law_pen" sPen f fd) (B : Bl mg) : FnOk P w K mg base CX0 1 f fd ["script"] (spPen K) := by
  refine F.ok scPen (fun vs H Q E h => ?_) (fun cdv A outer s H vs Q E hr h => ?_)
  · obtain ⟨a, ns, rfl, _⟩ := h
    rfl
  · obtain ⟨a, ns, rfl, ha, hn, k⟩ := h
    refine ⟨_, pss_one (ps_ret (pe_lst (pa_cons (pe_lc (own := [("cell", 1)]) (g := gName 1) (tt := tYes) (te := tCB rInt1 (tCons (tVar 1) tNil)) rfl scPen.nd (pi_list (pe_slice sl_list (pv 0) po_none (po_some pe_int))) (blkOk_by (N := ["script", "cell"]) (sc := defScope sPen) (by decide +kernel))
      (fun _ _ _ _ _ => pg_name (i := 1) scPen.nd rfl (Or.inl rfl)) (fun _ _ _ _ _ => pts_nil) (fun _ _ _ _ _ => pe_callTy call_int1 (by rfl) B.int bInt (pa_cons (pv 1) pa_nil))) (pa_cons pe_int (pa_cons pe_int pa_nil))))), ?_⟩
    have hcl := cutV_length (ns.map V.int) none (some 63)
    rw [List.length_map] at hcl
    obtain ⟨cs, hcs, hcl2⟩ : ∃ cs : List Int, cutV (ns.map V.int) none (some 63) = cs.map V.int ∧ cs.length ≤ 63 := by
      refine ⟨(ns.drop (HT.sIx (ns.map V.int).length 0 none)).take (HT.sIx (ns.map V.int).length (ns.map V.int).length (some 63) - HT.sIx (ns.map V.int).length 0 none), ?_, ?_⟩
      · unfold cutV
        rw [← List.map_drop, ← List.map_take]
      · rw [List.length_take, List.length_drop]
        omega
    have hl := el_lcAN (K := K) (σ := [some (.ref a), none]) (H := H) (te := tCB rInt1 (tCons (tVar 1) tNil)) (tl := tSl (rSlL K) (tVar 0) tNoPart (tPart (tC (.int 63)))) (t := tYes) (vs := [1]) (j := 1) (xs := cutV (ns.map V.int) none (some 63)) (fun _ => true) id
      (el_sl (ev_var rfl) (eo_none) (eo_some ev_c) ha) (by omega) (fun _ => rfl) (fun _ _ _ _ => et_yes) (fun x H1 e hx _ => by
        rw [hcs] at hx
        obtain ⟨i, _, rfl⟩ := List.mem_map.mp hx
        exact ev_int (ev_var rfl))
    rw [List.filter_eq_self.mpr (fun _ _ => rfl), List.map_id, hcs] at hl
    exact s_pen hl fun c pen H1 H2 hc hp e1 h1 e2 h2 => k pen H2 hp e2 ⟨c, cs, 0, 0, h2, h1, hcl2, Nat.zero_le _⟩
end
end K2
set_option Elab.async false
set_option linter.all false
set_option maxRecDepth 100000
set_option maxHeartbeats 4000000
namespace DL
open PySem L2 Evl
/-- a def's reading keeps its contract -/
def Law (sp : DSp) (w : WS) (N : List Str) : Prop := ∀ ds n Qd Qe, sp ds n Qd Qe → w Qe ⟨fun s1 => Qd .non s1.n, Qd, fun _ => False, fun _ => False⟩ ⟨env0 N ds, n⟩
/-! ### loops told at once -/
theorem lc_map {vs : List Nat} {wg : WG} {we : WE} {Q : List D → S → Prop} {s0 : S} {f : D → D} : ∀ (ds acc : List D) (s : S), wipeS vs s = s0 → acc.length + ds.length ≤ 100000 →
    (∀ d ∈ ds, ∀ R : D → S → Prop, (∀ s3, wipeS vs s3 = s0 → R (f d) s3) → wg d Qf s0 fun s1 => we Qf s1 R) → Q (acc ++ ds.map f) s0 → wLcL vs wg wTrue we Q ds acc s
  | [], acc, s, e, l, h, q => by
    rw [wLcL, e]
    simpa using q
  | d :: ds, acc, s, e, l, h, q => by
    rw [List.length_cons] at l
    refine ⟨by omega, ?_⟩
    rw [e]
    simp only [wTrue, if_true]
    refine h d (List.mem_cons_self ..) _ fun s3 e3 => ?_
    refine lc_map ds _ _ e3 (by simp; omega) (fun d' hd => h d' (List.mem_cons_of_mem _ hd)) ?_
    simpa using q
/-- by a bound and a law for what is gathered -/
theorem lc_inv {vs : List Nat} {wg : WG} {wt : WT} {we : WE} {Q : List D → S → Prop} (I : List D → List D → S → Prop)
    (step : ∀ d ds acc s, I (d :: ds) acc s → ∀ R : D → S → Prop, ∀ R2 : S → Prop, (∀ y s3, I ds (acc ++ [y]) (wipeS vs s3) → R y s3) → (∀ s3, I ds acc (wipeS vs s3) → R2 s3) → wg d Qf s fun s1 => wt Qf s1 fun b s2 => if b = true then we Qf s2 R else R2 s2)
    (last : ∀ acc s, I [] acc s → Q acc s) : ∀ (ds acc : List D) (s : S), acc.length + ds.length ≤ 100000 → I ds acc (wipeS vs s) → wLcL vs wg wt we Q ds acc s
  | [], acc, s, l, i => last _ _ i
  | d :: ds, acc, s, l, i => by
    rw [List.length_cons] at l
    refine ⟨by omega, ?_⟩
    exact step d ds acc _ i _ _ (fun y s3 i3 => lc_inv I step last ds _ _ (by simp; omega) i3) fun s3 i3 => lc_inv I step last ds _ _ (by omega) i3
theorem for_inv {wg : WG} {wb : WS} {Qe : WQ} {De : DEnds} (I : List D → S → Prop)
    (step : ∀ d ds s, I (d :: ds) s → ∀ R : S → Prop, (∀ s', I ds s' → R s') → wg d Qe s fun s1 => wb Qe { De with nx := R, ct := R, bk := De.nx } s1)
    (last : ∀ s, I [] s → De.nx s) : ∀ (ds : List D) (s : S), I ds s → wForL wg wb Qe De ds s
  | [], s, i => last _ i
  | d :: ds, s, i => step d ds s i _ fun s' i' => for_inv I step last ds s' i'
/-! ### equal scalars -/
theorem eqD_int (i j : Int) : EqD (.int i) (.int j) (decide (i = j)) := by
  refine .inl ?_
  simp only [eqS, D.sc, scal, if_true, Option.some.injEq]
  exact decide_eq_decide.mpr ⟨fun h => by cases h; rfl, fun h => by rw [h]⟩
theorem eqD_str (i j : Str) : EqD (.str i) (.str j) (decide (i = j)) := by
  refine .inl ?_
  simp only [eqS, D.sc, scal, if_true, Option.some.injEq]
  exact decide_eq_decide.mpr ⟨fun h => by cases h; rfl, fun h => by rw [h]⟩
theorem at_nat {ds : List D} {j : Nat} {d : D} (h : ds[j]? = some d) : atI ds (j : Int) = some d := by
  have hj : j < ds.length := by
    rw [List.getElem?_eq_some_iff] at h
    exact h.1
  rw [atI, ixN_nat hj]
  exact h
theorem at0 (d : D) (ds : List D) : atI (d :: ds) 0 = some d := at_nat (j := 0) rfl
theorem rng_len (n : Nat) : (rng n).length = n := by simp [rng]
theorem enumD_eq : ∀ (ds : List D) (k : Nat), enumD k ds = (ds.zipIdx k).map fun p => .tup [.int (p.2 : Nat), p.1]
  | [], _ => rfl
  | d :: ds, k => by rw [enumD, enumD_eq ds, List.zipIdx_cons, List.map_cons]
end DL
set_option Elab.async false
set_option linter.all false
set_option maxRecDepth 100000
set_option maxHeartbeats 4000000
namespace K78
open PySem L2 Evl DL
/-! ### the plain side -/
def isInt : D → Bool
  | .int _ => true
  | _ => false
/-- an integer from lo to hi -/
def within (lo : Int) (hi : Option Int) (d : D) : Bool := match d, hi with
  | .int i, none => decide (lo ≤ i)
  | .int i, some h => decide (lo ≤ i) && decide (i ≤ h)
  | _, _ => false
def opt : Option Int → D
  | none => .non
  | some i => .int i
def items : D → Option (List D)
  | .lst l => some l
  | .tup l => some l
  | _ => none
def numsB (m : Nat) (hi : Option Int) (d : D) : Bool := match items d with
  | some l => decide (l.length = m) && l.all (within 0 hi)
  | none => false
def noughtD : D → Bool
  | .int i => i == 0
  | _ => false
def heavyD (d : D) : Bool := match items d with
  | some l => l.any fun x => !noughtD x
  | none => false
def lenD (d : D) : Nat := match items d with
  | some l => l.length
  | none => 0
/-- what corners_in tells -/
def cornersD (d : D) : D := match items d with
  | some (x :: l) => if (decide ((x :: l).length ≤ 6) && isRow x) = false then .non
    else if (decide (1 ≤ lenD x) && decide (lenD x ≤ 6) && (x :: l).all (numsB (lenD x) (some 1000000))) = false then .non
    else if (x :: l).all heavyD = true then fixD d else .non
  | _ => .non
/-! texts -/
def digS (w : Str) : Bool := w.cps.toList.all fun c => decide (c ∈ ("0123456789" : Str).cps.toList)
def wholeW (w : Str) : Option Nat :=
  if decide (7 < w.length) || decide (w = "") || !digS w then none
  else if decide (w.cps.toList[0]? = some 48) && !decide (w = "0") then none
  else if (PySem.NumText.digitsVal w.cps.toList : Nat) ≤ 1000000 then some (PySem.NumText.digitsVal w.cps.toList) else none
def optN : Option Nat → D
  | none => .non
  | some i => .int (i : Nat)
def optS : Option Str → D
  | none => .non
  | some i => .str i
def lineS (L : Addr) (num : Nat) (ws : List Str) (at' : Nat) : SO := .ins L ["number", "words", "at"] [.int (num : Nat), .lst (txs ws), .int (at' : Nat)]
def linesS (L : Addr) (ls : List Addr) (at' : Nat) : SO := .ins L ["lines", "at"] [.lst (ls.map .loc), .int (at' : Nat)]
/-- where a text is wrong -/
def badT (Qe : WQ) (CT : Addr) (n : M) (line word : Nat) : Prop := ∀ st, Qe CT [("word", .int (word : Nat)), ("line", .int (line : Nat))] ⟨n.n, st⟩
def putS (n : M) (a : Addr) (o : SO) : M := ⟨n.n, updS n.st a o⟩
/-- numbers of a line -/
def numsF (ws : List Str) (least most : Nat) : Nat → Nat → List Nat → Except Nat (List Nat × Nat)
  | 0, at', _ => .error at'
  | k + 1, at', found => if found.length < least ∨ (at' < ws.length ∧ found.length < most) then
      match ws[at']? with
      | none => .error at'
      | some w => match wholeW w with
        | none => .error at'
        | some v => numsF ws least most k (at' + 1) (found ++ [v])
    else if found.any (fun x => x != 0) = true then .ok (found, at') else .error (at' - 1)
def nums (ws : List Str) (least most : Nat) : Except Nat (List Nat × Nat) := numsF ws least most (ws.length + 2) 1 []
/-- a corner's line -/
def cornerF (ws : List Str) (least most : Nat) : Except Nat (List Nat) := match nums ws least most with
  | .error j => .error j
  | .ok (f, j) => if j < ws.length then .error j else .ok f
def fieldL (wss : List (List Str)) : Nat → Nat → List (List Nat) → Except (Nat × Nat) (List (List Nat) × Nat)
  | 0, k, cs => .ok (cs, k)
  | m + 1, k, cs => if (wss[k]?.bind fun ws => ws[0]?) = some ("corner" : Str) ∧ cs.length < 6 then
      match cornerF (wss.getD k []) (cs.headD []).length (cs.headD []).length with
      | .error j => .error (k, j)
      | .ok f => fieldL wss m (k + 1) (cs ++ [f])
    else .ok (cs, k)
def fieldF (wss : List (List Str)) : Except (Nat × Nat) (List (List Nat) × Nat) := match wss with
  | [] => .error (0, 0)
  | ws :: _ => if ws[0]? = some ("corner" : Str) then
      match cornerF ws 1 6 with
      | .error j => .error (0, j)
      | .ok f => fieldL wss wss.length 1 [f]
    else .error (0, 0)
/-- what read_field tells -/
def readF (wss : List (List Str)) : Except (Nat × Nat) (List (List Nat)) := match fieldF wss with
  | .error e => .error e
  | .ok (cs, k) => if k < wss.length then .error (k, 0) else .ok cs
def rowN (l : List Nat) : D := .tup (l.map fun i => .int (i : Nat))
def cN (c : List (List Nat)) : D := .tup (c.map rowN)
def rowL (l : List Nat) : D := .lst (l.map fun i => .int (i : Nat))
def cL (c : List (List Nat)) : D := .lst (c.map rowL)
def fieldD (F : Addr) (c : List (List Nat)) : D := .obj F ["corners", "width"] [cN c, .int ((c.headD []).length : Nat)]
def wordsOf (text : Str) : List (List Str) := (Txt.split text "\n").map fun l => Txt.split l " "
/-! ### contracts -/
def sp_is_integer : DSp := fun ds n Qd _ => ∃ d, ds = [d] ∧ d.bare = true ∧ Qd (.bl (isInt d)) n
def sp_is_within : DSp := fun ds n Qd _ => ∃ d lo hi, ds = [d, .int lo, opt hi] ∧ d.bare = true ∧ Qd (.bl (within lo hi d)) n
def sp_is_row : DSp := fun ds n Qd _ => ∃ d, ds = [d] ∧ d.bare = true ∧ Qd (.bl (isRow d)) n
def sp_are_numbers : DSp := fun ds n Qd _ => ∃ d, ∃ m : Nat, ∃ hi, ds = [d, .int (m : Nat), opt hi] ∧ plain d = true ∧ (∀ l, items d = some l → l.length ≤ 1000) ∧ Qd (.bl (numsB m hi d)) n
def sp_is_heavy : DSp := fun ds n Qd _ => ∃ d, ∃ l : List Int, ds = [d] ∧ items d = some (l.map D.int) ∧ l.length ≤ 1000 ∧ Qd (.bl (l.any fun x => x != 0)) n
def sp_corners_in : DSp := fun ds n Qd _ => ∃ d, ds = [d] ∧ plain d = true ∧ nd d ≤ 900 ∧ Qd (cornersD d) n
def tupLen : D → Nat
  | .tup (.tup l :: _) => l.length
  | _ => 0
def sp_finit (F CF : Addr) : DSp := fun ds n Qd Qe => ∃ a d, ds = [.loc a, d] ∧ n.st a = some (.ins F [] []) ∧ plain d = true ∧ nd d ≤ 900 ∧
  (cornersD d = .non → ∀ st, Qe CF [("part", .str "corners")] ⟨n.n, st⟩) ∧ (cornersD d ≠ .non → Qd .non (putS n a (.ins F ["corners", "width"] [cornersD d, .int (tupLen (cornersD d) : Nat)])))
def sp_whole_of : DSp := fun ds n Qd _ => ∃ w, ds = [.str w, .int 1000000] ∧ w.length ≤ 90000 ∧ Qd (optN (wholeW w)) n
def shortT (ws : List Str) : Prop := ws.length ≤ 90000 ∧ ∀ w ∈ ws, w.length ≤ 90000
def sp_linit (L : Addr) : DSp := fun ds n Qd _ => ∃ (a : Addr) (num : Nat) (t : Str), ds = [.loc a, .int (num : Nat), .str t] ∧ n.st a = some (.ins L [] []) ∧ t.length ≤ 90000 ∧ Qd .non (putS n a (lineS L num (Txt.split t " ") 0))
def sp_stop (L CT : Addr) : DSp := fun ds n _ Qe => ∃ a num ws at', ds = [.loc a] ∧ n.st a = some (lineS L num ws at') ∧ badT Qe CT n num at'
def sp_ahead (L : Addr) : DSp := fun ds n Qd _ => ∃ a num ws at', ds = [.loc a] ∧ n.st a = some (lineS L num ws at') ∧ ws.length ≤ 100000 ∧ Qd (optS ws[at']?) n
def sp_take (L CT : Addr) : DSp := fun ds n Qd Qe => ∃ a num ws at', ds = [.loc a] ∧ n.st a = some (lineS L num ws at') ∧ ws.length ≤ 100000 ∧ (∀ w, ws[at']? = some w → Qd (.str w) (putS n a (lineS L num ws (at' + 1)))) ∧ (ws[at']? = none → badT Qe CT n num at')
def sp_take_one (L CT : Addr) : DSp := fun ds n Qd Qe => ∃ a num ws at' vs, ds = [.loc a, .lst (txs vs)] ∧ n.st a = some (lineS L num ws at') ∧ ws.length ≤ 100000 ∧
  (∀ w, ws[at']? = some w → w ∈ vs → Qd (.str w) (putS n a (lineS L num ws (at' + 1)))) ∧ ((∀ w, ws[at']? = some w → w ∉ vs) → badT Qe CT n num at')
def sp_take_whole (L CT : Addr) : DSp := fun ds n Qd Qe => ∃ a num ws at', ds = [.loc a, .int 1000000] ∧ n.st a = some (lineS L num ws at') ∧ shortT ws ∧
  (∀ w v, ws[at']? = some w → wholeW w = some v → Qd (.int (v : Nat)) (putS n a (lineS L num ws (at' + 1)))) ∧ ((∀ w, ws[at']? = some w → wholeW w = none) → badT Qe CT n num at')
def sp_back (L CT : Addr) : DSp := fun ds n _ Qe => ∃ a num ws at', ds = [.loc a] ∧ n.st a = some (lineS L num ws (at' + 1)) ∧ badT Qe CT n num at'
def sp_lend (L CT : Addr) : DSp := fun ds n Qd Qe => ∃ a num ws at', ds = [.loc a] ∧ n.st a = some (lineS L num ws at') ∧ ws.length ≤ 100000 ∧ (¬ at' < ws.length → Qd .non n) ∧ (at' < ws.length → badT Qe CT n num at')
def sp_lsinit (LS : Addr) : DSp := fun ds n Qd _ => ∃ (a : Addr) (ls : List Addr), ds = [.loc a, .lst (ls.map .loc), .int 0] ∧ n.st a = some (.ins LS [] []) ∧ Qd .non (putS n a (linesS LS ls 0))
/-- lines that are read from a line on -/
structure Ready (L LS : Addr) (st : Sto) (a : Addr) (ls : List Addr) (wss : List (List Str)) (k : Nat) : Prop where
  ob : st a = some (linesS LS ls k)
  len : ls.length = wss.length
  le : k ≤ wss.length
  ln : ∀ (i : Nat) (b : Addr) (ws : List Str), k ≤ i → ls[i]? = some b → wss[i]? = some ws → st b = some (lineS L i ws 0)
  nd : ls.Nodup
  na : a ∉ ls
  sh : wss.length ≤ 90000 ∧ ∀ ws ∈ wss, ws ≠ [] ∧ shortT ws
def sp_head (L LS : Addr) : DSp := fun ds n Qd _ => ∃ a ls wss k, ds = [.loc a] ∧ Ready L LS n.st a ls wss k ∧ Qd (optS (wss[k]?.bind fun ws => ws[0]?)) n
def sp_next (L LS CT : Addr) : DSp := fun ds n Qd Qe => ∃ a ls wss k w, ds = [.loc a, .str w] ∧ Ready L LS n.st a ls wss k ∧ (wss[k]? = none → badT Qe CT n wss.length 0) ∧
  (∀ ws b, wss[k]? = some ws → ls[k]? = some b → (ws[0]? ≠ some w → badT Qe CT n k 0) ∧ (ws[0]? = some w → ∀ st, Ready L LS st a ls wss (k + 1) → st b = some (lineS L k ws 1) → Qd (.loc b) ⟨n.n, st⟩))
def sp_lsend (L LS CT : Addr) : DSp := fun ds n Qd Qe => ∃ a ls wss k, ds = [.loc a] ∧ Ready L LS n.st a ls wss k ∧ (k < wss.length → badT Qe CT n k 0) ∧ (¬ k < wss.length → Qd .non n)
def sp_lines_of (L LS : Addr) : DSp := fun ds n Qd _ => ∃ t : Str, ds = [.str t] ∧ t.length ≤ 80000 ∧ ∀ a ls st, Ready L LS st a ls (wordsOf t) 0 → Qd (.loc a) ⟨n.n, st⟩
def sp_numbers_from (L CT : Addr) : DSp := fun ds n Qd Qe => ∃ (a : Addr) (num : Nat) (ws : List Str) (least most : Nat), ds = [.loc a, .int (least : Nat), .int (most : Nat)] ∧ n.st a = some (lineS L num ws 1) ∧ shortT ws ∧ 1 ≤ ws.length ∧ 1 ≤ least ∧ least ≤ most ∧ most ≤ 6 ∧
  (∀ f j, nums ws least most = .ok (f, j) → Qd (rowL f) (putS n a (lineS L num ws j))) ∧ (∀ j, nums ws least most = .error j → badT Qe CT n num j)
def sp_field_from (L LS F CT : Addr) : DSp := fun ds n Qd Qe => ∃ a ls wss, ds = [.loc a] ∧ Ready L LS n.st a ls wss 0 ∧
  (∀ cs k, fieldF wss = .ok (cs, k) → ∀ st, Ready L LS st a ls wss k → Qd (fieldD F cs) ⟨n.n, st⟩) ∧ (∀ i j, fieldF wss = .error (i, j) → badT Qe CT n i j)
def sp_read_field (L LS F CT : Addr) : DSp := fun ds n Qd Qe => ∃ t : Str, ds = [.str t] ∧ t.length ≤ 80000 ∧
  (∀ cs, readF (wordsOf t) = .ok cs → ∀ st, Qd (fieldD F cs) ⟨n.n, st⟩) ∧ (∀ i j, readF (wordsOf t) = .error (i, j) → badT Qe CT n i j)
end K78
set_option Elab.async false
set_option linter.all false
set_option maxRecDepth 100000
set_option maxHeartbeats 4000000
namespace DL
open PySem L2 Evl
/-! ### what a reading evaluates to -/
def EV (w : WE) (Qe : WQ) (s : S) (d : D) (s' : S) : Prop := ∀ Q : D → S → Prop, Q d s' → w Qe s Q
def TV (w : WT) (Qe : WQ) (s : S) (b : Bool) (s' : S) : Prop := ∀ Q : Bool → S → Prop, Q b s' → w Qe s Q
def AV (w : WA) (Qe : WQ) (s : S) (ds : List D) (s' : S) : Prop := ∀ Q : List D → S → Prop, Q ds s' → w Qe s Q
def IV (w : WI) (Qe : WQ) (s : S) (ds : List D) (s' : S) : Prop := ∀ Q : List D → S → Prop, Q ds s' → w Qe s Q
abbrev FV (w : WF) (Qe : WQ) (s : S) (ds : List D) (s' : S) : Prop := ∀ Q : List D → S → Prop, Q ds s' → w Qe s Q
section
variable {Qe : WQ} {De : DEnds} {s s1 s2 s3 : S} {d e z : D} {ds es : List D} {wa wb wc : WE} {wr : WA} {wt wu : WT} {wf : WF} {wi : WI} {W W1 W2 : WS} {i j : Nat} {b c : Bool} {f g : F2} {sp : DSp} {C : Addr} {n' : M} {a : Addr} {x m : Str}
theorem ev_var (h : s.env[i]? = some (.val d)) : EV (wVar i) Qe s d s := fun Q q => by unfold wVar; rw [h]; exact q
theorem ev_c : EV (wC d) Qe s d s := fun Q q => q
theorem av_nil : AV wNil Qe s [] s := fun Q q => q
theorem av_cons (h : EV wa Qe s d s1) (k : AV wr Qe s1 ds s2) : AV (wCons wa wr) Qe s (d :: ds) s2 := fun Q q => h _ (k _ q)
theorem av_1 (h : EV wa Qe s d s1) : AV (wCons wa wNil) Qe s [d] s1 := fun Q q => h _ q
theorem ev_op (h : EV wa Qe s d s1) (k : EV wb Qe s1 e s2) (hf : ∀ R : D → Prop, R z → f d e R) : EV (wOp f wa wb) Qe s z s2 := fun Q q => h _ (k _ (hf _ q))
theorem ev_cb {g : FC} (h : AV wr Qe s ds s1) (hg : ∀ R : D → Prop, R z → g ds R) : EV (wCB g wr) Qe s z s1 := fun Q q => h _ (hg _ q)
theorem ev_call (h : AV wr Qe s ds s1) (hs : ∀ Q : D → M → Prop, Q z n' → sp ds s1.n Q Qe.only) : EV (wCall sp wr) Qe s z ⟨s1.env, n'⟩ := fun Q q => h _ (hs _ q)
def nonB : D → Bool
  | .non => true
  | _ => false
theorem ev_isN (h : EV wa Qe s d s1) : EV (wIsN false wa) Qe s (.bl (nonB d)) s1 := fun Q q => h _ (by cases d <;> exact q)
theorem ev_notN (h : EV wa Qe s d s1) : EV (wIsN true wa) Qe s (.bl (!nonB d)) s1 := fun Q q => h _ (by cases d <;> exact q)
theorem ev_isi {p : D → Bool} (h : EV wa Qe s d s1) (hb : d.bare = true) : EV (wIsi p wa) Qe s (.bl (p d)) s1 := fun Q q => h _ ⟨hb, q⟩
theorem ev_tup (h : AV wr Qe s ds s1) (hl : ds.length ≤ 100000) : EV (wTup wr) Qe s (.tup ds) s1 := fun Q q => h _ ⟨hl, q⟩
theorem fv_lst (h : AV wr Qe s ds s1) (hl : ds.length ≤ 100000) : FV (wLst wr) Qe s ds s1 := fun Q q => h _ ⟨hl, q⟩
theorem ev_give (h : FV wf Qe s ds s1) : EV (wGive wf) Qe s (.lst ds) s1 := fun Q q => h _ q
theorem ev_tupOf (h : EV wa Qe s d s1) (hd : d = .lst ds ∨ d = .tup ds) : EV (wTupOf wa) Qe s (.tup ds) s1 := fun Q q => h _ (by rcases hd with rfl | rfl <;> exact q)
theorem ev_ifT (h : TV wt Qe s true s1) (k : EV wa Qe s1 d s2) : EV (wIf wt wa wb) Qe s d s2 := fun Q q => h _ (k _ q)
theorem ev_ifF (h : TV wt Qe s false s1) (k : EV wb Qe s1 d s2) : EV (wIf wt wa wb) Qe s d s2 := fun Q q => h _ (k _ q)
theorem ev_andF (h : EV wa Qe s (.bl false) s1) : EV (wAndV wa wb) Qe s (.bl false) s1 := fun Q q => h _ q
theorem ev_andT (h : EV wa Qe s (.bl true) s1) (k : EV wb Qe s1 d s2) : EV (wAndV wa wb) Qe s d s2 := fun Q q => h _ (k _ q)
theorem ev_orT (h : EV wa Qe s (.bl true) s1) : EV (wOrV wa wb) Qe s (.bl true) s1 := fun Q q => h _ q
theorem ev_orF (h : EV wa Qe s (.bl false) s1) (k : EV wb Qe s1 d s2) : EV (wOrV wa wb) Qe s d s2 := fun Q q => h _ (k _ q)
theorem ev_notV (h : EV wa Qe s (.bl b) s1) : EV (wNotV wa) Qe s (.bl (!b)) s1 := fun Q q => h _ q
theorem tv_T (h : EV wa Qe s (.bl b) s1) : TV (wT wa) Qe s b s1 := fun Q q => h _ q
theorem tv_not (h : TV wt Qe s b s1) : TV (wNot wt) Qe s (!b) s1 := fun Q q => h _ q
theorem tv_andF (h : TV wt Qe s false s1) : TV (wAnd wt wu) Qe s false s1 := fun Q q => h _ q
theorem tv_andT (h : TV wt Qe s true s1) (k : TV wu Qe s1 b s2) : TV (wAnd wt wu) Qe s b s2 := fun Q q => h _ (k _ q)
theorem tv_orT (h : TV wt Qe s true s1) : TV (wOr wt wu) Qe s true s1 := fun Q q => h _ q
theorem tv_orF (h : TV wt Qe s false s1) (k : TV wu Qe s1 b s2) : TV (wOr wt wu) Qe s b s2 := fun Q q => h _ (k _ q)
theorem tv_is (h : TV wt Qe s b s1) (e : b = c) : TV wt Qe s c s1 := e ▸ h
theorem ev_is (h : EV wa Qe s d s1) (k : d = e) : EV wa Qe s e s1 := k ▸ h
/-- both known, whatever they are -/
theorem tv_or (h : TV wt Qe s b s1) (k : b = false → TV wu Qe s1 c s1) : TV (wOr wt wu) Qe s (b || c) s1 := fun Q q => h _ (by
  cases b with
  | true => exact q
  | false => exact k rfl _ q)
theorem tv_and (h : TV wt Qe s b s1) (k : b = true → TV wu Qe s1 c s1) : TV (wAnd wt wu) Qe s (b && c) s1 := fun Q q => h _ (by
  cases b with
  | false => exact q
  | true => exact k rfl _ q)
theorem ev_and (h : EV wa Qe s (.bl b) s1) (k : b = true → EV wb Qe s1 (.bl c) s1) : EV (wAndV wa wb) Qe s (.bl (b && c)) s1 := fun Q q => h _ (by
  cases b with
  | false => exact q
  | true => exact k rfl _ q)
theorem ev_or (h : EV wa Qe s (.bl b) s1) (k : b = false → EV wb Qe s1 (.bl c) s1) : EV (wOrV wa wb) Qe s (.bl (b || c)) s1 := fun Q q => h _ (by
  cases b with
  | true => exact q
  | false => exact k rfl _ q)
theorem tv_ch2 (h : EV wa Qe s d s1) (k : EV wb Qe s1 e s2) (hf : ∀ R : D → Prop, R (.bl b) → f d e R) (l : EV wc Qe s2 z s2) (hg : ∀ R : D → Prop, R (.bl c) → g e z R) : TV (wChainN wa (wcCons f wb (wcLast g wc))) Qe s (b && c) s2 := fun Q q => h _ (k _ (hf _ (by
  cases b with
  | false => exact q
  | true =>
    show wc Qe s2 _
    refine l _ (hg _ ?_)
    exact q)))
theorem ev_split {a b : Str} (h : EV wa Qe s (.str a) s1) (k : EV wb Qe s1 (.str b) s2) (hb : (b.length == 0) = false) (ha : a.length ≤ 90000) : EV (wSplit wa wb) Qe s (.lst (txs (Txt.split a b))) s2 := fun Q q => h _ (k _ ⟨hb, ha, q⟩)
theorem ev_join {a : Str} {ys : List Str} (h : EV wa Qe s (.str a) s1) (k : EV wb Qe s1 e s2) (he : e = .lst (txs ys) ∨ e = .tup (txs ys)) (hl : (ys.map (·.length)).sum + ys.length * a.length ≤ 16777216) : EV (wJoin wa wb) Qe s (.str (Txt.join a ys)) s2 := fun Q q => h _ (k _ ⟨ys, he, hl, q⟩)
theorem ev_fld {ns : List Str} (h : EV wa Qe s (.obj C ns ds) s1) (hl : (ns.zip ds).lookup x = some z) : EV (wFldU C x wa) Qe s z s1 := fun Q q => h _ ⟨rfl, z, hl, q⟩
theorem ev_fldL {ns : List Str} (h : EV wa Qe s (.loc a) s1) (hs : s1.n.st a = some (.ins C ns ds)) (hl : (ns.zip ds).lookup x = some z) : EV (wFldU C x wa) Qe s z s1 := fun Q q => h _ ⟨ns, ds, z, hs, hl, q⟩
theorem ev_meth {ns : List Str} {ds : List D} {es : List D} (h : EV wa Qe s (.loc a) s1) (hs : s1.n.st a = some (.ins C ns ds)) (hm : m ∉ ns) (k : AV wr Qe s1 es s2) (hp : ∀ Q : D → M → Prop, Q z n' → sp (.loc a :: es) s2.n Q Qe.only) : EV (wMeth C m sp wa wr) Qe s z ⟨s2.env, n'⟩ := fun Q q => h _ ⟨⟨ns, ds, hs, hm⟩, k _ (hp _ q)⟩
/-- a reading that never tells a value: it raises -/
def NV (w : WE) (Qe : WQ) (s : S) : Prop := ∀ Q : D → S → Prop, w Qe s Q
theorem nv_meth {ns : List Str} {ds : List D} {es : List D} (h : EV wa Qe s (.loc a) s1) (hs : s1.n.st a = some (.ins C ns ds)) (hm : m ∉ ns) (k : AV wr Qe s1 es s2) (hp : ∀ Q : D → M → Prop, sp (.loc a :: es) s2.n Q Qe.only) : NV (wMeth C m sp wa wr) Qe s := fun Q => h _ ⟨⟨ns, ds, hs, hm⟩, k _ (hp _)⟩
theorem nv_call (h : AV wr Qe s ds s1) (hs : ∀ Q : D → M → Prop, sp ds s1.n Q Qe.only) : NV (wCall sp wr) Qe s := fun Q => h _ (hs _)
theorem s_dropN (h : NV wa Qe s) : wDrop wa Qe De s := h _
theorem s_dropNS (h : NV wa Qe s) : wSeq (wDrop wa) W Qe De s := h _
theorem s_asgN (h : NV wa Qe s) : wSeq (wAsg wa (wgName i)) W Qe De s := h _
theorem s_retN (h : NV wa Qe s) : wRet wa Qe De s := h _
/-! items -/
theorem iv_seq (h : EV wa Qe s d s1) (hd : d = .lst ds ∨ d = .tup ds) : IV (wSeqI wa) Qe s ds s1 := fun Q q => h _ (by rcases hd with rfl | rfl <;> exact q)
theorem iv_str (h : EV wa Qe s (.str x) s1) : IV (wStrI wa) Qe s (signsD x) s1 := fun Q q => h _ q
theorem iv_range {k : Nat} (h : AV wr Qe s [.int (k : Nat)] s1) (hk : k < 100000) : IV (wRangeI wr) Qe s (rng k) s1 := fun Q q => h _ ⟨(k : Int), rfl, by omega, by omega, by rw [Int.toNat_natCast]; exact q⟩
theorem iv_enum (h : AV wr Qe s [d] s1) (hd : d = .lst ds ∨ d = .tup ds) : IV (wEnumI wr) Qe s (enumD 0 ds) s1 := fun Q q => h _ (by rcases hd with rfl | rfl <;> exact q)
theorem iv_zip {xs ys : List D} (h : AV wr Qe s [d, e] s1) (hd : (d = .lst xs ∧ e = .lst ys) ∨ (d = .tup xs ∧ e = .tup ys)) : IV (wZipI wr) Qe s (zipD xs ys) s1 := fun Q q => h _ (by rcases hd with ⟨rfl, rfl⟩ | ⟨rfl, rfl⟩ <;> exact q)
/-- [e for x in l] -/
theorem fv_map {v : Nat} {we : WE} {k : D → D} (h : IV wi Qe s ds s1) (hl : ds.length ≤ 100000) (hw : wipeS [v] s1 = s1) (he : ∀ d ∈ ds, EV we Qf ⟨s1.env.set v (.val d), s1.n⟩ (k d) ⟨s1.env.set v (.val d), s1.n⟩) : FV (wLc [v] wi (wgName v) wTrue we) Qe s (ds.map k) s1 := fun Q q => h _ (by
  refine lc_map (s0 := s1) (f := k) ds [] s1 hw (by simpa using hl) (fun d hd R kk => ?_) (by simpa using q)
  refine he d hd _ (kk _ ?_)
  rw [← hw]
  show wipeS [v] ⟨(wipeS [v] s1).env.set v (.val d), _⟩ = _
  unfold wipeS wipeE
  simp [wipeE])
/-- [e for x in l if t] -/
theorem fv_filter {v : Nat} {we : WE} {wt : WT} {k : D → D} {p : D → Bool} (h : IV wi Qe s ds s1) (hl : ds.length ≤ 100000) (hw : wipeS [v] s1 = s1) (ht : ∀ d ∈ ds, TV wt Qf ⟨s1.env.set v (.val d), s1.n⟩ (p d) ⟨s1.env.set v (.val d), s1.n⟩)
    (he : ∀ d ∈ ds, p d = true → EV we Qf ⟨s1.env.set v (.val d), s1.n⟩ (k d) ⟨s1.env.set v (.val d), s1.n⟩) : FV (wLc [v] wi (wgName v) wt we) Qe s ((ds.filter p).map k) s1 := fun Q q => h _ (by
  have hset : ∀ d, wipeS [v] ⟨s1.env.set v (.val d), s1.n⟩ = s1 := fun d => by
    rw [← hw]
    show wipeS [v] ⟨(wipeS [v] s1).env.set v (.val d), _⟩ = _
    unfold wipeS wipeE
    simp [wipeE]
  refine lc_inv (fun l acc s => s = s1 ∧ l.length ≤ ds.length ∧ (∀ d ∈ l, d ∈ ds) ∧ acc ++ (l.filter p).map k = (ds.filter p).map k) (fun d l acc s I R R2 k1 k2 => ?_) (fun acc s I => ?_) ds [] s1 (by simpa using hl) ⟨hw, Nat.le_refl _, fun _ h => h, by simp⟩
  · obtain ⟨rfl, il, im, ie⟩ := I
    have hd := im d (List.mem_cons_self ..)
    rw [List.length_cons] at il
    refine ht d hd _ ?_
    rw [List.filter_cons] at ie
    cases hp : p d with
    | true =>
      rw [hp, if_pos rfl, List.map_cons] at ie
      refine he d hd hp _ (k1 _ _ ⟨hset d, by omega, fun x hx => im x (List.mem_cons_of_mem _ hx), ?_⟩)
      rw [← ie]; simp
    | false =>
      rw [hp, if_neg Bool.false_ne_true] at ie
      exact k2 _ ⟨hset d, by omega, fun x hx => im x (List.mem_cons_of_mem _ hx), ie⟩
  · obtain ⟨rfl, _, _, ie⟩ := I
    rw [← ie] at q
    simpa using q)
/-! ### statements -/
theorem s_ret (h : EV wa Qe s d s1) (q : De.rt d s1.n) : wRet wa Qe De s := h _ q
theorem s_asg (h : EV wa Qe s d s1) (q : W Qe De ⟨s1.env.set i (.val d), s1.n⟩) : wSeq (wAsg wa (wgName i)) W Qe De s := h _ q
theorem s_asg1 (h : EV wa Qe s d s1) (q : De.nx ⟨s1.env.set i (.val d), s1.n⟩) : wAsg wa (wgName i) Qe De s := h _ q
theorem s_setF (h : FV wf Qe s ds s1) (q : W Qe De ⟨s1.env.set i (.own ds), s1.n⟩) : wSeq (wSetF i wf) W Qe De s := h _ q
theorem s_ifT (h : TV wt Qe s true s1) (q : W1 Qe { De with nx := fun s => W Qe De s } s1) : wSeq (wIfS wt W1 W2) W Qe De s := h _ q
theorem s_ifF (h : TV wt Qe s false s1) (q : W2 Qe { De with nx := fun s => W Qe De s } s1) : wSeq (wIfS wt W1 W2) W Qe De s := h _ q
theorem s_skip (h : TV wt Qe s false s1) (q : W Qe De s1) : wSeq (wIfS wt W1 wNext) W Qe De s := h _ q
theorem s_ifT1 (h : TV wt Qe s true s1) (q : W1 Qe De s1) : wIfS wt W1 W2 Qe De s := h _ q
theorem s_ifF1 (h : TV wt Qe s false s1) (q : W2 Qe De s1) : wIfS wt W1 W2 Qe De s := h _ q
theorem s_drop (h : EV wa Qe s d s1) (q : W Qe De s1) : wSeq (wDrop wa) W Qe De s := h _ q
theorem s_drop1 (h : EV wa Qe s d s1) (q : De.nx s1) : wDrop wa Qe De s := h _ q
theorem s_setFld {ns ns' : List Str} {ds ds' : List D} (h : EV wb Qe s d s1) (k : EV wa Qe s1 (.loc a) s2) (hs : s2.n.st a = some (.ins C ns ds)) (hl : ns.length < 1000) (he : setN x d ns ds = (ns', ds')) (q : W Qe De (withS s2 (updS s2.n.st a (.ins C ns' ds')))) : wSeq (wSetFld C x wa wb) W Qe De s := h _ (k _ ⟨a, ns, ds, rfl, hs, hl, by rw [he]; exact q⟩)
theorem s_setFld1 {ns ns' : List Str} {ds ds' : List D} (h : EV wb Qe s d s1) (k : EV wa Qe s1 (.loc a) s2) (hs : s2.n.st a = some (.ins C ns ds)) (hl : ns.length < 1000) (he : setN x d ns ds = (ns', ds')) (q : De.nx (withS s2 (updS s2.n.st a (.ins C ns' ds')))) : wSetFld C x wa wb Qe De s := h _ (k _ ⟨a, ns, ds, rfl, hs, hl, by rw [he]; exact q⟩)
theorem s_raise (h : EV wa Qe s d s1) (q : Qe C [("part", d)] s1.n) : wRaise C wa Qe De s := h _ q
theorem s_raise2 {f1 f2 : Str} (h : EV wa Qe s d s1) (k : EV wb Qe s1 e s2) (q : Qe C [(f2, e), (f1, d)] s2.n) : wRaise2 C f1 f2 wa wb Qe De s := h _ (k _ q)
theorem s_raiseS {f1 f2 : Str} (h : EV wa Qe s d s1) (k : EV wb Qe s1 e s2) (q : Qe C [(f2, e), (f1, d)] s2.n) : wSeq (wRaise2 C f1 f2 wa wb) W Qe De s := h _ (k _ q)
end
theorem updS_upd {st : Sto} {a : Addr} {o u : SO} : updS (updS st a o) a u = updS st a u := by
  funext b; unfold updS; split <;> rfl
/-! ### operators -/
theorem f_lt {i j : Int} (R : D → Prop) (r : R (.bl (decide (i < j)))) : fLt (.int i) (.int j) R := r
theorem f_le {i j : Int} (R : D → Prop) (r : R (.bl (decide (i ≤ j)))) : fLe (.int i) (.int j) R := r
theorem f_gt {i j : Int} (R : D → Prop) (r : R (.bl (decide (j < i)))) : fGt (.int i) (.int j) R := r
theorem f_ge {i j : Int} (R : D → Prop) (r : R (.bl (decide (j ≤ i)))) : fGe (.int i) (.int j) R := r
theorem f_eqI {i j : Int} (R : D → Prop) (r : R (.bl (decide (i = j)))) : fEq false (.int i) (.int j) R := ⟨_, eqD_int i j, r⟩
theorem f_neI {i j : Int} (R : D → Prop) (r : R (.bl (!decide (i = j)))) : fEq true (.int i) (.int j) R := ⟨_, eqD_int i j, r⟩
theorem f_eqS {i j : Str} (R : D → Prop) (r : R (.bl (decide (i = j)))) : fEq false (.str i) (.str j) R := ⟨_, eqD_str i j, r⟩
theorem f_neS {i j : Str} (R : D → Prop) (r : R (.bl (!decide (i = j)))) : fEq true (.str i) (.str j) R := ⟨_, eqD_str i j, r⟩
theorem f_ix {d x : D} {l : List D} {i : Nat} (h : d = .lst l ∨ d = .tup l) (hx : l[i]? = some x) (R : D → Prop) (r : R x) : fIx d (.int (i : Nat)) R := by rcases h with rfl | rfl <;> exact ⟨x, at_nat hx, r⟩
theorem g_len {d : D} {l : List D} (h : d = .lst l ∨ d = .tup l) (R : D → Prop) (r : R (.int (l.length : Nat))) : gLen [d] R := by rcases h with rfl | rfl <;> exact r
theorem g_lenS {x : Str} (h : x.length ≤ 100000) (R : D → Prop) (r : R (.int (x.length : Nat))) : gLen [.str x] R := ⟨h, r⟩
theorem g_all {l : List D} {p : D → Bool} (R : D → Prop) (r : R (.bl (l.all p))) : gAll [.lst (l.map fun d => .bl (p d))] R := ⟨l.map p, by simp, by simpa using r⟩
theorem g_any {l : List D} {p : D → Bool} (R : D → Prop) (r : R (.bl (l.any p))) : gAny [.lst (l.map fun d => .bl (p d))] R := ⟨l.map p, by simp, by simpa using r⟩
theorem f_addI {i j : Int} (R : D → Prop) (r : R (.int (i + j))) : fAdd (.int i) (.int j) R := r
end DL
set_option Elab.async false
set_option linter.all false
set_option maxRecDepth 100000
set_option maxHeartbeats 4000000
namespace DL
open PySem L2 Evl
/-! ### text * number -/
def rMulS : R2 := fun x y H Q => ∃ (a : Str) (j : Int), x = .str a ∧ y = .int j ∧ MulOk a j ∧ Q (.str (Txt.mul a j)) H
theorem op_mulS {X : Cx} : OpR X (binaryOp .Mult) rMulS := by
  intro pins s σ H x y v u Q I rx ry h
  obtain ⟨a, j, rfl, rfl, hk, q⟩ := h
  obtain ⟨t, rfl⟩ := rx
  obtain ⟨t', rfl⟩ := ry
  exact SB.mul hk fun t' k => ⟨.str (Txt.mul a j), H, I.tok _, ⟨_, rfl⟩, q⟩
def fMulS : F2 := fun d e Q => match d, e with
  | .str a, .int j => MulOk a j ∧ Q (.str (Txt.mul a j))
  | _, _ => False
theorem ref_mulS {K : PySem.W.Frag} : Ref2 K rMulS fMulS := by
  intro A σ H G s x y d e Q P R hx hy h k
  cases d with
  | str w =>
    cases e with
    | int i =>
      obtain ⟨h1, q⟩ := h
      cases hx
      cases hy
      exact ⟨w, i, rfl, rfl, h1, k _ _ G _ R (Ex.refl _) (.str _) q⟩
    | _ => exact (show False from h).elim
  | _ => exact (show False from h).elim
def wBreak : WS := fun _ De s => De.bk s
def wCont : WS := fun _ De s => De.ct s
section
variable {P : Program} {w : World} {K : PySem.W.Frag} {mg : Str → Option Value} {base : Heap}
/-- a def with defaults -/
theorem okDD {x qual : Str} {st : Stmt} {dvs : List V} {kws : List (Str × V)} {f : Addr} {fd : FuncData} {N ps : List Str} {k : Nat} {sp : DSp} (F : FunD K x qual (defArgs st) (defBody st) (defScope st) dvs kws f fd) (S : FnScope N ps (defScope st)) (len : ∀ ds n Qd Qe, sp ds n Qd Qe → ds.length = ps.length)
    (hbody : ∀ (cdv : Value) (A : Around) (outer : List Env) (s : Shared) (H : Hp) (E : XK), Room k (A.deeper (PyProof.Rows.envOfC qual (defScope st) s.heap.objs.size f cdv)) →
      ∃ wb, DSs (cxOf (L2.CX P w) P w K mg base N qual (defScope st) f cdv A outer s H E) E (defBody st) wb ∧
        ∀ ds n Qd Qe, sp ds n Qd Qe → wb Qe ⟨fun s1 => Qd .non s1.n, Qd, fun _ => False, fun _ => False⟩ ⟨env0 N ds, n⟩) : FnOk P w K mg base (L2.CX P w) (k + 1) f fd ps (spD K sp) := by
  refine F.ok S (fun vs H Q E h => ?_) (fun cdv A outer s H vs Q E hr h => ?_)
  · obtain ⟨pen, G, n, ds, Qd, Qe, h1, h2, h3, h4, _⟩ := h
    rw [h3.length]
    exact len _ _ _ _ h4
  · obtain ⟨pen, G, n, ds, Qd, Qe, h1, h2, h3, h4, h5, h6⟩ := h
    obtain ⟨wb, hb, hw⟩ := hbody cdv A outer s H E hr
    obtain ⟨t, g1, g2⟩ := hb.ex
    refine ⟨t, g1, g2 ⟨pen, n.st, H, G, [], [], (0, 0, 0)⟩ Qe h6 _ H G ⟨env0 N ds, n⟩ ⟨fun s1 => Qd .non s1.n, Qd, fun _ => False, fun _ => False⟩ _ (rel_start h1 h2 h3) ⟨fun σ' H' G' s' R' q' => h5 _ _ _ _ _ R'.an R'.pn .non q', fun σ' H' G' s' v d R' dd q' => h5 _ _ _ _ _ R'.an R'.pn dd q', fun _ _ _ _ _ z => False.elim z, fun _ _ _ _ _ z => False.elim z⟩ (hw ds n Qd Qe h4)⟩
end
end DL
set_option Elab.async false
set_option linter.all false
set_option maxRecDepth 100000
set_option maxHeartbeats 4000000
namespace K78
open PySem L2 Evl DL
/-! ### is_integer -/
abbrev s_is_integer : Stmt := top 2
def n_is_integer : List Str := ["value"]
theorem sc_is_integer : FnScope n_is_integer ["value"] (defScope s_is_integer) := ⟨rfl, rfl, rfl, by decide +kernel, rfl, by decide +kernel, by decide +kernel⟩
def w_is_integer  : WS :=
    (wRet (wAndV (wIsi (isT "int") (wVar 0)) (wNotV (wIsi (isT "bool") (wVar 0)))))
theorem ok_is_integer {P : Program} {w : World} {K : PySem.W.Frag} {mg : Str → Option Value} {base : Heap} {f : Addr} {fd : FuncData}  (F0 : Fun K "is_integer" "is_integer" s_is_integer f fd) (B : Bl mg)  {sp : DSp} (len : ∀ ds n Qd Qe, sp ds n Qd Qe → ds.length = 1) (law : ∀ ds n Qd Qe, sp ds n Qd Qe → w_is_integer Qe ⟨fun s1 => Qd .non s1.n, Qd, fun _ => False, fun _ => False⟩ ⟨env0 n_is_integer ds, n⟩) :
    FnOk P w K mg base (L2.CX P w) (0 + 1) f fd ["value"] (spD K sp) := by
  refine okD F0 sc_is_integer len (fun cdv A outer s H E hr => ?_)
  exact ⟨w_is_integer,
    (dss_one (ds_ret (de_and (de_isi (T := "int") (by rfl) B.isi bIsi (de_var 0) (pe_bltn (v := .ty "int") (by rfl) B.int bInt rfl) (by decide +kernel)) (de_one (de_not (de_isi (T := "bool") (by rfl) B.isi bIsi (de_var 0) (pe_bltn (v := .ty "bool") (by rfl) B.bool bBool rfl) (by decide +kernel))))))), law⟩
/-! ### is_within -/
abbrev s_is_within : Stmt := top 3
def n_is_within : List Str := ["value", "least", "most"]
theorem sc_is_within : FnScope n_is_within ["value", "least", "most"] (defScope s_is_within) := ⟨rfl, rfl, rfl, by decide +kernel, rfl, by decide +kernel, by decide +kernel⟩
def w_is_within  : WS :=
    (wRet (wAndV (wCall sp_is_integer (wCons (wVar 0) wNil)) (wAndV (wOp fLe (wVar 1) (wVar 0)) (wOrV (wIsN false (wVar 2)) (wOp fLe (wVar 0) (wVar 2))))))
theorem ok_is_within {P : Program} {w : World} {K : PySem.W.Frag} {mg : Str → Option Value} {base : Heap} {f : Addr} {fd : FuncData}  (F0 : Fun K "is_within" "is_within" s_is_within f fd) (B : Bl mg) (q_is_integer : CalF P w K mg base 1 "is_integer" ["value"] sp_is_integer) {sp : DSp} (len : ∀ ds n Qd Qe, sp ds n Qd Qe → ds.length = 3) (law : ∀ ds n Qd Qe, sp ds n Qd Qe → w_is_within Qe ⟨fun s1 => Qd .non s1.n, Qd, fun _ => False, fun _ => False⟩ ⟨env0 n_is_within ds, n⟩) :
    FnOk P w K mg base (L2.CX P w) (1 + 1) f fd ["value", "least", "most"] (spD K sp) := by
  obtain ⟨f_is_integer, fd_is_integer, F_is_integer, m_is_integer, k_is_integer, b_is_integer⟩ := q_is_integer.ex
  refine okD F0 sc_is_within len (fun cdv A outer s H E hr => ?_)
  exact ⟨w_is_within,
    (dss_one (ds_ret (de_and (de_call F_is_integer (hr.mono (by omega)) (by rfl) m_is_integer k_is_integer b_is_integer (passX rfl rfl rfl rfl) (da_cons (de_var 0) da_nil)) (de_and (de_cmp op_le ref_le (nomark _) (de_var 1) (de_var 0)) (de_one (de_or (de_isN (de_var 2)) (de_one (de_cmp op_le ref_le (nomark _) (de_var 0) (de_var 2))))))))), law⟩
/-! ### is_row -/
abbrev s_is_row : Stmt := top 4
def n_is_row : List Str := ["value"]
theorem sc_is_row : FnScope n_is_row ["value"] (defScope s_is_row) := ⟨rfl, rfl, rfl, by decide +kernel, rfl, by decide +kernel, by decide +kernel⟩
def w_is_row  : WS :=
    (wRet (wIsi isRow (wVar 0)))
theorem ok_is_row {P : Program} {w : World} {K : PySem.W.Frag} {mg : Str → Option Value} {base : Heap} {f : Addr} {fd : FuncData}  (F0 : Fun K "is_row" "is_row" s_is_row f fd) (B : Bl mg)  {sp : DSp} (len : ∀ ds n Qd Qe, sp ds n Qd Qe → ds.length = 1) (law : ∀ ds n Qd Qe, sp ds n Qd Qe → w_is_row Qe ⟨fun s1 => Qd .non s1.n, Qd, fun _ => False, fun _ => False⟩ ⟨env0 n_is_row ds, n⟩) :
    FnOk P w K mg base (L2.CX P w) (0 + 1) f fd ["value"] (spD K sp) := by
  refine okD F0 sc_is_row len (fun cdv A outer s H E hr => ?_)
  exact ⟨w_is_row,
    (dss_one (ds_ret (de_isRow (by rfl) B.isi bIsi (de_var 0) (by rfl) B.list (by rfl) B.tuple))), law⟩
/-! ### are_numbers -/
abbrev s_are_numbers : Stmt := top 27
def n_are_numbers : List Str := ["value", "many", "most", "one"]
theorem sc_are_numbers : FnScope n_are_numbers ["value", "many", "most"] (defScope s_are_numbers) := ⟨rfl, rfl, rfl, by decide +kernel, rfl, by decide +kernel, by decide +kernel⟩
def w_are_numbers  : WS :=
    (wRet (wAndV (wCall sp_is_row (wCons (wVar 0) wNil)) (wAndV (wOp (fEq false) (wCB gLen (wCons (wVar 0) wNil)) (wVar 1)) (wCB gAll (wCons (wGive (wLc [3] (wSeqI (wVar 0)) (wgName 3) wTrue (wCall sp_is_within (wCons (wVar 3) (wCons (wC (.int 0)) (wCons (wVar 2) wNil)))))) wNil)))))
theorem ok_are_numbers {P : Program} {w : World} {K : PySem.W.Frag} {mg : Str → Option Value} {base : Heap} {f : Addr} {fd : FuncData}  (F0 : Fun K "are_numbers" "are_numbers" s_are_numbers f fd) (B : Bl mg) (q_is_row : CalF P w K mg base 1 "is_row" ["value"] sp_is_row) (q_is_within : CalF P w K mg base 2 "is_within" ["value", "least", "most"] sp_is_within) {sp : DSp} (len : ∀ ds n Qd Qe, sp ds n Qd Qe → ds.length = 3) (law : ∀ ds n Qd Qe, sp ds n Qd Qe → w_are_numbers Qe ⟨fun s1 => Qd .non s1.n, Qd, fun _ => False, fun _ => False⟩ ⟨env0 n_are_numbers ds, n⟩) :
    FnOk P w K mg base (L2.CX P w) (2 + 1) f fd ["value", "many", "most"] (spD K sp) := by
  obtain ⟨f_is_row, fd_is_row, F_is_row, m_is_row, k_is_row, b_is_row⟩ := q_is_row.ex
  obtain ⟨f_is_within, fd_is_within, F_is_within, m_is_within, k_is_within, b_is_within⟩ := q_is_within.ex
  refine okD F0 sc_are_numbers len (fun cdv A outer s H E hr => ?_)
  have hu : (cxOf (L2.CX P w) P w K mg base n_are_numbers "are_numbers" (defScope s_are_numbers) f cdv A outer s H E).A.units + 64 < cLine := hr.units
  have hu0 : (cxOf (L2.CX P w) P w K mg base n_are_numbers "are_numbers" (defScope s_are_numbers) f cdv A outer s H E).A.units < cLine := hr.units0
  have hu1 : (cxOf (L2.CX P w) P w K mg base n_are_numbers "are_numbers" (defScope s_are_numbers) f cdv A outer s H E).A.units + 65 < cLine := room65 hr
  exact ⟨w_are_numbers,
    (dss_one (ds_ret (de_and (de_call F_is_row (hr.mono (by omega)) (by rfl) m_is_row k_is_row b_is_row (passX rfl rfl rfl rfl) (da_cons (de_var 0) da_nil)) (de_and (de_cmp (op_eqU hu) ref_eq (nomark _) (de_callB call_len refc_len (by rfl) B.len bLen (da_cons (de_var 0) da_nil)) (de_var 1)) (de_one (de_callB (cr_all rfl) refc_all (by rfl) B.all bAll (da_cons (de_give (df_lc (own := [("one", 3)]) (i := 3) rfl sc_are_numbers.nd (di_seq (de_var 0)) (blkOk_by (N := n_are_numbers) (sc := defScope s_are_numbers) (by decide +kernel)) (by decide) (fun _ _ _ _ _ => pg_name (i := 3) sc_are_numbers.nd rfl (by first | exact Or.inl rfl | exact Or.inr rfl)) (fun _ _ _ _ _ => dts_nil) (fun _ _ _ _ _ => (de_call F_is_within (hr.mono (by omega)) (by rfl) m_is_within k_is_within b_is_within passL (da_cons (de_var 3) (da_cons de_int (da_cons (de_var 2) da_nil))))))) da_nil))))))), law⟩
/-! ### is_heavy -/
abbrev s_is_heavy : Stmt := top 28
def n_is_heavy : List Str := ["row", "one"]
theorem sc_is_heavy : FnScope n_is_heavy ["row"] (defScope s_is_heavy) := ⟨rfl, rfl, rfl, by decide +kernel, rfl, by decide +kernel, by decide +kernel⟩
def w_is_heavy  : WS :=
    (wRet (wCB gAny (wCons (wGive (wLc [1] (wSeqI (wVar 0)) (wgName 1) wTrue (wOp (fEq true) (wVar 1) (wC (.int 0))))) wNil)))
theorem ok_is_heavy {P : Program} {w : World} {K : PySem.W.Frag} {mg : Str → Option Value} {base : Heap} {f : Addr} {fd : FuncData}  (F0 : Fun K "is_heavy" "is_heavy" s_is_heavy f fd) (B : Bl mg)  {sp : DSp} (len : ∀ ds n Qd Qe, sp ds n Qd Qe → ds.length = 1) (law : ∀ ds n Qd Qe, sp ds n Qd Qe → w_is_heavy Qe ⟨fun s1 => Qd .non s1.n, Qd, fun _ => False, fun _ => False⟩ ⟨env0 n_is_heavy ds, n⟩) :
    FnOk P w K mg base (L2.CX P w) (0 + 1) f fd ["row"] (spD K sp) := by
  refine okD F0 sc_is_heavy len (fun cdv A outer s H E hr => ?_)
  have hu : (cxOf (L2.CX P w) P w K mg base n_is_heavy "is_heavy" (defScope s_is_heavy) f cdv A outer s H E).A.units + 64 < cLine := hr.units
  have hu0 : (cxOf (L2.CX P w) P w K mg base n_is_heavy "is_heavy" (defScope s_is_heavy) f cdv A outer s H E).A.units < cLine := hr.units0
  have hu1 : (cxOf (L2.CX P w) P w K mg base n_is_heavy "is_heavy" (defScope s_is_heavy) f cdv A outer s H E).A.units + 65 < cLine := room65 hr
  exact ⟨w_is_heavy,
    (dss_one (ds_ret (de_callB (cr_any rfl) refc_any (by rfl) B.any bAny (da_cons (de_give (df_lc (own := [("one", 1)]) (i := 1) rfl sc_is_heavy.nd (di_seq (de_var 0)) (blkOk_by (N := n_is_heavy) (sc := defScope s_is_heavy) (by decide +kernel)) (by decide) (fun _ _ _ _ _ => pg_name (i := 1) sc_is_heavy.nd rfl (by first | exact Or.inl rfl | exact Or.inr rfl)) (fun _ _ _ _ _ => dts_nil) (fun _ _ _ _ _ => (de_cmp (op_neU hu) ref_ne (nomark _) (de_var 1) de_int)))) da_nil)))), law⟩
/-! ### corners_in -/
abbrev s_corners_in : Stmt := top 29
def n_corners_in : List Str := ["value", "many", "one"]
theorem sc_corners_in : FnScope n_corners_in ["value"] (defScope s_corners_in) := ⟨rfl, rfl, rfl, by decide +kernel, rfl, by decide +kernel, by decide +kernel⟩
def w_corners_in  : WS :=
    (wSeq (wIfS (wOr (wNot (wT (wCall sp_is_row (wCons (wVar 0) wNil)))) (wOr (wNot (wChainN (wC (.int 1)) (wcCons fLe (wCB gLen (wCons (wVar 0) wNil)) (wcLast fLe (wC (.int 6)))))) (wNot (wT (wCall sp_is_row (wCons (wOp fIx (wVar 0) (wC (.int 0))) wNil)))))) (wRet (wC .non)) wNext)
    (wSeq (wAsg (wCB gLen (wCons (wOp fIx (wVar 0) (wC (.int 0))) wNil)) (wgName 1))
    (wSeq (wIfS (wOr (wNot (wChainN (wC (.int 1)) (wcCons fLe (wVar 1) (wcLast fLe (wC (.int 6)))))) (wNot (wT (wCB gAll (wCons (wGive (wLc [2] (wSeqI (wVar 0)) (wgName 2) wTrue (wCall sp_are_numbers (wCons (wVar 2) (wCons (wVar 1) (wCons (wC (.int 1000000)) wNil)))))) wNil))))) (wRet (wC .non)) wNext)
    (wRet (wIf (wT (wCB gAll (wCons (wGive (wLc [2] (wSeqI (wVar 0)) (wgName 2) wTrue (wCall sp_is_heavy (wCons (wVar 2) wNil)))) wNil))) (wCall sp_fixed (wCons (wVar 0) wNil)) (wC .non))))))
theorem ok_corners_in {P : Program} {w : World} {K : PySem.W.Frag} {mg : Str → Option Value} {base : Heap} {f : Addr} {fd : FuncData}  (F0 : Fun K "corners_in" "corners_in" s_corners_in f fd) (B : Bl mg) (c_MOST_CORNERS : ∃ t, mg "MOST_CORNERS" = some (.int 6 t)) (c_MOST_NUMBER : ∃ t, mg "MOST_NUMBER" = some (.int 1000000 t)) (q_is_row : CalF P w K mg base 1 "is_row" ["value"] sp_is_row) (q_are_numbers : CalF P w K mg base 3 "are_numbers" ["value", "many", "most"] sp_are_numbers) (q_is_heavy : CalF P w K mg base 1 "is_heavy" ["row"] sp_is_heavy) (q_fixed : CalF P w K mg base 2 "fixed" ["value"] sp_fixed) {sp : DSp} (len : ∀ ds n Qd Qe, sp ds n Qd Qe → ds.length = 1) (law : ∀ ds n Qd Qe, sp ds n Qd Qe → w_corners_in Qe ⟨fun s1 => Qd .non s1.n, Qd, fun _ => False, fun _ => False⟩ ⟨env0 n_corners_in ds, n⟩) :
    FnOk P w K mg base (L2.CX P w) (3 + 1) f fd ["value"] (spD K sp) := by
  obtain ⟨t_MOST_CORNERS, h_MOST_CORNERS⟩ := c_MOST_CORNERS
  obtain ⟨t_MOST_NUMBER, h_MOST_NUMBER⟩ := c_MOST_NUMBER
  obtain ⟨f_is_row, fd_is_row, F_is_row, m_is_row, k_is_row, b_is_row⟩ := q_is_row.ex
  obtain ⟨f_are_numbers, fd_are_numbers, F_are_numbers, m_are_numbers, k_are_numbers, b_are_numbers⟩ := q_are_numbers.ex
  obtain ⟨f_is_heavy, fd_is_heavy, F_is_heavy, m_is_heavy, k_is_heavy, b_is_heavy⟩ := q_is_heavy.ex
  obtain ⟨f_fixed, fd_fixed, F_fixed, m_fixed, k_fixed, b_fixed⟩ := q_fixed.ex
  refine okD F0 sc_corners_in len (fun cdv A outer s H E hr => ?_)
  exact ⟨w_corners_in,
    (dss_cons (ds_if (dw_or (dt_not (dt_val (de_call F_is_row (hr.mono (by omega)) (by rfl) m_is_row k_is_row b_is_row (passX rfl rfl rfl rfl) (da_cons (de_var 0) da_nil)))) (dw_or (dt_not (dt_chainN de_int (dc_cons op_le ref_le (de_callB call_len refc_len (by rfl) B.len bLen (da_cons (de_var 0) da_nil)) (dc_last op_le ref_le (de_glob (v := .int 6) (by rfl) h_MOST_CORNERS ⟨_, rfl⟩))))) (dw_or1 (dt_not (dt_val (de_call F_is_row (hr.mono (by omega)) (by rfl) m_is_row k_is_row b_is_row (passX rfl rfl rfl rfl) (da_cons (de_ix (de_var 0) de_int) da_nil))))))).dt (dss_one (ds_ret de_non)) dss_nil)
      (dss_cons (ds_set (i := 1) sc_corners_in.nd rfl (by first | exact Or.inl rfl | exact Or.inr rfl) (de_callB call_len refc_len (by rfl) B.len bLen (da_cons (de_ix (de_var 0) de_int) da_nil)))
      (dss_cons (ds_if (dw_or (dt_not (dt_chainN de_int (dc_cons op_le ref_le (de_var 1) (dc_last op_le ref_le (de_glob (v := .int 6) (by rfl) h_MOST_CORNERS ⟨_, rfl⟩))))) (dw_or1 (dt_not (dt_val (de_callB (cr_all rfl) refc_all (by rfl) B.all bAll (da_cons (de_give (df_lc (own := [("one", 2)]) (i := 2) rfl sc_corners_in.nd (di_seq (de_var 0)) (blkOk_by (N := n_corners_in) (sc := defScope s_corners_in) (by decide +kernel)) (by decide) (fun _ _ _ _ _ => pg_name (i := 2) sc_corners_in.nd rfl (by first | exact Or.inl rfl | exact Or.inr rfl)) (fun _ _ _ _ _ => dts_nil) (fun _ _ _ _ _ => (de_call F_are_numbers (hr.mono (by omega)) (by rfl) m_are_numbers k_are_numbers b_are_numbers passL (da_cons (de_var 2) (da_cons (de_var 1) (da_cons (de_glob (v := .int 1000000) (by rfl) h_MOST_NUMBER ⟨_, rfl⟩) da_nil))))))) da_nil)))))).dt (dss_one (ds_ret de_non)) dss_nil)
      (dss_one (ds_ret (de_if (dt_val (de_callB (cr_all rfl) refc_all (by rfl) B.all bAll (da_cons (de_give (df_lc (own := [("one", 2)]) (i := 2) rfl sc_corners_in.nd (di_seq (de_var 0)) (blkOk_by (N := n_corners_in) (sc := defScope s_corners_in) (by decide +kernel)) (by decide) (fun _ _ _ _ _ => pg_name (i := 2) sc_corners_in.nd rfl (by first | exact Or.inl rfl | exact Or.inr rfl)) (fun _ _ _ _ _ => dts_nil) (fun _ _ _ _ _ => (de_call F_is_heavy (hr.mono (by omega)) (by rfl) m_is_heavy k_is_heavy b_is_heavy passL (da_cons (de_var 2) da_nil))))) da_nil))) (de_call F_fixed (hr.mono (by omega)) (by rfl) m_fixed k_fixed b_fixed (passX rfl rfl rfl rfl) (da_cons (de_var 0) da_nil)) de_non)))))), law⟩
/-! ### Field___init__ -/
abbrev s_Field___init__ : Stmt := inC 30 0
def n_Field___init__ : List Str := ["self", "corners"]
theorem sc_Field___init__ : FnScope n_Field___init__ ["self", "corners"] (defScope s_Field___init__) := ⟨rfl, rfl, rfl, by decide +kernel, rfl, by decide +kernel, by decide +kernel⟩
def w_Field___init__ (CFi CF : Addr) : WS :=
    (wSeq (wSetFld CFi "corners" (wVar 0) (wCall sp_corners_in (wCons (wVar 1) wNil)))
    (wSeq (wIfS (wT (wIsN false (wFldU CFi "corners" (wVar 0)))) (wRaise CF (wC (.str "corners"))) wNext)
    (wSetFld CFi "width" (wVar 0) (wCB gLen (wCons (wOp fIx (wFldU CFi "corners" (wVar 0)) (wC (.int 0))) wNil)))))
theorem ok_Field___init__ {P : Program} {w : World} {K : PySem.W.Frag} {mg : Str → Option Value} {base : Heap} {f : Addr} {fd : FuncData} {CFi CF : Addr} (F0 : Fun K "__init__" "Field.__init__" s_Field___init__ f fd) (B : Bl mg) (hCF : Er P w K mg base "BadField" CF) (cl_Field : Cls K CFi) (nField_corners : NoAttr K CFi "corners") (nField_width : NoAttr K CFi "width") (q_corners_in : CalF P w K mg base 4 "corners_in" ["value"] sp_corners_in) {sp : DSp} (len : ∀ ds n Qd Qe, sp ds n Qd Qe → ds.length = 2) (law : ∀ ds n Qd Qe, sp ds n Qd Qe → w_Field___init__ CFi CF Qe ⟨fun s1 => Qd .non s1.n, Qd, fun _ => False, fun _ => False⟩ ⟨env0 n_Field___init__ ds, n⟩) :
    FnOk P w K mg base (L2.CX P w) (4 + 1) f fd ["self", "corners"] (spD K sp) := by
  obtain ⟨f_corners_in, fd_corners_in, F_corners_in, m_corners_in, k_corners_in, b_corners_in⟩ := q_corners_in.ex
  refine okD F0 sc_Field___init__ len (fun cdv A outer s H E hr => ?_)
  exact ⟨w_Field___init__ CFi CF,
    (dss_cons (ds_setFld cl_Field nField_corners (de_var 0) (de_call F_corners_in (hr.mono (by omega)) (by rfl) m_corners_in k_corners_in b_corners_in (passX rfl rfl rfl rfl) (da_cons (de_var 1) da_nil)))
      (dss_cons (ds_if (dt_isN (de_fldU cl_Field nField_corners (de_var 0))) (dss_one (ds_raise hCF (hr.mono (by omega)) rfl rfl rfl rfl de_str)) dss_nil)
      (dss_one (ds_setFld cl_Field nField_width (de_var 0) (de_callB call_len refc_len (by rfl) B.len bLen (da_cons (de_ix (de_fldU cl_Field nField_corners (de_var 0)) de_int) da_nil)))))), law⟩
/-! ### whole_of -/
abbrev s_whole_of : Stmt := top 33
def n_whole_of : List Str := ["word", "most", "sign"]
theorem sc_whole_of : FnScope n_whole_of ["word", "most"] (defScope s_whole_of) := ⟨rfl, rfl, rfl, by decide +kernel, rfl, by decide +kernel, by decide +kernel⟩
def w_whole_of  : WS :=
    (wSeq (wIfS (wOr (wT (wOp fGt (wCB gLen (wCons (wVar 0) wNil)) (wCB gLen (wCons (wCB gStrI (wCons (wVar 1) wNil)) wNil)))) (wOr (wT (wOp (fEq false) (wVar 0) (wC (.str "")))) (wNot (wT (wCB gAll (wCons (wGive (wLc [2] (wStrI (wVar 0)) (wgName 2) wTrue (wOp (fInS false) (wVar 2) (wC (.str "0123456789"))))) wNil)))))) (wRet (wC .non)) wNext)
    (wSeq (wIfS (wAnd (wT (wOp (fEq false) (wOp fIxS (wVar 0) (wC (.int 0))) (wC (.str "0")))) (wT (wOp (fEq true) (wVar 0) (wC (.str "0"))))) (wRet (wC .non)) wNext)
    (wRet (wIf (wT (wOp fLe (wCB gIntS (wCons (wVar 0) wNil)) (wVar 1))) (wCB gIntS (wCons (wVar 0) wNil)) (wC .non)))))
theorem ok_whole_of {P : Program} {w : World} {K : PySem.W.Frag} {mg : Str → Option Value} {base : Heap} {f : Addr} {fd : FuncData}  (F0 : Fun K "whole_of" "whole_of" s_whole_of f fd) (B : Bl mg) (c_FIGURES : ∃ t, mg "FIGURES" = some (.str "0123456789" t)) {sp : DSp} (len : ∀ ds n Qd Qe, sp ds n Qd Qe → ds.length = 2) (law : ∀ ds n Qd Qe, sp ds n Qd Qe → w_whole_of Qe ⟨fun s1 => Qd .non s1.n, Qd, fun _ => False, fun _ => False⟩ ⟨env0 n_whole_of ds, n⟩) :
    FnOk P w K mg base (L2.CX P w) (0 + 1) f fd ["word", "most"] (spD K sp) := by
  obtain ⟨t_FIGURES, h_FIGURES⟩ := c_FIGURES
  refine okD F0 sc_whole_of len (fun cdv A outer s H E hr => ?_)
  have hu : (cxOf (L2.CX P w) P w K mg base n_whole_of "whole_of" (defScope s_whole_of) f cdv A outer s H E).A.units + 64 < cLine := hr.units
  have hu0 : (cxOf (L2.CX P w) P w K mg base n_whole_of "whole_of" (defScope s_whole_of) f cdv A outer s H E).A.units < cLine := hr.units0
  have hu1 : (cxOf (L2.CX P w) P w K mg base n_whole_of "whole_of" (defScope s_whole_of) f cdv A outer s H E).A.units + 65 < cLine := room65 hr
  exact ⟨w_whole_of,
    (dss_cons (ds_if (dw_or (dt_cmp op_gt ref_gt (nomark _) (de_callB call_len refc_len (by rfl) B.len bLen (da_cons (de_var 0) da_nil)) (de_callB call_len refc_len (by rfl) B.len bLen (da_cons (de_callTy call_str_int refc_strI (by rfl) B.str bStr (da_cons (de_var 1) da_nil)) da_nil))) (dw_or (dt_cmp (op_eqU hu) ref_eq (nomark _) (de_var 0) de_str) (dw_or1 (dt_not (dt_val (de_callB (cr_all rfl) refc_all (by rfl) B.all bAll (da_cons (de_give (df_lc (own := [("sign", 2)]) (i := 2) rfl sc_whole_of.nd (di_str (de_var 0)) (blkOk_by (N := n_whole_of) (sc := defScope s_whole_of) (by decide +kernel)) (by decide) (fun _ _ _ _ _ => pg_name (i := 2) sc_whole_of.nd rfl (by first | exact Or.inl rfl | exact Or.inr rfl)) (fun _ _ _ _ _ => dts_nil) (fun _ _ _ _ _ => (de_cmp op_inSg ref_inSg (by with_unfolding_all rfl) (de_var 2) (de_glob (v := .str "0123456789") (by rfl) h_FIGURES ⟨_, rfl⟩))))) da_nil))))))).dt (dss_one (ds_ret de_non)) dss_nil)
      (dss_cons (ds_if (dw_and (dt_cmp (op_eqU hu) ref_eq (nomark _) (de_ixS (de_var 0) de_int) de_str) (dw_and1 (dt_cmp (op_neU hu) ref_ne (nomark _) (de_var 0) de_str))).dt (dss_one (ds_ret de_non)) dss_nil)
      (dss_one (ds_ret (de_if (dt_cmp op_le ref_le (nomark _) (de_callTy call_int_str refc_intS (by rfl) B.int bInt (da_cons (de_var 0) da_nil)) (de_var 1)) (de_callTy call_int_str refc_intS (by rfl) B.int bInt (da_cons (de_var 0) da_nil)) de_non))))), law⟩
/-! ### Line___init__ -/
abbrev s_Line___init__ : Stmt := inC 34 0
def n_Line___init__ : List Str := ["self", "number", "text"]
theorem sc_Line___init__ : FnScope n_Line___init__ ["self", "number", "text"] (defScope s_Line___init__) := ⟨rfl, rfl, rfl, by decide +kernel, rfl, by decide +kernel, by decide +kernel⟩
def w_Line___init__ (CLi : Addr) : WS :=
    (wSeq (wSetFld CLi "number" (wVar 0) (wVar 1))
    (wSeq (wSetFld CLi "words" (wVar 0) (wSplit (wVar 2) (wC (.str " "))))
    (wSetFld CLi "at" (wVar 0) (wC (.int 0)))))
theorem ok_Line___init__ {P : Program} {w : World} {K : PySem.W.Frag} {mg : Str → Option Value} {base : Heap} {f : Addr} {fd : FuncData} {CLi : Addr} (F0 : Fun K "__init__" "Line.__init__" s_Line___init__ f fd) (B : Bl mg) (cl_Line : Cls K CLi) (nLine_at : NoAttr K CLi "at") (nLine_number : NoAttr K CLi "number") (nLine_words : NoAttr K CLi "words") {sp : DSp} (len : ∀ ds n Qd Qe, sp ds n Qd Qe → ds.length = 3) (law : ∀ ds n Qd Qe, sp ds n Qd Qe → w_Line___init__ CLi Qe ⟨fun s1 => Qd .non s1.n, Qd, fun _ => False, fun _ => False⟩ ⟨env0 n_Line___init__ ds, n⟩) :
    FnOk P w K mg base (L2.CX P w) (0 + 1) f fd ["self", "number", "text"] (spD K sp) := by
  refine okD F0 sc_Line___init__ len (fun cdv A outer s H E hr => ?_)
  exact ⟨w_Line___init__ CLi,
    (dss_cons (ds_setFld cl_Line nLine_number (de_var 0) (de_var 1))
      (dss_cons (ds_setFld cl_Line nLine_words (de_var 0) (de_split (de_var 2) de_str))
      (dss_one (ds_setFld cl_Line nLine_at (de_var 0) de_int)))), law⟩
/-! ### Line_stop -/
abbrev s_Line_stop : Stmt := inC 34 1
def n_Line_stop : List Str := ["self"]
theorem sc_Line_stop : FnScope n_Line_stop ["self"] (defScope s_Line_stop) := ⟨rfl, rfl, rfl, by decide +kernel, rfl, by decide +kernel, by decide +kernel⟩
def w_Line_stop (CT CLi : Addr) : WS :=
    (wRaise2 CT "line" "word" (wFldU CLi "number" (wVar 0)) (wFldU CLi "at" (wVar 0)))
theorem ok_Line_stop {P : Program} {w : World} {K : PySem.W.Frag} {mg : Str → Option Value} {base : Heap} {f : Addr} {fd : FuncData} {CT CLi : Addr} (F0 : Fun K "stop" "Line.stop" s_Line_stop f fd) (B : Bl mg) (hCT : Er2 P w K mg base "BadText" CT "line" "word") (cl_Line : Cls K CLi) (nLine_at : NoAttr K CLi "at") (nLine_number : NoAttr K CLi "number") {sp : DSp} (len : ∀ ds n Qd Qe, sp ds n Qd Qe → ds.length = 1) (law : ∀ ds n Qd Qe, sp ds n Qd Qe → w_Line_stop CT CLi Qe ⟨fun s1 => Qd .non s1.n, Qd, fun _ => False, fun _ => False⟩ ⟨env0 n_Line_stop ds, n⟩) :
    FnOk P w K mg base (L2.CX P w) (2 + 1) f fd ["self"] (spD K sp) := by
  refine okD F0 sc_Line_stop len (fun cdv A outer s H E hr => ?_)
  exact ⟨w_Line_stop CT CLi,
    (dss_one (ds_raise2 hCT (hr.mono (by omega)) rfl rfl rfl rfl (de_fldU cl_Line nLine_number (de_var 0)) (de_fldU cl_Line nLine_at (de_var 0)))), law⟩
/-! ### Line_ahead -/
abbrev s_Line_ahead : Stmt := inC 34 2
def n_Line_ahead : List Str := ["self"]
theorem sc_Line_ahead : FnScope n_Line_ahead ["self"] (defScope s_Line_ahead) := ⟨rfl, rfl, rfl, by decide +kernel, rfl, by decide +kernel, by decide +kernel⟩
def w_Line_ahead (CLi : Addr) : WS :=
    (wRet (wIf (wT (wOp fLt (wFldU CLi "at" (wVar 0)) (wCB gLen (wCons (wFldU CLi "words" (wVar 0)) wNil)))) (wOp fIx (wFldU CLi "words" (wVar 0)) (wFldU CLi "at" (wVar 0))) (wC .non)))
theorem ok_Line_ahead {P : Program} {w : World} {K : PySem.W.Frag} {mg : Str → Option Value} {base : Heap} {f : Addr} {fd : FuncData} {CLi : Addr} (F0 : Fun K "ahead" "Line.ahead" s_Line_ahead f fd) (B : Bl mg) (cl_Line : Cls K CLi) (nLine_at : NoAttr K CLi "at") (nLine_words : NoAttr K CLi "words") {sp : DSp} (len : ∀ ds n Qd Qe, sp ds n Qd Qe → ds.length = 1) (law : ∀ ds n Qd Qe, sp ds n Qd Qe → w_Line_ahead CLi Qe ⟨fun s1 => Qd .non s1.n, Qd, fun _ => False, fun _ => False⟩ ⟨env0 n_Line_ahead ds, n⟩) :
    FnOk P w K mg base (L2.CX P w) (0 + 1) f fd ["self"] (spD K sp) := by
  refine okD F0 sc_Line_ahead len (fun cdv A outer s H E hr => ?_)
  exact ⟨w_Line_ahead CLi,
    (dss_one (ds_ret (de_if (dt_cmp op_lt ref_lt (nomark _) (de_fldU cl_Line nLine_at (de_var 0)) (de_callB call_len refc_len (by rfl) B.len bLen (da_cons (de_fldU cl_Line nLine_words (de_var 0)) da_nil))) (de_ix (de_fldU cl_Line nLine_words (de_var 0)) (de_fldU cl_Line nLine_at (de_var 0))) de_non))), law⟩
/-! ### Line_take -/
abbrev s_Line_take : Stmt := inC 34 3
def n_Line_take : List Str := ["self", "word"]
theorem sc_Line_take : FnScope n_Line_take ["self"] (defScope s_Line_take) := ⟨rfl, rfl, rfl, by decide +kernel, rfl, by decide +kernel, by decide +kernel⟩
def w_Line_take (CT CLi : Addr) : WS :=
    (wSeq (wAsg (wMeth CLi "ahead" (sp_ahead CLi) (wVar 0) wNil) (wgName 1))
    (wSeq (wIfS (wT (wIsN false (wVar 1))) (wDrop (wMeth CLi "stop" (sp_stop CLi CT) (wVar 0) wNil)) wNext)
    (wSeq (wSetFld CLi "at" (wVar 0) (wOp fAdd (wFldU CLi "at" (wVar 0)) (wC (.int 1))))
    (wRet (wVar 1)))))
theorem ok_Line_take {P : Program} {w : World} {K : PySem.W.Frag} {mg : Str → Option Value} {base : Heap} {f : Addr} {fd : FuncData} {CT CLi : Addr} (F0 : Fun K "take" "Line.take" s_Line_take f fd) (B : Bl mg) (cl_Line : Cls K CLi) (nLine_at : NoAttr K CLi "at") (mt_Line_ahead : CalM P w K mg base 1 CLi "ahead" ["self"] (sp_ahead CLi)) (mt_Line_stop : CalM P w K mg base 3 CLi "stop" ["self"] (sp_stop CLi CT)) {sp : DSp} (len : ∀ ds n Qd Qe, sp ds n Qd Qe → ds.length = 1) (law : ∀ ds n Qd Qe, sp ds n Qd Qe → w_Line_take CT CLi Qe ⟨fun s1 => Qd .non s1.n, Qd, fun _ => False, fun _ => False⟩ ⟨env0 n_Line_take ds, n⟩) :
    FnOk P w K mg base (L2.CX P w) (3 + 1) f fd ["self"] (spD K sp) := by
  refine okD F0 sc_Line_take len (fun cdv A outer s H E hr => ?_)
  exact ⟨w_Line_take CT CLi,
    (dss_cons (ds_set (i := 1) sc_Line_take.nd rfl (by first | exact Or.inl rfl | exact Or.inr rfl) (de_mth0 cl_Line mt_Line_ahead (hr.mono (by omega)) (passX rfl rfl rfl rfl) (de_var 0)))
      (dss_cons (ds_if (dt_isN (de_var 1)) (dss_one (ds_expr (de_mth0 cl_Line mt_Line_stop (hr.mono (by omega)) (passX rfl rfl rfl rfl) (de_var 0)))) dss_nil)
      (dss_cons (ds_setFld cl_Line nLine_at (de_var 0) (de_add (de_fldU cl_Line nLine_at (de_var 0)) de_int))
      (dss_one (ds_ret (de_var 1)))))), law⟩
/-! ### Line_take_one -/
abbrev s_Line_take_one : Stmt := inC 34 4
def n_Line_take_one : List Str := ["self", "words"]
theorem sc_Line_take_one : FnScope n_Line_take_one ["self", "words"] (defScope s_Line_take_one) := ⟨rfl, rfl, rfl, by decide +kernel, rfl, by decide +kernel, by decide +kernel⟩
def w_Line_take_one (CT CLi : Addr) : WS :=
    (wSeq (wIfS (wOr (wT (wIsN false (wMeth CLi "ahead" (sp_ahead CLi) (wVar 0) wNil))) (wT (wOp (fInTx true) (wMeth CLi "ahead" (sp_ahead CLi) (wVar 0) wNil) (wVar 1)))) (wDrop (wMeth CLi "stop" (sp_stop CLi CT) (wVar 0) wNil)) wNext)
    (wRet (wMeth CLi "take" (sp_take CLi CT) (wVar 0) wNil)))
theorem ok_Line_take_one {P : Program} {w : World} {K : PySem.W.Frag} {mg : Str → Option Value} {base : Heap} {f : Addr} {fd : FuncData} {CT CLi : Addr} (F0 : Fun K "take_one" "Line.take_one" s_Line_take_one f fd) (B : Bl mg) (cl_Line : Cls K CLi) (mt_Line_ahead : CalM P w K mg base 1 CLi "ahead" ["self"] (sp_ahead CLi)) (mt_Line_stop : CalM P w K mg base 3 CLi "stop" ["self"] (sp_stop CLi CT)) (mt_Line_take : CalM P w K mg base 4 CLi "take" ["self"] (sp_take CLi CT)) {sp : DSp} (len : ∀ ds n Qd Qe, sp ds n Qd Qe → ds.length = 2) (law : ∀ ds n Qd Qe, sp ds n Qd Qe → w_Line_take_one CT CLi Qe ⟨fun s1 => Qd .non s1.n, Qd, fun _ => False, fun _ => False⟩ ⟨env0 n_Line_take_one ds, n⟩) :
    FnOk P w K mg base (L2.CX P w) (4 + 1) f fd ["self", "words"] (spD K sp) := by
  refine okD F0 sc_Line_take_one len (fun cdv A outer s H E hr => ?_)
  exact ⟨w_Line_take_one CT CLi,
    (dss_cons (ds_if (dw_or (dt_isN (de_mth0 cl_Line mt_Line_ahead (hr.mono (by omega)) (passX rfl rfl rfl rfl) (de_var 0))) (dw_or1 (dt_cmp op_notIn_seq ref_inTx (by with_unfolding_all rfl) (de_mth0 cl_Line mt_Line_ahead (hr.mono (by omega)) (passX rfl rfl rfl rfl) (de_var 0)) (de_var 1)))).dt (dss_one (ds_expr (de_mth0 cl_Line mt_Line_stop (hr.mono (by omega)) (passX rfl rfl rfl rfl) (de_var 0)))) dss_nil)
      (dss_one (ds_ret (de_mth0 cl_Line mt_Line_take (hr.mono (by omega)) (passX rfl rfl rfl rfl) (de_var 0))))), law⟩
/-! ### Line_take_whole -/
abbrev s_Line_take_whole : Stmt := inC 34 6
def n_Line_take_whole : List Str := ["self", "most", "word", "found"]
theorem sc_Line_take_whole : FnScope n_Line_take_whole ["self", "most"] (defScope s_Line_take_whole) := ⟨rfl, rfl, rfl, by decide +kernel, rfl, by decide +kernel, by decide +kernel⟩
def w_Line_take_whole (CT CLi : Addr) : WS :=
    (wSeq (wAsg (wMeth CLi "ahead" (sp_ahead CLi) (wVar 0) wNil) (wgName 2))
    (wSeq (wAsg (wIf (wT (wIsN false (wVar 2))) (wC .non) (wCall sp_whole_of (wCons (wVar 2) (wCons (wVar 1) wNil)))) (wgName 3))
    (wSeq (wIfS (wT (wIsN false (wVar 3))) (wDrop (wMeth CLi "stop" (sp_stop CLi CT) (wVar 0) wNil)) wNext)
    (wSeq (wDrop (wMeth CLi "take" (sp_take CLi CT) (wVar 0) wNil))
    (wRet (wVar 3))))))
theorem ok_Line_take_whole {P : Program} {w : World} {K : PySem.W.Frag} {mg : Str → Option Value} {base : Heap} {f : Addr} {fd : FuncData} {CT CLi : Addr} (F0 : Fun K "take_whole" "Line.take_whole" s_Line_take_whole f fd) (B : Bl mg) (cl_Line : Cls K CLi) (mt_Line_ahead : CalM P w K mg base 1 CLi "ahead" ["self"] (sp_ahead CLi)) (mt_Line_stop : CalM P w K mg base 3 CLi "stop" ["self"] (sp_stop CLi CT)) (mt_Line_take : CalM P w K mg base 4 CLi "take" ["self"] (sp_take CLi CT)) (q_whole_of : CalF P w K mg base 1 "whole_of" ["word", "most"] sp_whole_of) {sp : DSp} (len : ∀ ds n Qd Qe, sp ds n Qd Qe → ds.length = 2) (law : ∀ ds n Qd Qe, sp ds n Qd Qe → w_Line_take_whole CT CLi Qe ⟨fun s1 => Qd .non s1.n, Qd, fun _ => False, fun _ => False⟩ ⟨env0 n_Line_take_whole ds, n⟩) :
    FnOk P w K mg base (L2.CX P w) (4 + 1) f fd ["self", "most"] (spD K sp) := by
  obtain ⟨f_whole_of, fd_whole_of, F_whole_of, m_whole_of, k_whole_of, b_whole_of⟩ := q_whole_of.ex
  refine okD F0 sc_Line_take_whole len (fun cdv A outer s H E hr => ?_)
  exact ⟨w_Line_take_whole CT CLi,
    (dss_cons (ds_set (i := 2) sc_Line_take_whole.nd rfl (by first | exact Or.inl rfl | exact Or.inr rfl) (de_mth0 cl_Line mt_Line_ahead (hr.mono (by omega)) (passX rfl rfl rfl rfl) (de_var 0)))
      (dss_cons (ds_set (i := 3) sc_Line_take_whole.nd rfl (by first | exact Or.inl rfl | exact Or.inr rfl) (de_if (dt_isN (de_var 2)) de_non (de_call F_whole_of (hr.mono (by omega)) (by rfl) m_whole_of k_whole_of b_whole_of (passX rfl rfl rfl rfl) (da_cons (de_var 2) (da_cons (de_var 1) da_nil)))))
      (dss_cons (ds_if (dt_isN (de_var 3)) (dss_one (ds_expr (de_mth0 cl_Line mt_Line_stop (hr.mono (by omega)) (passX rfl rfl rfl rfl) (de_var 0)))) dss_nil)
      (dss_cons (ds_expr (de_mth0 cl_Line mt_Line_take (hr.mono (by omega)) (passX rfl rfl rfl rfl) (de_var 0)))
      (dss_one (ds_ret (de_var 3))))))), law⟩
/-! ### Line_back -/
abbrev s_Line_back : Stmt := inC 34 7
def n_Line_back : List Str := ["self"]
theorem sc_Line_back : FnScope n_Line_back ["self"] (defScope s_Line_back) := ⟨rfl, rfl, rfl, by decide +kernel, rfl, by decide +kernel, by decide +kernel⟩
def w_Line_back (CT CLi : Addr) : WS :=
    (wRaise2 CT "line" "word" (wFldU CLi "number" (wVar 0)) (wOp (fInt0 fun i j => .int (i - j)) (wFldU CLi "at" (wVar 0)) (wC (.int 1))))
theorem ok_Line_back {P : Program} {w : World} {K : PySem.W.Frag} {mg : Str → Option Value} {base : Heap} {f : Addr} {fd : FuncData} {CT CLi : Addr} (F0 : Fun K "back" "Line.back" s_Line_back f fd) (B : Bl mg) (hCT : Er2 P w K mg base "BadText" CT "line" "word") (cl_Line : Cls K CLi) (nLine_at : NoAttr K CLi "at") (nLine_number : NoAttr K CLi "number") {sp : DSp} (len : ∀ ds n Qd Qe, sp ds n Qd Qe → ds.length = 1) (law : ∀ ds n Qd Qe, sp ds n Qd Qe → w_Line_back CT CLi Qe ⟨fun s1 => Qd .non s1.n, Qd, fun _ => False, fun _ => False⟩ ⟨env0 n_Line_back ds, n⟩) :
    FnOk P w K mg base (L2.CX P w) (2 + 1) f fd ["self"] (spD K sp) := by
  refine okD F0 sc_Line_back len (fun cdv A outer s H E hr => ?_)
  exact ⟨w_Line_back CT CLi,
    (dss_one (ds_raise2 hCT (hr.mono (by omega)) rfl rfl rfl rfl (de_fldU cl_Line nLine_number (de_var 0)) (de_sub (de_fldU cl_Line nLine_at (de_var 0)) de_int))), law⟩
/-! ### Line_end -/
abbrev s_Line_end : Stmt := inC 34 8
def n_Line_end : List Str := ["self"]
theorem sc_Line_end : FnScope n_Line_end ["self"] (defScope s_Line_end) := ⟨rfl, rfl, rfl, by decide +kernel, rfl, by decide +kernel, by decide +kernel⟩
def w_Line_end (CT CLi : Addr) : WS :=
    (wIfS (wT (wIsN true (wMeth CLi "ahead" (sp_ahead CLi) (wVar 0) wNil))) (wDrop (wMeth CLi "stop" (sp_stop CLi CT) (wVar 0) wNil)) wNext)
theorem ok_Line_end {P : Program} {w : World} {K : PySem.W.Frag} {mg : Str → Option Value} {base : Heap} {f : Addr} {fd : FuncData} {CT CLi : Addr} (F0 : Fun K "end" "Line.end" s_Line_end f fd) (B : Bl mg) (cl_Line : Cls K CLi) (mt_Line_ahead : CalM P w K mg base 1 CLi "ahead" ["self"] (sp_ahead CLi)) (mt_Line_stop : CalM P w K mg base 3 CLi "stop" ["self"] (sp_stop CLi CT)) {sp : DSp} (len : ∀ ds n Qd Qe, sp ds n Qd Qe → ds.length = 1) (law : ∀ ds n Qd Qe, sp ds n Qd Qe → w_Line_end CT CLi Qe ⟨fun s1 => Qd .non s1.n, Qd, fun _ => False, fun _ => False⟩ ⟨env0 n_Line_end ds, n⟩) :
    FnOk P w K mg base (L2.CX P w) (3 + 1) f fd ["self"] (spD K sp) := by
  refine okD F0 sc_Line_end len (fun cdv A outer s H E hr => ?_)
  exact ⟨w_Line_end CT CLi,
    (dss_one (ds_if (dt_notN (de_mth0 cl_Line mt_Line_ahead (hr.mono (by omega)) (passX rfl rfl rfl rfl) (de_var 0))) (dss_one (ds_expr (de_mth0 cl_Line mt_Line_stop (hr.mono (by omega)) (passX rfl rfl rfl rfl) (de_var 0)))) dss_nil)), law⟩
/-! ### Lines___init__ -/
abbrev s_Lines___init__ : Stmt := inC 35 0
def n_Lines___init__ : List Str := ["self", "lines", "at"]
theorem sc_Lines___init__ : FnScope n_Lines___init__ ["self", "lines", "at"] (defScope s_Lines___init__) := ⟨rfl, rfl, rfl, by decide +kernel, rfl, by decide +kernel, by decide +kernel⟩
def w_Lines___init__ (CLs : Addr) : WS :=
    (wSeq (wSetFld CLs "lines" (wVar 0) (wVar 1))
    (wSetFld CLs "at" (wVar 0) (wVar 2)))
theorem ok_Lines___init__ {P : Program} {w : World} {K : PySem.W.Frag} {mg : Str → Option Value} {base : Heap} {f : Addr} {fd : FuncData} {CLs : Addr} (F0 : FunD K "__init__" "Lines.__init__" (defArgs s_Lines___init__) (defBody s_Lines___init__) (defScope s_Lines___init__) [.int 0] [] f fd) (B : Bl mg) (cl_Lines : Cls K CLs) (nLines_at : NoAttr K CLs "at") (nLines_lines : NoAttr K CLs "lines") {sp : DSp} (len : ∀ ds n Qd Qe, sp ds n Qd Qe → ds.length = 3) (law : ∀ ds n Qd Qe, sp ds n Qd Qe → w_Lines___init__ CLs Qe ⟨fun s1 => Qd .non s1.n, Qd, fun _ => False, fun _ => False⟩ ⟨env0 n_Lines___init__ ds, n⟩) :
    FnOk P w K mg base (L2.CX P w) (0 + 1) f fd ["self", "lines", "at"] (spD K sp) := by
  refine okDD F0 sc_Lines___init__ len (fun cdv A outer s H E hr => ?_)
  exact ⟨w_Lines___init__ CLs,
    (dss_cons (ds_setFld cl_Lines nLines_lines (de_var 0) (de_var 1))
      (dss_one (ds_setFld cl_Lines nLines_at (de_var 0) (de_var 2)))), law⟩
/-! ### Lines_head -/
abbrev s_Lines_head : Stmt := inC 35 1
def n_Lines_head : List Str := ["self"]
theorem sc_Lines_head : FnScope n_Lines_head ["self"] (defScope s_Lines_head) := ⟨rfl, rfl, rfl, by decide +kernel, rfl, by decide +kernel, by decide +kernel⟩
def w_Lines_head (CLi CLs : Addr) : WS :=
    (wRet (wIf (wT (wOp fLt (wFldU CLs "at" (wVar 0)) (wCB gLen (wCons (wFldU CLs "lines" (wVar 0)) wNil)))) (wOp fIx (wFldU CLi "words" (wOp fIx (wFldU CLs "lines" (wVar 0)) (wFldU CLs "at" (wVar 0)))) (wC (.int 0))) (wC .non)))
theorem ok_Lines_head {P : Program} {w : World} {K : PySem.W.Frag} {mg : Str → Option Value} {base : Heap} {f : Addr} {fd : FuncData} {CLi CLs : Addr} (F0 : Fun K "head" "Lines.head" s_Lines_head f fd) (B : Bl mg) (cl_Line : Cls K CLi) (cl_Lines : Cls K CLs) (nLine_words : NoAttr K CLi "words") (nLines_at : NoAttr K CLs "at") (nLines_lines : NoAttr K CLs "lines") {sp : DSp} (len : ∀ ds n Qd Qe, sp ds n Qd Qe → ds.length = 1) (law : ∀ ds n Qd Qe, sp ds n Qd Qe → w_Lines_head CLi CLs Qe ⟨fun s1 => Qd .non s1.n, Qd, fun _ => False, fun _ => False⟩ ⟨env0 n_Lines_head ds, n⟩) :
    FnOk P w K mg base (L2.CX P w) (0 + 1) f fd ["self"] (spD K sp) := by
  refine okD F0 sc_Lines_head len (fun cdv A outer s H E hr => ?_)
  exact ⟨w_Lines_head CLi CLs,
    (dss_one (ds_ret (de_if (dt_cmp op_lt ref_lt (nomark _) (de_fldU cl_Lines nLines_at (de_var 0)) (de_callB call_len refc_len (by rfl) B.len bLen (da_cons (de_fldU cl_Lines nLines_lines (de_var 0)) da_nil))) (de_ix (de_fldU cl_Line nLine_words (de_ix (de_fldU cl_Lines nLines_lines (de_var 0)) (de_fldU cl_Lines nLines_at (de_var 0)))) de_int) de_non))), law⟩
/-! ### Lines_next -/
abbrev s_Lines_next : Stmt := inC 35 2
def n_Lines_next : List Str := ["self", "word", "line"]
theorem sc_Lines_next : FnScope n_Lines_next ["self", "word"] (defScope s_Lines_next) := ⟨rfl, rfl, rfl, by decide +kernel, rfl, by decide +kernel, by decide +kernel⟩
def w_Lines_next (CT CLi CLs : Addr) : WS :=
    (wSeq (wIfS (wT (wOp fGe (wFldU CLs "at" (wVar 0)) (wCB gLen (wCons (wFldU CLs "lines" (wVar 0)) wNil)))) (wRaise2 CT "line" "word" (wCB gLen (wCons (wFldU CLs "lines" (wVar 0)) wNil)) (wC (.int 0))) wNext)
    (wSeq (wAsg (wOp fIx (wFldU CLs "lines" (wVar 0)) (wFldU CLs "at" (wVar 0))) (wgName 2))
    (wSeq (wDrop (wMeth CLi "take_one" (sp_take_one CLi CT) (wVar 2) (wCons (wGive (wLst (wCons (wVar 1) wNil))) wNil)))
    (wSeq (wSetFld CLs "at" (wVar 0) (wOp fAdd (wFldU CLs "at" (wVar 0)) (wC (.int 1))))
    (wRet (wVar 2))))))
theorem ok_Lines_next {P : Program} {w : World} {K : PySem.W.Frag} {mg : Str → Option Value} {base : Heap} {f : Addr} {fd : FuncData} {CT CLi CLs : Addr} (F0 : Fun K "next" "Lines.next" s_Lines_next f fd) (B : Bl mg) (hCT : Er2 P w K mg base "BadText" CT "line" "word") (cl_Line : Cls K CLi) (cl_Lines : Cls K CLs) (nLines_at : NoAttr K CLs "at") (nLines_lines : NoAttr K CLs "lines") (mt_Line_take_one : CalM P w K mg base 5 CLi "take_one" ["self", "words"] (sp_take_one CLi CT)) {sp : DSp} (len : ∀ ds n Qd Qe, sp ds n Qd Qe → ds.length = 2) (law : ∀ ds n Qd Qe, sp ds n Qd Qe → w_Lines_next CT CLi CLs Qe ⟨fun s1 => Qd .non s1.n, Qd, fun _ => False, fun _ => False⟩ ⟨env0 n_Lines_next ds, n⟩) :
    FnOk P w K mg base (L2.CX P w) (5 + 1) f fd ["self", "word"] (spD K sp) := by
  refine okD F0 sc_Lines_next len (fun cdv A outer s H E hr => ?_)
  exact ⟨w_Lines_next CT CLi CLs,
    (dss_cons (ds_if (dt_cmp op_ge ref_ge (nomark _) (de_fldU cl_Lines nLines_at (de_var 0)) (de_callB call_len refc_len (by rfl) B.len bLen (da_cons (de_fldU cl_Lines nLines_lines (de_var 0)) da_nil))) (dss_one (ds_raise2 hCT (hr.mono (by omega)) rfl rfl rfl rfl (de_callB call_len refc_len (by rfl) B.len bLen (da_cons (de_fldU cl_Lines nLines_lines (de_var 0)) da_nil)) de_int)) dss_nil)
      (dss_cons (ds_set (i := 2) sc_Lines_next.nd rfl (by first | exact Or.inl rfl | exact Or.inr rfl) (de_ix (de_fldU cl_Lines nLines_lines (de_var 0)) (de_fldU cl_Lines nLines_at (de_var 0))))
      (dss_cons (ds_expr (de_mth cl_Line mt_Line_take_one (hr.mono (by omega)) (passX rfl rfl rfl rfl) (de_var 2) (da_cons (de_lst (da_cons (de_var 1) da_nil)) da_nil)))
      (dss_cons (ds_setFld cl_Lines nLines_at (de_var 0) (de_add (de_fldU cl_Lines nLines_at (de_var 0)) de_int))
      (dss_one (ds_ret (de_var 2))))))), law⟩
/-! ### Lines_end -/
abbrev s_Lines_end : Stmt := inC 35 3
def n_Lines_end : List Str := ["self"]
theorem sc_Lines_end : FnScope n_Lines_end ["self"] (defScope s_Lines_end) := ⟨rfl, rfl, rfl, by decide +kernel, rfl, by decide +kernel, by decide +kernel⟩
def w_Lines_end (CT CLs : Addr) : WS :=
    (wIfS (wT (wOp fLt (wFldU CLs "at" (wVar 0)) (wCB gLen (wCons (wFldU CLs "lines" (wVar 0)) wNil)))) (wRaise2 CT "line" "word" (wFldU CLs "at" (wVar 0)) (wC (.int 0))) wNext)
theorem ok_Lines_end {P : Program} {w : World} {K : PySem.W.Frag} {mg : Str → Option Value} {base : Heap} {f : Addr} {fd : FuncData} {CT CLs : Addr} (F0 : Fun K "end" "Lines.end" s_Lines_end f fd) (B : Bl mg) (hCT : Er2 P w K mg base "BadText" CT "line" "word") (cl_Lines : Cls K CLs) (nLines_at : NoAttr K CLs "at") (nLines_lines : NoAttr K CLs "lines") {sp : DSp} (len : ∀ ds n Qd Qe, sp ds n Qd Qe → ds.length = 1) (law : ∀ ds n Qd Qe, sp ds n Qd Qe → w_Lines_end CT CLs Qe ⟨fun s1 => Qd .non s1.n, Qd, fun _ => False, fun _ => False⟩ ⟨env0 n_Lines_end ds, n⟩) :
    FnOk P w K mg base (L2.CX P w) (2 + 1) f fd ["self"] (spD K sp) := by
  refine okD F0 sc_Lines_end len (fun cdv A outer s H E hr => ?_)
  exact ⟨w_Lines_end CT CLs,
    (dss_one (ds_if (dt_cmp op_lt ref_lt (nomark _) (de_fldU cl_Lines nLines_at (de_var 0)) (de_callB call_len refc_len (by rfl) B.len bLen (da_cons (de_fldU cl_Lines nLines_lines (de_var 0)) da_nil))) (dss_one (ds_raise2 hCT (hr.mono (by omega)) rfl rfl rfl rfl (de_fldU cl_Lines nLines_at (de_var 0)) de_int)) dss_nil)), law⟩
/-! ### lines_of -/
abbrev s_lines_of : Stmt := top 36
def n_lines_of : List Str := ["text", "number", "line"]
theorem sc_lines_of : FnScope n_lines_of ["text"] (defScope s_lines_of) := ⟨rfl, rfl, rfl, by decide +kernel, rfl, by decide +kernel, by decide +kernel⟩
def w_lines_of (CT CLi CLs : Addr) : WS :=
    (wSeq (wIfS (wNot (wT (wIsi (isT "str") (wVar 0)))) (wRaise2 CT "line" "word" (wC (.int 0)) (wC (.int 0))) wNext)
    (wRet (wMakeD CLs (sp_lsinit CLs) [.int 0] (wCons (wGive (wLc [1, 2] (wEnumI (wCons (wSplit (wVar 0) (wC (.str "\n"))) wNil)) (wg2 1 2) wTrue (wMakeD CLi (sp_linit CLi) [] (wCons (wVar 1) (wCons (wVar 2) wNil))))) wNil))))
theorem ok_lines_of {P : Program} {w : World} {K : PySem.W.Frag} {mg : Str → Option Value} {base : Heap} {f : Addr} {fd : FuncData} {CT CLi CLs : Addr} (F0 : Fun K "lines_of" "lines_of" s_lines_of f fd) (B : Bl mg) (hCT : Er2 P w K mg base "BadText" CT "line" "word") (mk_Line : CalI P w K mg base 1 "Line" CLi ["self", "number", "text"] [] (sp_linit CLi)) (mk_Lines : CalI P w K mg base 1 "Lines" CLs ["self", "lines", "at"] [.int 0] (sp_lsinit CLs)) {sp : DSp} (len : ∀ ds n Qd Qe, sp ds n Qd Qe → ds.length = 1) (law : ∀ ds n Qd Qe, sp ds n Qd Qe → w_lines_of CT CLi CLs Qe ⟨fun s1 => Qd .non s1.n, Qd, fun _ => False, fun _ => False⟩ ⟨env0 n_lines_of ds, n⟩) :
    FnOk P w K mg base (L2.CX P w) (2 + 1) f fd ["text"] (spD K sp) := by
  refine okD F0 sc_lines_of len (fun cdv A outer s H E hr => ?_)
  exact ⟨w_lines_of CT CLi CLs,
    (dss_cons (ds_if (dt_not (dt_val (de_isi (T := "str") (by rfl) B.isi bIsi (de_var 0) (pe_bltn (v := .ty "str") (by rfl) B.str bStr rfl) (by decide +kernel)))) (dss_one (ds_raise2 hCT (hr.mono (by omega)) rfl rfl rfl rfl de_int de_int)) dss_nil)
      (dss_one (ds_ret (de_new mk_Lines (fun _ _ => .cons (.int 0) .nil) (hr.mono (by omega)) (by rfl) (passX rfl rfl rfl rfl) (da_cons (de_give (df_lc2 (own := [("number", 1), ("line", 2)]) (i := 1) (j := 2) rfl sc_lines_of.nd (di_enum (by rfl) B.enum (da_cons (de_split (de_var 0) de_str) da_nil)) (blkOk_by (N := n_lines_of) (sc := defScope s_lines_of) (by decide +kernel)) (by decide) (by decide) (fun _ _ _ _ _ => pg_tup rfl (pgs_cons (pg_name (i := 1) sc_lines_of.nd rfl (by first | exact Or.inl rfl | exact Or.inr rfl)) (pgs_cons (pg_name (i := 2) sc_lines_of.nd rfl (by first | exact Or.inl rfl | exact Or.inr rfl)) pgs_nil))) (fun _ _ _ _ _ => dts_nil) (fun _ _ _ _ _ => (de_new mk_Line (fun _ _ => .nil) (hr.mono (by omega)) (by rfl) passL (da_cons (de_var 1) (da_cons (de_var 2) da_nil)))))) da_nil))))), law⟩
/-! ### numbers_from -/
abbrev s_numbers_from : Stmt := top 39
def n_numbers_from : List Str := ["line", "least", "most", "found"]
theorem sc_numbers_from : FnScope n_numbers_from ["line", "least", "most"] (defScope s_numbers_from) := ⟨rfl, rfl, rfl, by decide +kernel, rfl, by decide +kernel, by decide +kernel⟩
def w_numbers_from (CT CLi : Addr) : WS :=
    (wSeq (wSetF 3 (wLst wNil))
    (wSeq (wWhile (wOr (wT (wOp fLt (wLenO 3) (wVar 1))) (wAnd (wT (wIsN true (wMeth CLi "ahead" (sp_ahead CLi) (wVar 0) wNil))) (wT (wOp fLt (wLenO 3) (wVar 2))))) (wDrop (wAppend 3 (wMeth CLi "take_whole" (sp_take_whole CLi CT) (wVar 0) (wCons (wC (.int 1000000)) wNil)))))
    (wSeq (wIfS (wNot (wT (wCall sp_is_heavy (wCons (wVar 3) wNil)))) (wDrop (wMeth CLi "back" (sp_back CLi CT) (wVar 0) wNil)) wNext)
    (wRet (wVar 3)))))
theorem ok_numbers_from {P : Program} {w : World} {K : PySem.W.Frag} {mg : Str → Option Value} {base : Heap} {f : Addr} {fd : FuncData} {CT CLi : Addr} (F0 : Fun K "numbers_from" "numbers_from" s_numbers_from f fd) (B : Bl mg) (c_MOST_NUMBER : ∃ t, mg "MOST_NUMBER" = some (.int 1000000 t)) (cl_Line : Cls K CLi) (mt_Line_ahead : CalM P w K mg base 1 CLi "ahead" ["self"] (sp_ahead CLi)) (mt_Line_back : CalM P w K mg base 3 CLi "back" ["self"] (sp_back CLi CT)) (mt_Line_take_whole : CalM P w K mg base 5 CLi "take_whole" ["self", "most"] (sp_take_whole CLi CT)) (q_is_heavy : CalF P w K mg base 1 "is_heavy" ["row"] sp_is_heavy) {sp : DSp} (len : ∀ ds n Qd Qe, sp ds n Qd Qe → ds.length = 3) (law : ∀ ds n Qd Qe, sp ds n Qd Qe → w_numbers_from CT CLi Qe ⟨fun s1 => Qd .non s1.n, Qd, fun _ => False, fun _ => False⟩ ⟨env0 n_numbers_from ds, n⟩) :
    FnOk P w K mg base (L2.CX P w) (5 + 1) f fd ["line", "least", "most"] (spD K sp) := by
  obtain ⟨t_MOST_NUMBER, h_MOST_NUMBER⟩ := c_MOST_NUMBER
  obtain ⟨f_is_heavy, fd_is_heavy, F_is_heavy, m_is_heavy, k_is_heavy, b_is_heavy⟩ := q_is_heavy.ex
  refine okD F0 sc_numbers_from len (fun cdv A outer s H E hr => ?_)
  exact ⟨w_numbers_from CT CLi,
    (dss_cons (ds_setF (i := 3) sc_numbers_from.nd rfl (by first | exact Or.inl rfl | exact Or.inr rfl) (df_lst da_nil))
      (dss_cons (ds_while (passes_of rfl) (dw_or (dt_cmp op_lt ref_lt (nomark _) (de_lenO (pv 3) (by rfl) B.len bLen) (de_var 1)) (dw_or1 (dw_and (dt_notN (de_mth0 cl_Line mt_Line_ahead (hr.mono (by omega)) (passX rfl rfl rfl rfl) (de_var 0))) (dw_and1 (dt_cmp op_lt ref_lt (nomark _) (de_lenO (pv 3) (by rfl) B.len bLen) (de_var 2)))).dt)).dt (dss_one (ds_expr (de_append (pv 3) (de_mth cl_Line mt_Line_take_whole (hr.mono (by omega)) (passX rfl rfl rfl rfl) (de_var 0) (da_cons (de_glob (v := .int 1000000) (by rfl) h_MOST_NUMBER ⟨_, rfl⟩) da_nil))))))
      (dss_cons (ds_if (dt_not (dt_val (de_call F_is_heavy (hr.mono (by omega)) (by rfl) m_is_heavy k_is_heavy b_is_heavy (passX rfl rfl rfl rfl) (da_cons (de_var 3) da_nil)))) (dss_one (ds_expr (de_mth0 cl_Line mt_Line_back (hr.mono (by omega)) (passX rfl rfl rfl rfl) (de_var 0)))) dss_nil)
      (dss_one (ds_ret (de_var 3)))))), law⟩
/-! ### field_from -/
abbrev s_field_from : Stmt := top 40
def n_field_from : List Str := ["lines", "line", "corners"]
theorem sc_field_from : FnScope n_field_from ["lines"] (defScope s_field_from) := ⟨rfl, rfl, rfl, by decide +kernel, rfl, by decide +kernel, by decide +kernel⟩
def w_field_from (CFi CF CT CLi CLs : Addr) : WS :=
    (wSeq (wAsg (wMeth CLs "next" (sp_next CLi CLs CT) (wVar 0) (wCons (wC (.str "corner")) wNil)) (wgName 1))
    (wSeq (wSetF 2 (wLst (wCons (wCall (sp_numbers_from CLi CT) (wCons (wVar 1) (wCons (wC (.int 1)) (wCons (wC (.int 6)) wNil)))) wNil)))
    (wSeq (wDrop (wMeth CLi "end" (sp_lend CLi CT) (wVar 1) wNil))
    (wSeq (wWhile (wAnd (wT (wOp (fEq false) (wMeth CLs "head" (sp_head CLi CLs) (wVar 0) wNil) (wC (.str "corner")))) (wT (wOp fLt (wLenO 2) (wC (.int 6))))) (wSeq (wAsg (wMeth CLs "next" (sp_next CLi CLs CT) (wVar 0) (wCons (wC (.str "corner")) wNil)) (wgName 1))
    (wSeq (wDrop (wAppend 2 (wCall (sp_numbers_from CLi CT) (wCons (wVar 1) (wCons (wCB gLen (wCons (wIxO 2 (wC (.int 0))) wNil)) (wCons (wCB gLen (wCons (wIxO 2 (wC (.int 0))) wNil)) wNil))))))
    (wDrop (wMeth CLi "end" (sp_lend CLi CT) (wVar 1) wNil)))))
    (wRet (wFrzO (wMakeD CFi (sp_finit CFi CF) [] (wCons (wVar 2) wNil))))))))
theorem ok_field_from {P : Program} {w : World} {K : PySem.W.Frag} {mg : Str → Option Value} {base : Heap} {f : Addr} {fd : FuncData} {CFi CF CT CLi CLs : Addr} (F0 : Fun K "field_from" "field_from" s_field_from f fd) (B : Bl mg) (c_MOST_CORNERS : ∃ t, mg "MOST_CORNERS" = some (.int 6 t)) (c_CORNER : ∃ t, mg "CORNER" = some (.str "corner" t)) (cl_Line : Cls K CLi) (cl_Lines : Cls K CLs) (mk_Field : CalI P w K mg base 5 "Field" CFi ["self", "corners"] [] (sp_finit CFi CF)) (mt_Line_end : CalM P w K mg base 4 CLi "end" ["self"] (sp_lend CLi CT)) (mt_Lines_head : CalM P w K mg base 1 CLs "head" ["self"] (sp_head CLi CLs)) (mt_Lines_next : CalM P w K mg base 6 CLs "next" ["self", "word"] (sp_next CLi CLs CT)) (q_numbers_from : CalF P w K mg base 6 "numbers_from" ["line", "least", "most"] (sp_numbers_from CLi CT)) {sp : DSp} (len : ∀ ds n Qd Qe, sp ds n Qd Qe → ds.length = 1) (law : ∀ ds n Qd Qe, sp ds n Qd Qe → w_field_from CFi CF CT CLi CLs Qe ⟨fun s1 => Qd .non s1.n, Qd, fun _ => False, fun _ => False⟩ ⟨env0 n_field_from ds, n⟩) :
    FnOk P w K mg base (L2.CX P w) (6 + 1) f fd ["lines"] (spD K sp) := by
  obtain ⟨t_MOST_CORNERS, h_MOST_CORNERS⟩ := c_MOST_CORNERS
  obtain ⟨t_CORNER, h_CORNER⟩ := c_CORNER
  obtain ⟨f_numbers_from, fd_numbers_from, F_numbers_from, m_numbers_from, k_numbers_from, b_numbers_from⟩ := q_numbers_from.ex
  refine okD F0 sc_field_from len (fun cdv A outer s H E hr => ?_)
  have hu : (cxOf (L2.CX P w) P w K mg base n_field_from "field_from" (defScope s_field_from) f cdv A outer s H E).A.units + 64 < cLine := hr.units
  have hu0 : (cxOf (L2.CX P w) P w K mg base n_field_from "field_from" (defScope s_field_from) f cdv A outer s H E).A.units < cLine := hr.units0
  have hu1 : (cxOf (L2.CX P w) P w K mg base n_field_from "field_from" (defScope s_field_from) f cdv A outer s H E).A.units + 65 < cLine := room65 hr
  exact ⟨w_field_from CFi CF CT CLi CLs,
    (dss_cons (ds_set (i := 1) sc_field_from.nd rfl (by first | exact Or.inl rfl | exact Or.inr rfl) (de_mth cl_Lines mt_Lines_next (hr.mono (by omega)) (passX rfl rfl rfl rfl) (de_var 0) (da_cons (de_glob (v := .str "corner") (by rfl) h_CORNER ⟨_, rfl⟩) da_nil)))
      (dss_cons (ds_setF (i := 2) sc_field_from.nd rfl (by first | exact Or.inl rfl | exact Or.inr rfl) (df_lst (da_cons (de_call F_numbers_from (hr.mono (by omega)) (by rfl) m_numbers_from k_numbers_from b_numbers_from (passX rfl rfl rfl rfl) (da_cons (de_var 1) (da_cons de_int (da_cons (de_glob (v := .int 6) (by rfl) h_MOST_CORNERS ⟨_, rfl⟩) da_nil)))) da_nil)))
      (dss_cons (ds_expr (de_mth0 cl_Line mt_Line_end (hr.mono (by omega)) (passX rfl rfl rfl rfl) (de_var 1)))
      (dss_cons (ds_while (passes_of rfl) (dw_and (dt_cmp (op_eqU hu) ref_eq (nomark _) (de_mth0 cl_Lines mt_Lines_head (hr.mono (by omega)) (passX rfl rfl rfl rfl) (de_var 0)) (de_glob (v := .str "corner") (by rfl) h_CORNER ⟨_, rfl⟩)) (dw_and1 (dt_cmp op_lt ref_lt (nomark _) (de_lenO (pv 2) (by rfl) B.len bLen) (de_glob (v := .int 6) (by rfl) h_MOST_CORNERS ⟨_, rfl⟩)))).dt (dss_cons (ds_set (i := 1) sc_field_from.nd rfl (by first | exact Or.inl rfl | exact Or.inr rfl) (de_mth cl_Lines mt_Lines_next (hr.mono (by omega)) (passX rfl rfl rfl rfl) (de_var 0) (da_cons (de_glob (v := .str "corner") (by rfl) h_CORNER ⟨_, rfl⟩) da_nil)))
      (dss_cons (ds_expr (de_append (pv 2) (de_call F_numbers_from (hr.mono (by omega)) (by rfl) m_numbers_from k_numbers_from b_numbers_from (passX rfl rfl rfl rfl) (da_cons (de_var 1) (da_cons (de_callB call_len refc_len (by rfl) B.len bLen (da_cons (de_ixO (pv 2) de_int) da_nil)) (da_cons (de_callB call_len refc_len (by rfl) B.len bLen (da_cons (de_ixO (pv 2) de_int) da_nil)) da_nil))))))
      (dss_one (ds_expr (de_mth0 cl_Line mt_Line_end (hr.mono (by omega)) (passX rfl rfl rfl rfl) (de_var 1)))))))
      (dss_one (ds_ret (de_frzO (de_new mk_Field (fun _ _ => .nil) (hr.mono (by omega)) (by rfl) (passX rfl rfl rfl rfl) (da_cons (de_var 2) da_nil))))))))), law⟩
/-! ### read_field -/
abbrev s_read_field : Stmt := top 41
def n_read_field : List Str := ["text", "lines", "found"]
theorem sc_read_field : FnScope n_read_field ["text"] (defScope s_read_field) := ⟨rfl, rfl, rfl, by decide +kernel, rfl, by decide +kernel, by decide +kernel⟩
def w_read_field (CFi CT CLi CLs : Addr) : WS :=
    (wSeq (wAsg (wCall (sp_lines_of CLi CLs) (wCons (wVar 0) wNil)) (wgName 1))
    (wSeq (wAsg (wCall (sp_field_from CLi CLs CFi CT) (wCons (wVar 1) wNil)) (wgName 2))
    (wSeq (wDrop (wMeth CLs "end" (sp_lsend CLi CLs CT) (wVar 1) wNil))
    (wRet (wVar 2)))))
theorem ok_read_field {P : Program} {w : World} {K : PySem.W.Frag} {mg : Str → Option Value} {base : Heap} {f : Addr} {fd : FuncData} {CFi CT CLi CLs : Addr} (F0 : Fun K "read_field" "read_field" s_read_field f fd) (B : Bl mg) (cl_Lines : Cls K CLs) (mt_Lines_end : CalM P w K mg base 3 CLs "end" ["self"] (sp_lsend CLi CLs CT)) (q_lines_of : CalF P w K mg base 3 "lines_of" ["text"] (sp_lines_of CLi CLs)) (q_field_from : CalF P w K mg base 7 "field_from" ["lines"] (sp_field_from CLi CLs CFi CT)) {sp : DSp} (len : ∀ ds n Qd Qe, sp ds n Qd Qe → ds.length = 1) (law : ∀ ds n Qd Qe, sp ds n Qd Qe → w_read_field CFi CT CLi CLs Qe ⟨fun s1 => Qd .non s1.n, Qd, fun _ => False, fun _ => False⟩ ⟨env0 n_read_field ds, n⟩) :
    FnOk P w K mg base (L2.CX P w) (7 + 1) f fd ["text"] (spD K sp) := by
  obtain ⟨f_lines_of, fd_lines_of, F_lines_of, m_lines_of, k_lines_of, b_lines_of⟩ := q_lines_of.ex
  obtain ⟨f_field_from, fd_field_from, F_field_from, m_field_from, k_field_from, b_field_from⟩ := q_field_from.ex
  refine okD F0 sc_read_field len (fun cdv A outer s H E hr => ?_)
  exact ⟨w_read_field CFi CT CLi CLs,
    (dss_cons (ds_set (i := 1) sc_read_field.nd rfl (by first | exact Or.inl rfl | exact Or.inr rfl) (de_call F_lines_of (hr.mono (by omega)) (by rfl) m_lines_of k_lines_of b_lines_of (passX rfl rfl rfl rfl) (da_cons (de_var 0) da_nil)))
      (dss_cons (ds_set (i := 2) sc_read_field.nd rfl (by first | exact Or.inl rfl | exact Or.inr rfl) (de_call F_field_from (hr.mono (by omega)) (by rfl) m_field_from k_field_from b_field_from (passX rfl rfl rfl rfl) (da_cons (de_var 1) da_nil)))
      (dss_cons (ds_expr (de_mth0 cl_Lines mt_Lines_end (hr.mono (by omega)) (passX rfl rfl rfl rfl) (de_var 1)))
      (dss_one (ds_ret (de_var 2)))))), law⟩
end K78
set_option Elab.async false
set_option linter.all false
set_option maxRecDepth 100000
set_option maxHeartbeats 4000000
namespace K78
open PySem L2 Evl DL
theorem law_is_integer : ∀ ds n Qd Qe, sp_is_integer ds n Qd Qe → w_is_integer Qe ⟨fun s1 => Qd .non s1.n, Qd, fun _ => False, fun _ => False⟩ ⟨env0 n_is_integer ds, n⟩ := by
  rintro ds n Qd Qe ⟨d, rfl, hb, q⟩
  simp (config := {maxSteps := 4000000}) only [w_is_integer, n_is_integer, isT_int, isT_bool, wRet, wRetN, wSeq, wNext, wAsg, wgName, wgTup, wgCons, wgNil, wgSub, wSetF, wParVV, wParVF, wParFF, wIfS, wDrop, wVar, wC, wCall, wCons, wNil, wTup, wLst, wGive, wOp, wT, wNot, wAnd, wOr, wAndV, wOrV, wNotV, wIf, wIsN, wcLast, wcCons, wChainN, fAdd, fInt, fInt0, fLt, fLe, fGt, fGe, fIx, fRep, fIsB, wSl, wNoPart, wPart, wCB, gLen, gSum, gAll, gAny, gInt, wTupOf, wLstOf, wIsi, wNeNil, wEqNil, wLenO, wSumO, wIxO, lstAt, wAppend, wExtend, wPop, wFld, wIsC, wNilA, wLc, wSeqI, wRangeI, wZipI, wFor, wTrue, env0, List.map_cons, List.map_nil, List.cons_append, List.nil_append, List.length_cons, List.length_nil, Nat.reduceAdd, Nat.reduceSub, Nat.zero_add, Nat.sub_self, List.replicate, List.getElem?_cons_zero, List.getElem?_cons_succ, List.set_cons_zero, List.set_cons_succ, Bool.not_true, Bool.not_false, if_true, if_false, Bool.false_eq_true, reduceIte, Option.isSome_some]
  cases d <;> first | exact ⟨hb, hb, q⟩ | exact ⟨hb, q⟩ 
theorem law_is_within : ∀ ds n Qd Qe, sp_is_within ds n Qd Qe → w_is_within Qe ⟨fun s1 => Qd .non s1.n, Qd, fun _ => False, fun _ => False⟩ ⟨env0 n_is_within ds, n⟩ := by
  rintro ds n Qd Qe ⟨d, lo, hi, rfl, hb, q⟩
  simp (config := {maxSteps := 4000000}) only [w_is_within, n_is_within, wRet, wRetN, wSeq, wNext, wAsg, wgName, wgTup, wgCons, wgNil, wgSub, wSetF, wParVV, wParVF, wParFF, wIfS, wDrop, wVar, wC, wCall, wCons, wNil, wTup, wLst, wGive, wOp, wT, wNot, wAnd, wOr, wAndV, wOrV, wNotV, wIf, wIsN, wcLast, wcCons, wChainN, fAdd, fInt, fInt0, fLt, fLe, fGt, fGe, fIx, fRep, fIsB, wSl, wNoPart, wPart, wCB, gLen, gSum, gAll, gAny, gInt, wTupOf, wLstOf, wIsi, wNeNil, wEqNil, wLenO, wSumO, wIxO, lstAt, wAppend, wExtend, wPop, wFld, wIsC, wNilA, wLc, wSeqI, wRangeI, wZipI, wFor, wTrue, env0, List.map_cons, List.map_nil, List.cons_append, List.nil_append, List.length_cons, List.length_nil, Nat.reduceAdd, Nat.reduceSub, Nat.zero_add, Nat.sub_self, List.replicate, List.getElem?_cons_zero, List.getElem?_cons_succ, List.set_cons_zero, List.set_cons_succ, Bool.not_true, Bool.not_false, if_true, if_false, Bool.false_eq_true, reduceIte, Option.isSome_some]
  refine ⟨d, rfl, hb, ?_⟩
  cases d with
  | int i =>
    simp (config := {maxSteps := 4000000}) only [isInt, wRet, wRetN, wSeq, wNext, wAsg, wgName, wgTup, wgCons, wgNil, wgSub, wSetF, wParVV, wParVF, wParFF, wIfS, wDrop, wVar, wC, wCall, wCons, wNil, wTup, wLst, wGive, wOp, wT, wNot, wAnd, wOr, wAndV, wOrV, wNotV, wIf, wIsN, wcLast, wcCons, wChainN, fAdd, fInt, fInt0, fLt, fLe, fGt, fGe, fIx, fRep, fIsB, wSl, wNoPart, wPart, wCB, gLen, gSum, gAll, gAny, gInt, wTupOf, wLstOf, wIsi, wNeNil, wEqNil, wLenO, wSumO, wIxO, lstAt, wAppend, wExtend, wPop, wFld, wIsC, wNilA, wLc, wSeqI, wRangeI, wZipI, wFor, wTrue, env0, List.map_cons, List.map_nil, List.cons_append, List.nil_append, List.length_cons, List.length_nil, Nat.reduceAdd, Nat.reduceSub, Nat.zero_add, Nat.sub_self, List.replicate, List.getElem?_cons_zero, List.getElem?_cons_succ, List.set_cons_zero, List.set_cons_succ, Bool.not_true, Bool.not_false, if_true, if_false, Bool.false_eq_true, reduceIte, Option.isSome_some]
    cases hi <;> simp only [within, opt] at q ⊢ <;> cases h : decide (lo ≤ i) <;> rw [h] at q <;> exact q
  | _ => exact q
theorem law_is_row : ∀ ds n Qd Qe, sp_is_row ds n Qd Qe → w_is_row Qe ⟨fun s1 => Qd .non s1.n, Qd, fun _ => False, fun _ => False⟩ ⟨env0 n_is_row ds, n⟩ := by
  rintro ds n Qd Qe ⟨d, rfl, hb, q⟩
  simp (config := {maxSteps := 4000000}) only [w_is_row, n_is_row, wRet, wRetN, wSeq, wNext, wAsg, wgName, wgTup, wgCons, wgNil, wgSub, wSetF, wParVV, wParVF, wParFF, wIfS, wDrop, wVar, wC, wCall, wCons, wNil, wTup, wLst, wGive, wOp, wT, wNot, wAnd, wOr, wAndV, wOrV, wNotV, wIf, wIsN, wcLast, wcCons, wChainN, fAdd, fInt, fInt0, fLt, fLe, fGt, fGe, fIx, fRep, fIsB, wSl, wNoPart, wPart, wCB, gLen, gSum, gAll, gAny, gInt, wTupOf, wLstOf, wIsi, wNeNil, wEqNil, wLenO, wSumO, wIxO, lstAt, wAppend, wExtend, wPop, wFld, wIsC, wNilA, wLc, wSeqI, wRangeI, wZipI, wFor, wTrue, env0, List.map_cons, List.map_nil, List.cons_append, List.nil_append, List.length_cons, List.length_nil, Nat.reduceAdd, Nat.reduceSub, Nat.zero_add, Nat.sub_self, List.replicate, List.getElem?_cons_zero, List.getElem?_cons_succ, List.set_cons_zero, List.set_cons_succ, Bool.not_true, Bool.not_false, if_true, if_false, Bool.false_eq_true, reduceIte, Option.isSome_some]
  exact ⟨hb, q⟩
theorem plains_mem : ∀ {l : List D}, plains l = true → ∀ d ∈ l, plain d = true
  | [], _, d, h => nomatch h
  | x :: l, p, d, h => by
    rw [plains, Bool.and_eq_true] at p
    rcases List.mem_cons.mp h with rfl | h
    · exact p.1
    · exact plains_mem p.2 d h
theorem mem_plains : ∀ {l : List D}, (∀ d ∈ l, plain d = true) → plains l = true
  | [], _ => rfl
  | x :: l, h => by
    rw [plains, h x (List.mem_cons_self ..), mem_plains fun d hd => h d (List.mem_cons_of_mem _ hd)]
    rfl
theorem plain_bare {d : D} (h : plain d = true) : d.bare = true := by
  cases d <;> first | rfl | cases h
theorem ints_plain (l : List Int) : plains (l.map D.int) = true := mem_plains fun d h => by
  obtain ⟨i, _, rfl⟩ := List.mem_map.mp h
  rfl
theorem law_are_numbers : Law sp_are_numbers w_are_numbers n_are_numbers := by
  rintro ds n Qd Qe ⟨d, m, hi, rfl, hp, hl, q⟩
  simp (config := {maxSteps := 4000000}) only [w_are_numbers, n_are_numbers, wRet, wRetN, wSeq, wNext, wAsg, wgName, wgTup, wgCons, wgNil, wgSub, wSetF, wParVV, wParVF, wParFF, wIfS, wDrop, wVar, wC, wCall, wCons, wNil, wTup, wLst, wGive, wOp, wT, wNot, wAnd, wOr, wAndV, wOrV, wNotV, wIf, wIsN, wcLast, wcCons, wChainN, fAdd, fInt, fInt0, fLt, fLe, fGt, fGe, fIx, fRep, fIsB, wSl, wNoPart, wPart, wCB, gLen, gSum, gAll, gAny, gInt, wTupOf, wLstOf, wIsi, wNeNil, wEqNil, wLenO, wSumO, wIxO, lstAt, wAppend, wExtend, wPop, wFld, wIsC, wNilA, wLc, wSeqI, wRangeI, wZipI, wFor, wTrue, env0, List.map_cons, List.map_nil, List.cons_append, List.nil_append, List.length_cons, List.length_nil, Nat.reduceAdd, Nat.reduceSub, Nat.zero_add, Nat.sub_self, List.replicate, List.getElem?_cons_zero, List.getElem?_cons_succ, List.set_cons_zero, List.set_cons_succ, Bool.not_true, Bool.not_false, if_true, if_false, Bool.false_eq_true, reduceIte, Option.isSome_some]
  refine ⟨d, rfl, plain_bare hp, ?_⟩
  have go : ∀ l : List D, plains l = true → l.length ≤ 1000 → decide (l.length = m) = true → Qd (.bl (l.all (within 0 hi))) n →
      wLcL [3] (fun d _ s Q => Q ⟨s.env.set 3 (.val d), s.n⟩) wTrue (wCall sp_is_within (wCons (wVar 3) (wCons (wC (.int 0)) (wCons (wVar 2) wNil)))) (fun ds s1 => gAll [.lst ds] fun z => Qd z s1.n) l [] ⟨[.val d, .val (.int (m : Nat)), .val (opt hi), .unb], n⟩ := by
    intro l hp hl hm q
    refine lc_map (s0 := ⟨[.val d, .val (.int (m : Nat)), .val (opt hi), .unb], n⟩) (f := fun d => .bl (within 0 hi d)) _ _ _ rfl (by simp; omega) (fun d hd R k => ?_) ?_
    · simp (config := {maxSteps := 4000000}) only [wRet, wRetN, wSeq, wNext, wAsg, wgName, wgTup, wgCons, wgNil, wgSub, wSetF, wParVV, wParVF, wParFF, wIfS, wDrop, wVar, wC, wCall, wCons, wNil, wTup, wLst, wGive, wOp, wT, wNot, wAnd, wOr, wAndV, wOrV, wNotV, wIf, wIsN, wcLast, wcCons, wChainN, fAdd, fInt, fInt0, fLt, fLe, fGt, fGe, fIx, fRep, fIsB, wSl, wNoPart, wPart, wCB, gLen, gSum, gAll, gAny, gInt, wTupOf, wLstOf, wIsi, wNeNil, wEqNil, wLenO, wSumO, wIxO, lstAt, wAppend, wExtend, wPop, wFld, wIsC, wNilA, wLc, wSeqI, wRangeI, wZipI, wFor, wTrue, env0, List.map_cons, List.map_nil, List.cons_append, List.nil_append, List.length_cons, List.length_nil, Nat.reduceAdd, Nat.reduceSub, Nat.zero_add, Nat.sub_self, List.replicate, List.getElem?_cons_zero, List.getElem?_cons_succ, List.set_cons_zero, List.set_cons_succ, Bool.not_true, Bool.not_false, if_true, if_false, Bool.false_eq_true, reduceIte, Option.isSome_some]
      exact ⟨d, 0, hi, rfl, plain_bare (plains_mem hp d hd), k _ rfl⟩
    · simp (config := {maxSteps := 4000000}) only [wRet, wRetN, wSeq, wNext, wAsg, wgName, wgTup, wgCons, wgNil, wgSub, wSetF, wParVV, wParVF, wParFF, wIfS, wDrop, wVar, wC, wCall, wCons, wNil, wTup, wLst, wGive, wOp, wT, wNot, wAnd, wOr, wAndV, wOrV, wNotV, wIf, wIsN, wcLast, wcCons, wChainN, fAdd, fInt, fInt0, fLt, fLe, fGt, fGe, fIx, fRep, fIsB, wSl, wNoPart, wPart, wCB, gLen, gSum, gAll, gAny, gInt, wTupOf, wLstOf, wIsi, wNeNil, wEqNil, wLenO, wSumO, wIxO, lstAt, wAppend, wExtend, wPop, wFld, wIsC, wNilA, wLc, wSeqI, wRangeI, wZipI, wFor, wTrue, env0, List.map_cons, List.map_nil, List.cons_append, List.nil_append, List.length_cons, List.length_nil, Nat.reduceAdd, Nat.reduceSub, Nat.zero_add, Nat.sub_self, List.replicate, List.getElem?_cons_zero, List.getElem?_cons_succ, List.set_cons_zero, List.set_cons_succ, Bool.not_true, Bool.not_false, if_true, if_false, Bool.false_eq_true, reduceIte, Option.isSome_some]
      exact ⟨l.map (within 0 hi), by simp, by simpa using q⟩
  cases d with
  | lst l =>
    simp (config := {maxSteps := 4000000}) only [isRow, fEq, wRet, wRetN, wSeq, wNext, wAsg, wgName, wgTup, wgCons, wgNil, wgSub, wSetF, wParVV, wParVF, wParFF, wIfS, wDrop, wVar, wC, wCall, wCons, wNil, wTup, wLst, wGive, wOp, wT, wNot, wAnd, wOr, wAndV, wOrV, wNotV, wIf, wIsN, wcLast, wcCons, wChainN, fAdd, fInt, fInt0, fLt, fLe, fGt, fGe, fIx, fRep, fIsB, wSl, wNoPart, wPart, wCB, gLen, gSum, gAll, gAny, gInt, wTupOf, wLstOf, wIsi, wNeNil, wEqNil, wLenO, wSumO, wIxO, lstAt, wAppend, wExtend, wPop, wFld, wIsC, wNilA, wLc, wSeqI, wRangeI, wZipI, wFor, wTrue, env0, List.map_cons, List.map_nil, List.cons_append, List.nil_append, List.length_cons, List.length_nil, Nat.reduceAdd, Nat.reduceSub, Nat.zero_add, Nat.sub_self, List.replicate, List.getElem?_cons_zero, List.getElem?_cons_succ, List.set_cons_zero, List.set_cons_succ, Bool.not_true, Bool.not_false, if_true, if_false, Bool.false_eq_true, reduceIte, Option.isSome_some]
    refine ⟨_, eqD_int _ _, ?_⟩
    rw [plain] at hp
    simp only [numsB, items] at q
    have e : decide ((l.length : Int) = (m : Int)) = decide (l.length = m) := decide_eq_decide.mpr Int.ofNat_inj
    rw [e]
    cases hm : decide (l.length = m) with
    | false => rw [hm] at q; exact q
    | true => rw [hm] at q; exact go l hp (hl l rfl) hm q
  | tup l =>
    simp (config := {maxSteps := 4000000}) only [isRow, fEq, wRet, wRetN, wSeq, wNext, wAsg, wgName, wgTup, wgCons, wgNil, wgSub, wSetF, wParVV, wParVF, wParFF, wIfS, wDrop, wVar, wC, wCall, wCons, wNil, wTup, wLst, wGive, wOp, wT, wNot, wAnd, wOr, wAndV, wOrV, wNotV, wIf, wIsN, wcLast, wcCons, wChainN, fAdd, fInt, fInt0, fLt, fLe, fGt, fGe, fIx, fRep, fIsB, wSl, wNoPart, wPart, wCB, gLen, gSum, gAll, gAny, gInt, wTupOf, wLstOf, wIsi, wNeNil, wEqNil, wLenO, wSumO, wIxO, lstAt, wAppend, wExtend, wPop, wFld, wIsC, wNilA, wLc, wSeqI, wRangeI, wZipI, wFor, wTrue, env0, List.map_cons, List.map_nil, List.cons_append, List.nil_append, List.length_cons, List.length_nil, Nat.reduceAdd, Nat.reduceSub, Nat.zero_add, Nat.sub_self, List.replicate, List.getElem?_cons_zero, List.getElem?_cons_succ, List.set_cons_zero, List.set_cons_succ, Bool.not_true, Bool.not_false, if_true, if_false, Bool.false_eq_true, reduceIte, Option.isSome_some]
    refine ⟨_, eqD_int _ _, ?_⟩
    rw [plain] at hp
    simp only [numsB, items] at q
    have e : decide ((l.length : Int) = (m : Int)) = decide (l.length = m) := decide_eq_decide.mpr Int.ofNat_inj
    rw [e]
    cases hm : decide (l.length = m) with
    | false => rw [hm] at q; exact q
    | true => rw [hm] at q; exact go l hp (hl l rfl) hm q
  | _ => exact q
theorem law_is_heavy : Law sp_is_heavy w_is_heavy n_is_heavy := by
  rintro ds n Qd Qe ⟨d, l, rfl, hi, hl, q⟩
  simp (config := {maxSteps := 4000000}) only [w_is_heavy, n_is_heavy, wRet, wRetN, wSeq, wNext, wAsg, wgName, wgTup, wgCons, wgNil, wgSub, wSetF, wParVV, wParVF, wParFF, wIfS, wDrop, wVar, wC, wCall, wCons, wNil, wTup, wLst, wGive, wOp, wT, wNot, wAnd, wOr, wAndV, wOrV, wNotV, wIf, wIsN, wcLast, wcCons, wChainN, fAdd, fInt, fInt0, fLt, fLe, fGt, fGe, fIx, fRep, fIsB, wSl, wNoPart, wPart, wCB, gLen, gSum, gAll, gAny, gInt, wTupOf, wLstOf, wIsi, wNeNil, wEqNil, wLenO, wSumO, wIxO, lstAt, wAppend, wExtend, wPop, wFld, wIsC, wNilA, wLc, wSeqI, wRangeI, wZipI, wFor, wTrue, env0, List.map_cons, List.map_nil, List.cons_append, List.nil_append, List.length_cons, List.length_nil, Nat.reduceAdd, Nat.reduceSub, Nat.zero_add, Nat.sub_self, List.replicate, List.getElem?_cons_zero, List.getElem?_cons_succ, List.set_cons_zero, List.set_cons_succ, Bool.not_true, Bool.not_false, if_true, if_false, Bool.false_eq_true, reduceIte, Option.isSome_some]
  have go : wLcL [1] (fun d _ s Q => Q ⟨s.env.set 1 (.val d), s.n⟩) wTrue (wOp (fEq true) (wVar 1) (wC (.int 0))) (fun ds s1 => gAny [.lst ds] fun z => Qd z s1.n) (l.map D.int) [] ⟨[.val d, .unb], n⟩ := by
    refine lc_map (s0 := ⟨[.val d, .unb], n⟩) (f := fun d => match d with | .int i => .bl (i != 0) | d => d) _ _ _ rfl (by simp; omega) (fun e he R k => ?_) ?_
    · obtain ⟨i, _, rfl⟩ := List.mem_map.mp he
      simp (config := {maxSteps := 4000000}) only [fEq, wRet, wRetN, wSeq, wNext, wAsg, wgName, wgTup, wgCons, wgNil, wgSub, wSetF, wParVV, wParVF, wParFF, wIfS, wDrop, wVar, wC, wCall, wCons, wNil, wTup, wLst, wGive, wOp, wT, wNot, wAnd, wOr, wAndV, wOrV, wNotV, wIf, wIsN, wcLast, wcCons, wChainN, fAdd, fInt, fInt0, fLt, fLe, fGt, fGe, fIx, fRep, fIsB, wSl, wNoPart, wPart, wCB, gLen, gSum, gAll, gAny, gInt, wTupOf, wLstOf, wIsi, wNeNil, wEqNil, wLenO, wSumO, wIxO, lstAt, wAppend, wExtend, wPop, wFld, wIsC, wNilA, wLc, wSeqI, wRangeI, wZipI, wFor, wTrue, env0, List.map_cons, List.map_nil, List.cons_append, List.nil_append, List.length_cons, List.length_nil, Nat.reduceAdd, Nat.reduceSub, Nat.zero_add, Nat.sub_self, List.replicate, List.getElem?_cons_zero, List.getElem?_cons_succ, List.set_cons_zero, List.set_cons_succ, Bool.not_true, Bool.not_false, if_true, if_false, Bool.false_eq_true, reduceIte, Option.isSome_some]
      exact ⟨_, eqD_int _ _, k _ rfl⟩
    · simp (config := {maxSteps := 4000000}) only [wRet, wRetN, wSeq, wNext, wAsg, wgName, wgTup, wgCons, wgNil, wgSub, wSetF, wParVV, wParVF, wParFF, wIfS, wDrop, wVar, wC, wCall, wCons, wNil, wTup, wLst, wGive, wOp, wT, wNot, wAnd, wOr, wAndV, wOrV, wNotV, wIf, wIsN, wcLast, wcCons, wChainN, fAdd, fInt, fInt0, fLt, fLe, fGt, fGe, fIx, fRep, fIsB, wSl, wNoPart, wPart, wCB, gLen, gSum, gAll, gAny, gInt, wTupOf, wLstOf, wIsi, wNeNil, wEqNil, wLenO, wSumO, wIxO, lstAt, wAppend, wExtend, wPop, wFld, wIsC, wNilA, wLc, wSeqI, wRangeI, wZipI, wFor, wTrue, env0, List.map_cons, List.map_nil, List.cons_append, List.nil_append, List.length_cons, List.length_nil, Nat.reduceAdd, Nat.reduceSub, Nat.zero_add, Nat.sub_self, List.replicate, List.getElem?_cons_zero, List.getElem?_cons_succ, List.set_cons_zero, List.set_cons_succ, Bool.not_true, Bool.not_false, if_true, if_false, Bool.false_eq_true, reduceIte, Option.isSome_some]
      exact ⟨l.map fun x => x != 0, by simp, by simpa using q⟩
  cases d <;> first | cases hi | skip
  · exact go
  · exact go
theorem zip_ints : ∀ a b : List Int, zipD (a.map D.int) (b.map D.int) = (a.zip b).map fun p => .tup [.int p.1, .int p.2]
  | [], _ => rfl
  | _ :: _, [] => rfl
  | x :: a, y :: b => by
    have e := zip_ints a b
    simp only [zipD] at e
    simp only [zipD, List.map_cons, List.zipWith_cons_cons, List.zip_cons_cons, e, pairD]
end K78
set_option Elab.async false
set_option linter.all false
set_option maxRecDepth 100000
set_option maxHeartbeats 4000000
namespace K78
open PySem L2 Evl DL
theorem items_row {d : D} {l : List D} (h : items d = some l) : d = .lst l ∨ d = .tup l := by
  cases d <;> simp only [items, Option.some.injEq, reduceCtorEq] at h
  · exact .inl (by rw [h])
  · exact .inr (by rw [h])
theorem row_items {d : D} : isRow d = (items d).isSome := by cases d <;> rfl
theorem len_row {d : D} {l : List D} {Q : D → Prop} (h : items d = some l) (q : Q (.int (l.length : Nat))) : gLen [d] Q := by
  rcases items_row h with rfl | rfl <;> exact q
theorem ix_row {d x : D} {l : List D} {i : Nat} {Q : D → Prop} (h : items d = some l) (hx : l[i]? = some x) (q : Q x) : fIx d (.int (i : Nat)) Q := by
  rcases items_row h with rfl | rfl <;> exact ⟨x, at_nat hx, q⟩
theorem seq_row {d : D} {l : List D} {s : S} {Qe : WQ} {Q : List D → S → Prop} {w : WE} (hw : ∀ R : D → S → Prop, R d s → w Qe s R) (h : items d = some l) (q : Q l s) : wSeqI w Qe s Q := by
  refine hw _ ?_
  rcases items_row h with rfl | rfl <;> exact q
theorem nd_mem {l : List D} {d : D} (h : d ∈ l) : nd d ≤ nds l := by
  induction l with
  | nil => cases h
  | cons x l ih =>
    rw [nds]
    rcases List.mem_cons.mp h with rfl | h
    · omega
    · have := ih h; omega
theorem nd_items {d : D} {l : List D} (h : items d = some l) : nd d = 1 + nds l := by
  rcases items_row h with rfl | rfl <;> rw [nd]
theorem nds_len (l : List D) : l.length ≤ nds l := by
  induction l with
  | nil => simp [nds]
  | cons x l ih =>
    have : 1 ≤ nd x := by cases x <;> simp [nd]
    rw [nds, List.length_cons]; omega
theorem plain_items {d : D} {l : List D} (h : items d = some l) (p : plain d = true) : plains l = true := by
  rcases items_row h with rfl | rfl <;> (rw [plain] at p; exact p)
theorem within_int {hi : Option Int} {d : D} (h : within 0 hi d = true) : ∃ i, d = .int i := by
  cases d <;> first | exact ⟨_, rfl⟩ | (cases hi <;> cases h)
theorem ints_of : ∀ {l : List D} {hi : Option Int}, l.all (within 0 hi) = true → ∃ ns : List Int, l = ns.map D.int
  | [], _, _ => ⟨[], rfl⟩
  | d :: l, hi, h => by
    rw [List.all_cons, Bool.and_eq_true] at h
    obtain ⟨i, rfl⟩ := within_int h.1
    obtain ⟨ns, rfl⟩ := ints_of h.2
    exact ⟨i :: ns, rfl⟩
theorem heavy_ints (ns : List Int) : ((ns.map D.int).any fun x => !noughtD x) = ns.any fun x => x != 0 := by
  rw [List.any_map]; rfl
theorem nums_items {m : Nat} {hi : Option Int} {d : D} (h : numsB m hi d = true) : ∃ ns : List Int, items d = some (ns.map D.int) ∧ ns.length = m := by
  unfold numsB at h
  cases hi' : items d with
  | none => rw [hi'] at h; cases h
  | some l =>
    rw [hi'] at h
    simp only [Bool.and_eq_true, decide_eq_true_eq] at h
    obtain ⟨ns, rfl⟩ := ints_of h.2
    exact ⟨ns, rfl, by simpa using h.1⟩
theorem law_corners_in : Law sp_corners_in w_corners_in n_corners_in := by
  rintro ds n Qd Qe ⟨d, rfl, hp, hn, q⟩
  have hb := plain_bare hp
  have v0 : ∀ {a b : Cell} {Qe : WQ}, EV (wVar 0) Qe ⟨[.val d, a, b], n⟩ d ⟨[.val d, a, b], n⟩ := ev_var rfl
  have rowV : ∀ {a b : Cell} {Qe : WQ}, EV (wCall sp_is_row (wCons (wVar 0) wNil)) Qe ⟨[.val d, a, b], n⟩ (.bl (isRow d)) ⟨[.val d, a, b], n⟩ := ev_call (n' := n) (av_1 v0) fun Q q => ⟨d, rfl, hb, q⟩
  unfold w_corners_in
  show wSeq _ _ _ _ ⟨[.val d, .unb, .unb], n⟩
  cases hi : items d with
  | none =>
    have hr : isRow d = false := by rw [row_items, hi]; rfl
    have hc : cornersD d = .non := by unfold cornersD; rw [hi]
    rw [hc] at q
    exact s_ifT (tv_orT (tv_is (tv_not (tv_T rowV)) (by rw [hr]; rfl))) (s_ret ev_c q)
  | some l =>
    have hr : isRow d = true := by rw [row_items, hi]; rfl
    have hd := items_row hi
    have hl : l.length ≤ 900 := by have := nd_items hi; have := nds_len l; omega
    have r1 : TV (wNot (wT (wCall sp_is_row (wCons (wVar 0) wNil)))) Qe ⟨[.val d, .unb, .unb], n⟩ false ⟨[.val d, .unb, .unb], n⟩ := tv_is (tv_not (tv_T rowV)) (by rw [hr]; rfl)
    have r2 : TV (wNot (wChainN (wC (.int 1)) (wcCons fLe (wCB gLen (wCons (wVar 0) wNil)) (wcLast fLe (wC (.int 6)))))) Qe ⟨[.val d, .unb, .unb], n⟩ (!(decide ((1 : Int) ≤ (l.length : Nat)) && decide (((l.length : Nat) : Int) ≤ 6))) ⟨[.val d, .unb, .unb], n⟩ :=
      tv_not (tv_ch2 ev_c (ev_cb (av_1 v0) (g_len hd)) f_le ev_c f_le)
    cases l with
    | nil =>
      have hc : cornersD d = .non := by unfold cornersD; rw [hi]
      rw [hc] at q
      exact s_ifT (tv_orF r1 (tv_orT (tv_is r2 rfl))) (s_ret ev_c q)
    | cons x l =>
      have hpl := plain_items hi hp
      have hx : plain x = true := plains_mem hpl x (List.mem_cons_self ..)
      have ixV : ∀ {a b : Cell} {Qe : WQ}, EV (wOp fIx (wVar 0) (wC (.int 0))) Qe ⟨[.val d, a, b], n⟩ x ⟨[.val d, a, b], n⟩ := ev_op v0 ev_c (f_ix (i := 0) hd rfl)
      have r3 : TV (wNot (wT (wCall sp_is_row (wCons (wOp fIx (wVar 0) (wC (.int 0))) wNil)))) Qe ⟨[.val d, .unb, .unb], n⟩ (!isRow x) ⟨[.val d, .unb, .unb], n⟩ :=
        tv_not (tv_T (ev_call (n' := n) (av_1 ixV) fun Q q => ⟨x, rfl, plain_bare hx, q⟩))
      cases h6 : decide ((x :: l).length ≤ 6) && isRow x with
      | false =>
        have hc : cornersD d = .non := by unfold cornersD; rw [hi]; simp only [h6, if_true]
        rw [hc] at q
        refine s_ifT (tv_orF r1 (tv_is (tv_or r2 fun _ => r3) ?_)) (s_ret ev_c q)
        have e : decide ((1 : Int) ≤ ((x :: l).length : Nat)) = true := decide_eq_true (by rw [List.length_cons]; omega)
        have e2 : decide ((((x :: l).length : Nat) : Int) ≤ 6) = decide ((x :: l).length ≤ 6) := decide_eq_decide.mpr (by omega)
        rw [e, e2, Bool.true_and, ← Bool.not_and, h6]; rfl
      | true =>
        have h6' := h6
        rw [Bool.and_eq_true, decide_eq_true_eq] at h6
        have e : decide ((1 : Int) ≤ ((x :: l).length : Nat)) = true := decide_eq_true (by rw [List.length_cons]; omega)
        have e2 : decide ((((x :: l).length : Nat) : Int) ≤ 6) = true := decide_eq_true (by omega)
        refine s_skip (tv_orF r1 (tv_orF (tv_is r2 (by rw [e, e2]; rfl)) (tv_is r3 (by rw [h6.2]; rfl)))) ?_
        obtain ⟨r, hr'⟩ : ∃ r, items x = some r := Option.isSome_iff_exists.mp (by rw [← row_items]; exact h6.2)
        have hxd := items_row hr'
        have hlx : lenD x = r.length := by unfold lenD; rw [hr']
        refine s_asg (ev_cb (av_1 ixV) (g_len hxd)) ?_
        show wSeq _ _ _ _ ⟨[.val d, .val (.int (r.length : Nat)), .unb], n⟩
        have hnx : nd x ≤ 900 := by have := nd_items hi; have := nd_mem (List.mem_cons_self (a := x) (l := l)); omega
        have hlr : r.length ≤ 900 := by have := nd_items hr'; have := nds_len r; omega
        have r4 : TV (wNot (wChainN (wC (.int 1)) (wcCons fLe (wVar 1) (wcLast fLe (wC (.int 6)))))) Qe ⟨[.val d, .val (.int (r.length : Nat)), .unb], n⟩ (!(decide ((1 : Int) ≤ (r.length : Nat)) && decide (((r.length : Nat) : Int) ≤ 6))) ⟨[.val d, .val (.int (r.length : Nat)), .unb], n⟩ :=
          tv_not (tv_ch2 ev_c (ev_var rfl) f_le ev_c f_le)
        have r5 : TV (wNot (wT (wCB gAll (wCons (wGive (wLc [2] (wSeqI (wVar 0)) (wgName 2) wTrue (wCall sp_are_numbers (wCons (wVar 2) (wCons (wVar 1) (wCons (wC (.int 1000000)) wNil)))))) wNil)))) Qe ⟨[.val d, .val (.int (r.length : Nat)), .unb], n⟩ (!((x :: l).all (numsB r.length (some 1000000)))) ⟨[.val d, .val (.int (r.length : Nat)), .unb], n⟩ := by
          refine tv_not (tv_T (ev_cb (av_1 (ev_give (fv_map (v := 2) (k := fun y => .bl (numsB r.length (some 1000000) y)) (iv_seq v0 hd) (by omega) rfl fun y hy => ?_))) g_all))
          refine ev_call (n' := n) (av_cons (ev_var rfl) (av_cons (ev_var rfl) (av_1 ev_c))) fun Q q => ⟨y, _, some 1000000, rfl, plains_mem hpl y hy, fun l' h' => ?_, q⟩
          have := nd_items hi; have := nd_mem hy; have := nd_items h'; have := nds_len l'; omega
        have e3 : decide ((1 : Int) ≤ (r.length : Nat)) = decide (1 ≤ lenD x) := decide_eq_decide.mpr (by omega)
        have e4 : decide (((r.length : Nat) : Int) ≤ 6) = decide (lenD x ≤ 6) := decide_eq_decide.mpr (by omega)
        cases h7 : decide (1 ≤ lenD x) && decide (lenD x ≤ 6) && (x :: l).all (numsB (lenD x) (some 1000000)) with
        | false =>
          have hc : cornersD d = .non := by unfold cornersD; rw [hi]; simp only [h6', Bool.true_eq_false, if_false, h7, if_true]
          rw [hc] at q
          refine s_ifT (tv_is (tv_or r4 fun _ => r5) ?_) (s_ret ev_c q)
          rw [e3, e4, ← Bool.not_and, ← hlx, h7]; rfl
        | true =>
          refine s_skip (tv_is (tv_or r4 fun _ => r5) (by rw [e3, e4, ← Bool.not_and, ← hlx, h7]; rfl)) ?_
          rw [Bool.and_eq_true] at h7
          have hall : ∀ y ∈ x :: l, numsB (lenD x) (some 1000000) y = true := List.all_eq_true.mp h7.2
          have r6 : TV (wT (wCB gAll (wCons (wGive (wLc [2] (wSeqI (wVar 0)) (wgName 2) wTrue (wCall sp_is_heavy (wCons (wVar 2) wNil)))) wNil))) Qe ⟨[.val d, .val (.int (r.length : Nat)), .unb], n⟩ ((x :: l).all heavyD) ⟨[.val d, .val (.int (r.length : Nat)), .unb], n⟩ := by
            refine tv_T (ev_cb (av_1 (ev_give (fv_map (v := 2) (k := fun y => .bl (heavyD y)) (iv_seq v0 hd) (by omega) rfl fun y hy => ?_))) g_all)
            obtain ⟨ns, hns, hln⟩ := nums_items (hall y hy)
            have hh : heavyD y = ns.any fun x => x != 0 := by unfold heavyD; rw [hns]; exact heavy_ints ns
            refine ev_call (n' := n) (av_1 (ev_var rfl)) fun Q q => ⟨y, ns, rfl, hns, by omega, ?_⟩
            rw [← hh]; exact q
          cases h8 : (x :: l).all heavyD with
          | false =>
            have hc : cornersD d = .non := by unfold cornersD; rw [hi]; simp only [h6', Bool.true_eq_false, if_false, h7.1, h7.2, Bool.and_self, h8, Bool.false_eq_true]
            rw [hc] at q
            exact s_ret (ev_ifF (tv_is r6 h8) ev_c) q
          | true =>
            have hc : cornersD d = fixD d := by unfold cornersD; rw [hi]; simp only [h6', Bool.true_eq_false, if_false, h7.1, h7.2, Bool.and_self, h8, if_true]
            rw [hc] at q
            exact s_ret (ev_ifT (tv_is r6 h8) (ev_call (n' := n) (av_1 v0) fun Q q => ⟨d, rfl, hp, by omega, q⟩)) q
theorem corners_tup {d : D} (h : cornersD d ≠ .non) : ∃ r l, cornersD d = .tup (.tup r :: l) := by
  unfold cornersD at h ⊢
  cases hi : items d with
  | none => rw [hi] at h; exact (h rfl).elim
  | some l =>
    cases l with
    | nil => rw [hi] at h; exact (h rfl).elim
    | cons x l =>
      rw [hi] at h
      simp only at h ⊢
      split at h
      · exact (h rfl).elim
      · rename_i h6
        rw [if_neg h6]
        split at h
        · exact (h rfl).elim
        · rename_i h7
          rw [if_neg h7]
          split at h
          · rename_i h8
            rw [if_pos h8]
            have hr : isRow x = true := by
              cases hh : isRow x with
              | true => rfl
              | false => rw [hh, Bool.and_false] at h6; exact (h6 rfl).elim
            have hx : ∃ r, fixD x = .tup r := by
              cases x <;> first | exact ⟨_, by rw [fixD]⟩ | cases hr
            obtain ⟨r, hr⟩ := hx
            refine ⟨r, fixDs l, ?_⟩
            rcases items_row hi with rfl | rfl <;> rw [fixD, fixDs, hr]
          · exact (h rfl).elim
end K78
set_option Elab.async false
set_option linter.all false
set_option maxRecDepth 100000
set_option maxHeartbeats 4000000
namespace K78
open PySem L2 Evl DL
theorem law_finit (F CF : Addr) : Law (sp_finit F CF) (w_Field___init__ F CF) n_Field___init__ := by
  rintro ds n Qd Qe ⟨a, d, rfl, hs, hp, hn, q1, q2⟩
  have v0 : ∀ {m : M} {Qe : WQ}, EV (wVar 0) Qe ⟨[.val (.loc a), .val d], m⟩ (.loc a) ⟨[.val (.loc a), .val d], m⟩ := ev_var rfl
  unfold w_Field___init__
  refine s_setFld (s1 := ⟨[.val (.loc a), .val d], n⟩) (ev_call (n' := n) (av_1 (ev_var rfl)) fun Q q => ⟨d, rfl, hp, hn, q⟩) v0 hs (by decide) rfl ?_
  show wSeq _ _ _ _ ⟨[.val (.loc a), .val d], ⟨n.n, updS n.st a (.ins F ["corners"] [cornersD d])⟩⟩
  have fc : ∀ {Qe : WQ}, EV (wFldU F "corners" (wVar 0)) Qe ⟨[.val (.loc a), .val d], ⟨n.n, updS n.st a (.ins F ["corners"] [cornersD d])⟩⟩ (cornersD d) ⟨[.val (.loc a), .val d], ⟨n.n, updS n.st a (.ins F ["corners"] [cornersD d])⟩⟩ := ev_fldL v0 updS_same rfl
  by_cases hc : cornersD d = .non
  · exact s_ifT (tv_is (tv_T (ev_isN fc)) (by rw [hc]; rfl)) (s_raise ev_c (q1 hc _))
  · have q := q2 hc
    obtain ⟨r, l, he⟩ := corners_tup hc
    rw [he] at q fc ⊢
    refine s_skip (tv_T (ev_isN fc)) (s_setFld1 (ev_cb (av_1 (ev_op fc ev_c (f_ix (i := 0) (.inr rfl) rfl))) (g_len (.inr rfl))) v0 updS_same (by decide) rfl ?_)
    show Qd .non ⟨n.n, updS (updS n.st a _) a _⟩
    rw [updS_upd]
    exact q
end K78
set_option Elab.async false
set_option linter.all false
set_option maxRecDepth 100000
set_option maxHeartbeats 4000000
namespace K78
open PySem L2 Evl DL
def digD : D → Bool
  | .str x => match x.cps.toList with
    | [c] => decide (c ∈ ("0123456789" : Str).cps.toList)
    | _ => false
  | _ => false
theorem digD_all (w : Str) : (signsD w).all digD = digS w := by
  unfold signsD digS
  rw [List.all_map]
  rfl
theorem signs_mem {w : Str} {d : D} (h : d ∈ signsD w) : ∃ c ∈ w.cps.toList, d = .str ⟨#[c]⟩ := by
  obtain ⟨c, hc, rfl⟩ := List.mem_map.mp h
  exact ⟨c, hc, rfl⟩
theorem str_nil {w : Str} (h : w ≠ "") : ∃ c cs, w.cps.toList = c :: cs := by
  cases e : w.cps.toList with
  | nil =>
    exfalso
    apply h
    cases w with
    | mk a =>
      have : a = #[] := by simpa using e
      rw [this]; rfl
  | cons c cs => exact ⟨c, cs, rfl⟩
theorem figs : ∀ c, c ∈ ("0123456789" : Str).cps.toList → 48 ≤ c ∧ c ≤ 57 := by decide +kernel
theorem dig_all {w : Str} (h : digS w = true) : PySem.NumText.AllDigits w.cps.toList := fun c hc => by
  unfold digS at h
  exact figs c (of_decide_eq_true (List.all_eq_true.mp h c hc))
theorem int_dig {w : Str} (h : digS w = true) (hn : w ≠ "") (hl : w.length ≤ 7) : PySem.intText? w = some ((PySem.NumText.digitsVal w.cps.toList : Nat) : Int) := by
  obtain ⟨c, cs, e⟩ := str_nil hn
  exact PySem.intText_digits (dig_all h) (by rw [e]; exact fun z => nomatch z) (by omega)
theorem one_eq (c : Nat) : decide ((⟨#[c]⟩ : Str) = ("0" : Str)) = decide (some c = some 48) := by
  have e : ("0" : Str) = ⟨#[48]⟩ := by decide +kernel
  rw [e]
  refine decide_eq_decide.mpr ⟨fun h => ?_, fun h => ?_⟩
  · injection h with h
    have := congrArg Array.toList h
    simpa using this
  · injection h with h
    rw [h]
theorem at_natG {α : Type} {ds : List α} {j : Nat} {d : α} (h : ds[j]? = some d) : atI ds (j : Int) = some d := by
  have hj : j < ds.length := (List.getElem?_eq_some_iff.mp h).1
  rw [atI, ixN_nat hj]
  exact h
theorem signs_len (w : Str) : (signsD w).length = w.length := by
  unfold signsD
  rw [List.length_map]
  show w.cps.toList.length = w.cps.size
  simp
theorem digs_ev {Qe : WQ} {s : S} {w : Str} {i v : Nat} {we : WE} (hv : EV (wVar i) Qe s (.str w) s) (hw : wipeS [v] s = s) (hvl : v < s.env.length) (hl : w.length ≤ 90000) (hf : ∀ s', EV we Qf s' (.str "0123456789") s') :
    EV (wCB gAll (wCons (wGive (wLc [v] (wStrI (wVar i)) (wgName v) wTrue (wOp (fInS false) (wVar v) we))) wNil)) Qe s (.bl (digS w)) s := by
  rw [← digD_all]
  refine ev_cb (av_1 (ev_give (fv_map (k := fun d => .bl (digD d)) (iv_str hv) ?_ hw fun d hd => ?_))) g_all
  · rw [signs_len]; omega
  · obtain ⟨c, hc, rfl⟩ := signs_mem hd
    exact ev_op (ev_var (by rw [List.getElem?_set_self hvl])) (hf _) fun R r => ⟨c, rfl, r⟩
theorem law_whole_of : Law sp_whole_of w_whole_of n_whole_of := by
  rintro ds n Qd Qe ⟨w, rfl, hl, q⟩
  unfold w_whole_of
  have v0 : ∀ {Qe : WQ}, EV (wVar 0) Qe ⟨[.val (.str w), .val (.int 1000000), .unb], n⟩ (.str w) ⟨[.val (.str w), .val (.int 1000000), .unb], n⟩ := ev_var rfl
  have v1 : ∀ {Qe : WQ}, EV (wVar 1) Qe ⟨[.val (.str w), .val (.int 1000000), .unb], n⟩ (.int 1000000) ⟨[.val (.str w), .val (.int 1000000), .unb], n⟩ := ev_var rfl
  show wSeq _ _ _ _ ⟨[.val (.str w), .val (.int 1000000), .unb], n⟩
  have t1 : TV (wT (wOp fGt (wCB gLen (wCons (wVar 0) wNil)) (wCB gLen (wCons (wCB gStrI (wCons (wVar 1) wNil)) wNil)))) Qe ⟨[.val (.str w), .val (.int 1000000), .unb], n⟩ (decide (7 < w.length)) ⟨[.val (.str w), .val (.int 1000000), .unb], n⟩ := by
    refine tv_is (tv_T (ev_op (ev_cb (av_1 v0) (g_lenS (by omega))) (ev_cb (av_1 (ev_cb (av_1 v1) (z := .str (toString (1000000 : Int))) fun R r => ⟨by decide +kernel, r⟩)) (g_lenS (by decide +kernel))) f_gt)) ?_
    have e : (toString (1000000 : Int) : Str).length = 7 := by decide +kernel
    rw [e]
    exact decide_eq_decide.mpr (by omega)
  have t2 : TV (wT (wOp (fEq false) (wVar 0) (wC (.str "")))) Qe ⟨[.val (.str w), .val (.int 1000000), .unb], n⟩ (decide (w = "")) ⟨[.val (.str w), .val (.int 1000000), .unb], n⟩ := tv_T (ev_op v0 ev_c f_eqS)
  have t3 := tv_not (tv_T (digs_ev (v := 2) (v0 (Qe := Qe)) rfl (by show 2 < 3; omega) hl fun _ => ev_c))
  have t := tv_or t1 fun _ => tv_or t2 fun _ => t3
  unfold wholeW at q
  rw [← Bool.or_assoc] at t
  cases h1 : decide (7 < w.length) || decide (w = "") || !digS w with
  | true =>
    rw [if_pos h1] at q
    exact s_ifT (tv_is t h1) (s_ret ev_c q)
  | false =>
    rw [if_neg (by rw [h1]; exact Bool.false_ne_true)] at q
    refine s_skip (tv_is t h1) ?_
    simp only [Bool.or_eq_false_iff, Bool.not_eq_false', decide_eq_false_iff_not] at h1
    obtain ⟨⟨g1, g2⟩, g3⟩ := h1
    obtain ⟨c, cs, hc⟩ := str_nil g2
    have t4 : TV (wT (wOp (fEq false) (wOp fIxS (wVar 0) (wC (.int 0))) (wC (.str "0")))) Qe ⟨[.val (.str w), .val (.int 1000000), .unb], n⟩ (decide (some c = some 48)) ⟨[.val (.str w), .val (.int 1000000), .unb], n⟩ :=
      tv_is (tv_T (ev_op (ev_op v0 ev_c (z := .str ⟨#[c]⟩) fun R r => ⟨c, at_natG (j := 0) (by rw [hc]; rfl), by omega, r⟩) ev_c f_eqS)) (one_eq c)
    have t5 : TV (wT (wOp (fEq true) (wVar 0) (wC (.str "0")))) Qe ⟨[.val (.str w), .val (.int 1000000), .unb], n⟩ (!decide (w = "0")) ⟨[.val (.str w), .val (.int 1000000), .unb], n⟩ := tv_T (ev_op v0 ev_c f_neS)
    have t6 := tv_and t4 fun _ => t5
    have e0 : w.cps.toList[0]? = some c := by rw [hc]; rfl
    rw [e0] at q
    cases h2 : decide (some c = some 48) && !decide (w = "0") with
    | true =>
      rw [if_pos h2] at q
      exact s_ifT (tv_is t6 h2) (s_ret ev_c q)
    | false =>
      rw [if_neg (by rw [h2]; exact Bool.false_ne_true)] at q
      refine s_skip (tv_is t6 h2) ?_
      have iv : ∀ {Qe : WQ}, EV (wCB gIntS (wCons (wVar 0) wNil)) Qe ⟨[.val (.str w), .val (.int 1000000), .unb], n⟩ (.int ((PySem.NumText.digitsVal w.cps.toList : Nat) : Int)) ⟨[.val (.str w), .val (.int 1000000), .unb], n⟩ :=
        ev_cb (av_1 v0) fun R r => ⟨_, int_dig g3 g2 (by omega), by omega, r⟩
      have t7 := tv_T (ev_op (iv (Qe := Qe)) v1 f_le)
      by_cases h3 : PySem.NumText.digitsVal w.cps.toList ≤ 1000000
      · rw [if_pos h3] at q
        exact s_ret (ev_ifT (tv_is t7 (decide_eq_true (by omega))) iv) q
      · rw [if_neg h3] at q
        exact s_ret (ev_ifF (tv_is t7 (decide_eq_false (by omega))) ev_c) q
end K78
set_option Elab.async false
set_option linter.all false
set_option maxRecDepth 100000
set_option maxHeartbeats 4000000
namespace K78
open PySem L2 Evl DL
section
variable {L LS CT : Addr}
theorem law_linit : Law (sp_linit L) (w_Line___init__ L) n_Line___init__ := by
  rintro ds n Qd Qe ⟨a, num, t, rfl, hs, hl, q⟩
  unfold w_Line___init__
  have v0 : ∀ {m : M} {Qe : WQ}, EV (wVar 0) Qe ⟨[.val (.loc a), .val (.int (num : Nat)), .val (.str t)], m⟩ (.loc a) ⟨[.val (.loc a), .val (.int (num : Nat)), .val (.str t)], m⟩ := ev_var rfl
  refine s_setFld (ev_var rfl) v0 hs (by decide) rfl ?_
  show wSeq _ _ _ _ ⟨[.val (.loc a), .val (.int (num : Nat)), .val (.str t)], ⟨n.n, updS n.st a (.ins L ["number"] [.int (num : Nat)])⟩⟩
  refine s_setFld (ev_split (ev_var rfl) ev_c (by decide +kernel) hl) v0 updS_same (by decide) rfl ?_
  show wSetFld _ _ _ _ _ _ ⟨[.val (.loc a), .val (.int (num : Nat)), .val (.str t)], ⟨n.n, updS (updS n.st a (.ins L ["number"] [.int (num : Nat)])) a (.ins L ["number", "words"] [.int (num : Nat), .lst (txs (Txt.split t " "))])⟩⟩
  refine s_setFld1 ev_c v0 updS_same (by decide) rfl ?_
  show Qd .non ⟨n.n, updS (updS (updS n.st a _) a _) a _⟩
  rw [updS_upd, updS_upd]
  exact q
theorem law_stop : Law (sp_stop L CT) (w_Line_stop CT L) n_Line_stop := by
  rintro ds n Qd Qe ⟨a, num, ws, at', rfl, hs, q⟩
  exact s_raise2 (ev_fldL (ev_var rfl) hs rfl) (ev_fldL (ev_var rfl) hs rfl) (q n.st)
theorem law_back : Law (sp_back L CT) (w_Line_back CT L) n_Line_back := by
  rintro ds n Qd Qe ⟨a, num, ws, at', rfl, hs, q⟩
  refine s_raise2 (ev_fldL (ev_var rfl) hs rfl) (ev_op (z := .int (at' : Nat)) (ev_fldL (ev_var rfl) hs rfl) ev_c fun R r => ?_) (q n.st)
  show R (.int (((at' + 1 : Nat) : Int) - 1))
  rw [show ((at' + 1 : Nat) : Int) - 1 = (at' : Nat) by omega]
  exact r
theorem ahead_ev {a : Addr} {num at' : Nat} {ws : List Str} {n : M} {Qe : WQ} (hs : n.st a = some (lineS L num ws at')) (hl : ws.length ≤ 100000) : ∀ Q : D → M → Prop, Q (optS ws[at']?) n → sp_ahead L [.loc a] n Q Qe := fun Q q => ⟨a, num, ws, at', rfl, hs, hl, q⟩
theorem law_ahead : Law (sp_ahead L) (w_Line_ahead L) n_Line_ahead := by
  rintro ds n Qd Qe ⟨a, num, ws, at', rfl, hs, hl, q⟩
  unfold w_Line_ahead
  show wRet _ _ _ ⟨[.val (.loc a)], n⟩
  have fa : ∀ {Qe : WQ}, EV (wFldU L "at" (wVar 0)) Qe ⟨[.val (.loc a)], n⟩ (.int (at' : Nat)) ⟨[.val (.loc a)], n⟩ := ev_fldL (ev_var rfl) hs rfl
  have fw : ∀ {Qe : WQ}, EV (wFldU L "words" (wVar 0)) Qe ⟨[.val (.loc a)], n⟩ (.lst (txs ws)) ⟨[.val (.loc a)], n⟩ := ev_fldL (ev_var rfl) hs rfl
  have tl : (txs ws).length = ws.length := by simp [txs]
  have t := tv_T (ev_op (fa (Qe := Qe)) (ev_cb (av_1 fw) (g_len (.inl rfl))) f_lt)
  rw [tl] at t
  by_cases h : at' < ws.length
  · have e : ws[at']? = some ws[at'] := List.getElem?_eq_getElem h
    rw [e] at q
    refine s_ret (ev_ifT (tv_is t (decide_eq_true (by omega))) (ev_op fw fa (f_ix (x := .str ws[at']) (.inl rfl) ?_))) q
    unfold txs; rw [List.getElem?_map, e]; rfl
  · rw [List.getElem?_eq_none (by omega)] at q
    exact s_ret (ev_ifF (tv_is t (decide_eq_false (by omega))) ev_c) q
theorem law_take : Law (sp_take L CT) (w_Line_take CT L) n_Line_take := by
  rintro ds n Qd Qe ⟨a, num, ws, at', rfl, hs, hl, q1, q2⟩
  unfold w_Line_take
  show wSeq _ _ _ _ ⟨[.val (.loc a), .unb], n⟩
  refine s_asg (ev_meth (n' := n) (z := optS ws[at']?) (ev_var rfl) hs (by decide +kernel) av_nil (ahead_ev hs hl)) ?_
  show wSeq _ _ _ _ ⟨[.val (.loc a), .val (optS ws[at']?)], n⟩
  cases hw : ws[at']? with
  | none => exact s_ifT (tv_T (ev_isN (d := .non) (ev_var rfl))) (s_dropN (nv_meth (ev_var rfl) hs (by decide +kernel) av_nil fun Q => ⟨a, num, ws, at', rfl, hs, q2 hw⟩))
  | some w =>
    refine s_skip (tv_T (ev_isN (d := .str w) (ev_var rfl))) ?_
    refine s_setFld (ev_op (z := .int ((at' + 1 : Nat) : Int)) (ev_fldL (ev_var rfl) hs rfl) ev_c fun R r => ?_) (ev_var rfl) hs (by decide) rfl (s_ret (d := .str w) (ev_var rfl) (q1 w hw))
    exact r
theorem law_take_one : Law (sp_take_one L CT) (w_Line_take_one CT L) n_Line_take_one := by
  rintro ds n Qd Qe ⟨a, num, ws, at', vs, rfl, hs, hl, q1, q2⟩
  unfold w_Line_take_one
  show wSeq _ _ _ _ ⟨[.val (.loc a), .val (.lst (txs vs))], n⟩
  have ah : ∀ {Qe : WQ}, EV (wMeth L "ahead" (sp_ahead L) (wVar 0) wNil) Qe ⟨[.val (.loc a), .val (.lst (txs vs))], n⟩ (optS ws[at']?) ⟨[.val (.loc a), .val (.lst (txs vs))], n⟩ := ev_meth (n' := n) (ev_var rfl) hs (by decide +kernel) av_nil (ahead_ev hs hl)
  have tk : ∀ {Qe : WQ} {w : Str}, ws[at']? = some w → EV (wMeth L "take" (sp_take L CT) (wVar 0) wNil) Qe ⟨[.val (.loc a), .val (.lst (txs vs))], n⟩ (.str w) ⟨[.val (.loc a), .val (.lst (txs vs))], putS n a (lineS L num ws (at' + 1))⟩ := fun {Qe w} hw =>
    ev_meth (ev_var rfl) hs (by decide +kernel) av_nil fun Q q => ⟨a, num, ws, at', rfl, hs, hl, fun w' h => by rw [hw] at h; cases h; exact q, fun h => by rw [hw] at h; cases h⟩
  cases hw : ws[at']? with
  | none =>
    rw [hw] at ah
    refine s_ifT (tv_orT (tv_T (ev_isN ah))) (s_dropN (nv_meth (ev_var rfl) hs (by decide +kernel) av_nil fun Q => ⟨a, num, ws, at', rfl, hs, q2 fun w h => by rw [hw] at h; cases h⟩))
  | some w =>
    rw [hw] at ah
    have t2 := tv_T (ev_op (f := fInTx true) (z := .bl (!decide (w ∈ vs))) (ah (Qe := Qe)) (ev_var (i := 1) rfl) fun R r => ⟨w, vs, rfl, .inl rfl, r⟩)
    by_cases hm : w ∈ vs
    · exact s_skip (tv_orF (tv_T (ev_isN ah)) (tv_is t2 (by rw [decide_eq_true hm]; rfl))) (s_ret (tk hw) (q1 w hw hm))
    · exact s_ifT (tv_orF (tv_T (ev_isN ah)) (tv_is t2 (by rw [decide_eq_false hm]; rfl))) (s_dropN (nv_meth (ev_var rfl) hs (by decide +kernel) av_nil fun Q => ⟨a, num, ws, at', rfl, hs, q2 fun w' h => by rw [hw] at h; cases h; exact hm⟩))
theorem law_take_whole : Law (sp_take_whole L CT) (w_Line_take_whole CT L) n_Line_take_whole := by
  rintro ds n Qd Qe ⟨a, num, ws, at', rfl, hs, ⟨hl, hw9⟩, q1, q2⟩
  unfold w_Line_take_whole
  show wSeq _ _ _ _ ⟨[.val (.loc a), .val (.int 1000000), .unb, .unb], n⟩
  refine s_asg (ev_meth (n' := n) (ev_var rfl) hs (by decide +kernel) av_nil (ahead_ev hs (by omega))) ?_
  show wSeq _ _ _ _ ⟨[.val (.loc a), .val (.int 1000000), .val (optS ws[at']?), .unb], n⟩
  have stop : ∀ {c d : Cell} {Qe : WQ} {De : DEnds}, badT Qe CT n num at' → wDrop (wMeth L "stop" (sp_stop L CT) (wVar 0) wNil) Qe De ⟨[.val (.loc a), .val (.int 1000000), c, d], n⟩ := fun {c d Qe De} h => s_dropN (nv_meth (ev_var rfl) hs (by decide +kernel) av_nil fun Q => ⟨a, num, ws, at', rfl, hs, h⟩)
  cases hw : ws[at']? with
  | none =>
    refine s_asg (ev_ifT (tv_T (ev_isN (d := .non) (ev_var rfl))) ev_c) ?_
    exact s_ifT (tv_T (ev_isN (d := .non) (ev_var rfl))) (stop (q2 fun w h => by rw [hw] at h; cases h))
  | some w =>
    refine s_asg (ev_ifF (tv_T (ev_isN (d := .str w) (ev_var rfl))) (ev_call (n' := n) (av_cons (ev_var rfl) (av_1 (ev_var rfl))) fun Q q => ⟨w, rfl, hw9 w (List.mem_of_getElem? hw), q⟩)) ?_
    show wSeq _ _ _ _ ⟨[.val (.loc a), .val (.int 1000000), .val (.str w), .val (optN (wholeW w))], n⟩
    cases hv : wholeW w with
    | none => exact s_ifT (tv_T (ev_isN (d := .non) (ev_var rfl))) (stop (q2 fun w' h => by rw [hw] at h; cases h; exact hv))
    | some v =>
      refine s_skip (tv_T (ev_isN (d := .int (v : Nat)) (ev_var rfl))) ?_
      refine DL.s_drop (ev_meth (n' := putS n a (lineS L num ws (at' + 1))) (z := .str w) (ev_var rfl) hs (by decide +kernel) av_nil fun Q q => ⟨a, num, ws, at', rfl, hs, by omega, fun w' h => by rw [hw] at h; cases h; exact q, fun h => by rw [hw] at h; cases h⟩) ?_
      exact s_ret (d := .int (v : Nat)) (ev_var rfl) (q1 w v hw hv)
theorem law_lend : Law (sp_lend L CT) (w_Line_end CT L) n_Line_end := by
  rintro ds n Qd Qe ⟨a, num, ws, at', rfl, hs, hl, q1, q2⟩
  unfold w_Line_end
  show wIfS _ _ _ _ _ ⟨[.val (.loc a)], n⟩
  have ah : ∀ {Qe : WQ}, EV (wMeth L "ahead" (sp_ahead L) (wVar 0) wNil) Qe ⟨[.val (.loc a)], n⟩ (optS ws[at']?) ⟨[.val (.loc a)], n⟩ := ev_meth (n' := n) (ev_var rfl) hs (by decide +kernel) av_nil (ahead_ev hs hl)
  by_cases h : at' < ws.length
  · rw [List.getElem?_eq_getElem h] at ah
    exact s_ifT1 (tv_T (ev_notN ah)) (s_dropN (nv_meth (ev_var rfl) hs (by decide +kernel) av_nil fun Q => ⟨a, num, ws, at', rfl, hs, q2 h⟩))
  · rw [List.getElem?_eq_none (by omega)] at ah
    exact s_ifF1 (tv_T (ev_notN ah)) (q1 h)
end
end K78
set_option Elab.async false
set_option linter.all false
set_option maxRecDepth 100000
set_option maxHeartbeats 4000000
namespace K78
open PySem L2 Evl DL
theorem sum_ge : ∀ {l : List Nat} {x : Nat}, x ∈ l → x ≤ l.sum
  | y :: l, x, h => by
    rw [List.sum_cons]
    rcases List.mem_cons.mp h with rfl | h
    · omega
    · have := sum_ge h; omega
theorem split_parts {x y : Str} (hy : 1 ≤ y.length) : (Txt.split x y).length ≤ x.length + 1 ∧ ∀ w ∈ Txt.split x y, w.length ≤ x.length := by
  have h := PyProof.Rows.split_weight x y hy
  refine ⟨by omega, fun w hw => ?_⟩
  have h1 := sum_ge (List.mem_map_of_mem (f := (·.length)) hw)
  have h2 := List.length_pos_of_mem hw
  omega
theorem split_ne {x y : Str} : Txt.split x y ≠ [] := by
  unfold Txt.split
  split
  · simp
  · split
    · simp
    · intro h
      have := congrArg List.length h
      rw [PyProof.Rows.len_partsBetween] at this
      simp at this
theorem txs_len {ys : List Str} : (txs ys).length = ys.length := by simp [txs]
theorem enum_cons {i : Nat} {d : D} {l : List D} : enumD i (d :: l) = .tup [.int (i : Nat), d] :: enumD (i + 1) l := rfl
theorem s_retMkLc {C : Addr} {sp : DSp} {dds : List D} {vs : List Nat} {wi : WI} {wg : WG} {wt : WT} {we : WE} {Qe : WQ} {De : DEnds} {s : S} (h : wi Qe s fun ds s1 => wLcL vs wg wt we (fun es s2 => ∀ x, s2.n.st x = none → sp (.loc x :: ([.lst es] ++ dds)) ⟨s2.n.n, updS s2.n.st x (.ins C [] [])⟩ (fun d n' => d = .non ∧ De.rt (.loc x) n') Qe.only) ds [] s1) :
    wRet (wMakeD C sp dds (wCons (wGive (wLc vs wi wg wt we)) wNil)) Qe De s := h
section
variable {L LS CT : Addr}
theorem law_lsinit : Law (sp_lsinit LS) (w_Lines___init__ LS) n_Lines___init__ := by
  rintro ds n Qd Qe ⟨a, ls, rfl, hs, q⟩
  unfold w_Lines___init__
  have v0 : ∀ {m : M} {Qe : WQ}, EV (wVar 0) Qe ⟨[.val (.loc a), .val (.lst (ls.map .loc)), .val (.int 0)], m⟩ (.loc a) ⟨[.val (.loc a), .val (.lst (ls.map .loc)), .val (.int 0)], m⟩ := ev_var rfl
  refine s_setFld (ev_var rfl) v0 hs (by decide) rfl ?_
  show wSetFld _ _ _ _ _ _ ⟨[.val (.loc a), .val (.lst (ls.map .loc)), .val (.int 0)], ⟨n.n, updS n.st a (.ins LS ["lines"] [.lst (ls.map .loc)])⟩⟩
  refine s_setFld1 (ev_var rfl) v0 updS_same (by decide) rfl ?_
  show Qd .non ⟨n.n, updS (updS n.st a _) a _⟩
  rw [updS_upd]
  exact q
variable {st : Sto} {a : Addr} {ls : List Addr} {wss : List (List Str)} {k : Nat}
theorem Ready.get (r : Ready L LS st a ls wss k) (h : k < wss.length) : ∃ b w ws, ls[k]? = some b ∧ wss[k]? = some (w :: ws) ∧ st b = some (lineS L k (w :: ws) 0) := by
  have h2 : k < ls.length := by rw [r.len]; exact h
  have e := List.getElem?_eq_getElem h
  have e2 := List.getElem?_eq_getElem h2
  have n := (r.sh.2 wss[k] (List.getElem_mem h)).1
  cases hw : wss[k] with
  | nil => exact absurd hw n
  | cons w ws => rw [hw] at e; exact ⟨_, w, ws, e2, e, r.ln k _ _ (Nat.le_refl _) e2 e⟩
theorem locs_len : (ls.map D.loc).length = ls.length := by simp
theorem law_head : Law (sp_head L LS) (w_Lines_head L LS) n_Lines_head := by
  rintro ds n Qd Qe ⟨a, ls, wss, k, rfl, r, q⟩
  unfold w_Lines_head
  show wRet _ _ _ ⟨[.val (.loc a)], n⟩
  have fa : ∀ {Qe : WQ}, EV (wFldU LS "at" (wVar 0)) Qe ⟨[.val (.loc a)], n⟩ (.int (k : Nat)) ⟨[.val (.loc a)], n⟩ := ev_fldL (ev_var rfl) r.ob rfl
  have fl : ∀ {Qe : WQ}, EV (wFldU LS "lines" (wVar 0)) Qe ⟨[.val (.loc a)], n⟩ (.lst (ls.map .loc)) ⟨[.val (.loc a)], n⟩ := ev_fldL (ev_var rfl) r.ob rfl
  have t := tv_T (ev_op (fa (Qe := Qe)) (ev_cb (av_1 fl) (g_len (.inl rfl))) f_lt)
  rw [locs_len, r.len] at t
  by_cases h : k < wss.length
  · obtain ⟨b, w, ws, e1, e2, e3⟩ := r.get h
    rw [e2] at q
    refine s_ret (ev_ifT (tv_is t (decide_eq_true (by omega))) (ev_op (ev_fldL (ev_op fl fa (f_ix (x := .loc b) (.inl rfl) ?_)) e3 rfl) ev_c (f_ix (i := 0) (.inl rfl) rfl))) q
    rw [List.getElem?_map, e1]; rfl
  · rw [List.getElem?_eq_none (by omega)] at q
    exact s_ret (ev_ifF (tv_is t (decide_eq_false (by omega))) ev_c) q
theorem law_lsend : Law (sp_lsend L LS CT) (w_Lines_end CT LS) n_Lines_end := by
  rintro ds n Qd Qe ⟨a, ls, wss, k, rfl, r, q1, q2⟩
  unfold w_Lines_end
  show wIfS _ _ _ _ _ ⟨[.val (.loc a)], n⟩
  have fa : ∀ {Qe : WQ}, EV (wFldU LS "at" (wVar 0)) Qe ⟨[.val (.loc a)], n⟩ (.int (k : Nat)) ⟨[.val (.loc a)], n⟩ := ev_fldL (ev_var rfl) r.ob rfl
  have fl : ∀ {Qe : WQ}, EV (wFldU LS "lines" (wVar 0)) Qe ⟨[.val (.loc a)], n⟩ (.lst (ls.map .loc)) ⟨[.val (.loc a)], n⟩ := ev_fldL (ev_var rfl) r.ob rfl
  have t := tv_T (ev_op (fa (Qe := Qe)) (ev_cb (av_1 fl) (g_len (.inl rfl))) f_lt)
  rw [locs_len, r.len] at t
  by_cases h : k < wss.length
  · exact s_ifT1 (tv_is t (decide_eq_true (by omega))) (s_raise2 fa ev_c (q1 h n.st))
  · exact s_ifF1 (tv_is t (decide_eq_false (by omega))) (q2 h)
theorem law_next : Law (sp_next L LS CT) (w_Lines_next CT L LS) n_Lines_next := by
  rintro ds n Qd Qe ⟨a, ls, wss, k, w, rfl, r, q1, q2⟩
  unfold w_Lines_next
  show wSeq _ _ _ _ ⟨[.val (.loc a), .val (.str w), .unb], n⟩
  have fa : ∀ {Qe : WQ}, EV (wFldU LS "at" (wVar 0)) Qe ⟨[.val (.loc a), .val (.str w), .unb], n⟩ (.int (k : Nat)) ⟨[.val (.loc a), .val (.str w), .unb], n⟩ := ev_fldL (ev_var rfl) r.ob rfl
  have fl : ∀ {Qe : WQ}, EV (wFldU LS "lines" (wVar 0)) Qe ⟨[.val (.loc a), .val (.str w), .unb], n⟩ (.lst (ls.map .loc)) ⟨[.val (.loc a), .val (.str w), .unb], n⟩ := ev_fldL (ev_var rfl) r.ob rfl
  have gl : ∀ {Qe : WQ}, EV (wCB gLen (wCons (wFldU LS "lines" (wVar 0)) wNil)) Qe ⟨[.val (.loc a), .val (.str w), .unb], n⟩ (.int (wss.length : Nat)) ⟨[.val (.loc a), .val (.str w), .unb], n⟩ := by
    intro Qe
    have := ev_cb (av_1 (fl (Qe := Qe))) (g_len (.inl rfl))
    rw [locs_len, r.len] at this
    exact this
  have t := tv_T (ev_op (fa (Qe := Qe)) gl f_ge)
  by_cases h : k < wss.length
  · obtain ⟨b, w', ws, e1, e2, e3⟩ := r.get h
    obtain ⟨p1, p2⟩ := q2 _ b e2 e1
    have hne : b ≠ a := fun e => r.na (e ▸ List.mem_of_getElem? e1)
    have hsh := r.sh.2 _ (List.mem_of_getElem? e2)
    refine s_skip (tv_is t (decide_eq_false (by omega))) ?_
    refine s_asg (ev_op fl fa (f_ix (x := .loc b) (.inl rfl) ?_)) ?_
    · rw [List.getElem?_map, e1]; rfl
    show wSeq _ _ _ _ ⟨[.val (.loc a), .val (.str w), .val (.loc b)], n⟩
    have ag : ∀ {Qe : WQ}, AV (wCons (wGive (wLst (wCons (wVar 1) wNil))) wNil) Qe ⟨[.val (.loc a), .val (.str w), .val (.loc b)], n⟩ [.lst (txs [w])] ⟨[.val (.loc a), .val (.str w), .val (.loc b)], n⟩ := av_1 (ev_give (fv_lst (av_1 (ev_var rfl)) (by show 1 ≤ 100000; decide)))
    by_cases hw : w' = w
    · subst hw
      refine DL.s_drop (ev_meth (n' := putS n b (lineS L k (w' :: ws) 1)) (z := .str w') (ev_var rfl) e3 (by decide +kernel) ag fun Q q => ⟨b, k, _, 0, [w'], rfl, e3, by have := hsh.2.1; omega, fun v hv hm => ?_, fun hn => ?_⟩) ?_
      · cases (show some w' = some v from hv); exact q
      · exact absurd (List.mem_cons_self ..) (hn w' rfl)
      show wSeq _ _ _ _ ⟨[.val (.loc a), .val (.str w'), .val (.loc b)], putS n b (lineS L k (w' :: ws) 1)⟩
      have oa : (putS n b (lineS L k (w' :: ws) 1)).st a = some (linesS LS ls k) := by
        show updS n.st b _ a = _
        rw [updS_ne (Ne.symm hne)]; exact r.ob
      refine s_setFld (d := .int ((k + 1 : Nat) : Int)) (ev_op (ev_fldL (ev_var rfl) oa rfl) ev_c fun R rr => rr) (ev_var rfl) oa (by decide) rfl ?_
      show wRet _ _ _ ⟨[.val (.loc a), .val (.str w'), .val (.loc b)], ⟨n.n, updS (updS n.st b (lineS L k (w' :: ws) 1)) a (linesS LS ls (k + 1))⟩⟩
      refine s_ret (ev_var rfl) (p2 rfl _ ⟨updS_same, r.len, by omega, fun i c vs hi hc hv => ?_, r.nd, r.na, r.sh⟩ ?_)
      · have hcb : c ≠ b := fun e => by
          subst e
          have := (List.getElem?_inj (by rw [r.len]; exact h) r.nd).mp (e1.trans hc.symm)
          omega
        have hca : c ≠ a := fun e => r.na (e ▸ List.mem_of_getElem? hc)
        rw [updS_ne hca, updS_ne hcb]
        exact r.ln i c vs (by omega) hc hv
      · rw [updS_ne hne]; exact updS_same
    · refine DL.s_dropNS (nv_meth (ev_var rfl) e3 (by decide +kernel) ag fun Q => ⟨b, k, _, 0, [w], rfl, e3, by have := hsh.2.1; omega, fun v hv hm => ?_, fun _ => ?_⟩)
      · cases (show some w' = some v from hv)
        exact absurd (List.mem_singleton.mp hm) hw
      · exact p1 (by intro e; exact hw (Option.some.inj e))
  · refine s_ifT (tv_is t (decide_eq_true (by omega))) (s_raise2 gl ev_c (q1 (List.getElem?_eq_none (by omega)) n.st))
theorem law_lines_of : Law (sp_lines_of L LS) (w_lines_of CT L LS) n_lines_of := by
  rintro ds n Qd Qe ⟨t, rfl, hl, q⟩
  unfold w_lines_of
  show wSeq _ _ _ _ ⟨[.val (.str t), .unb, .unb], n⟩
  refine s_skip (tv_not (tv_T (ev_isi (p := isT "str") (d := .str t) (ev_var rfl) rfl))) ?_
  have hp := split_parts (x := t) (y := "\n") (by decide)
  generalize hT : Txt.split t "\n" = T at hp
  have hTn : T ≠ [] := hT ▸ split_ne
  refine s_retMkLc ?_
  refine iv_enum (av_1 (ev_split (ev_var rfl) ev_c (by decide +kernel) (by omega))) (.inl rfl) _ ?_
  rw [hT]
  refine lc_inv (fun l acc s => ∃ (ls : List Addr) (j : Nat), acc = ls.map .loc ∧ ls.length = j ∧ j ≤ T.length ∧ l = enumD j (txs (T.drop j)) ∧ s.env = [.val (.str t), .unb, .unb] ∧ s.n.n = n.n ∧ ls.Nodup ∧ ∀ (i : Nat) (b : Addr) (x : Str), ls[i]? = some b → T[i]? = some x → s.n.st b = some (lineS L i (Txt.split x " ") 0)) (fun d ds acc s I R R2 k1 k2 => ?_) (fun acc s I => ?_) _ _ _ ?_ ⟨[], 0, rfl, rfl, Nat.zero_le _, by simp, rfl, rfl, List.nodup_nil, fun i b x h => by simp at h⟩
  · obtain ⟨ls, j, rfl, hj, hle, hl, he, hn, hd, hst⟩ := I
    obtain ⟨env, m⟩ := s
    cases he
    cases hdr : T.drop j with
    | nil => rw [hdr] at hl; cases hl
    | cons x T' =>
      rw [hdr] at hl
      cases hl
      have hlt : j < T.length := by
        have := congrArg List.length hdr
        simp at this; omega
      have hx : T[j]? = some x := by
        have := congrArg (·[0]?) hdr
        simpa using this
      have hT' : T' = T.drop (j + 1) := by
        have := congrArg List.tail hdr
        simpa using this.symm
      refine ⟨.int (j : Nat), .str x, rfl, ?_⟩
      show ∀ y, m.st y = none → sp_linit L [.loc y, .int (j : Nat), .str x] ⟨m.n, updS m.st y (.ins L [] [])⟩ _ _
      intro y hy
      have hyl : y ∉ ls := fun hm => by
        obtain ⟨i, hi, e⟩ := List.getElem_of_mem hm
        have := hst i y T[i] (by rw [List.getElem?_eq_getElem hi, e]) (List.getElem?_eq_getElem (by omega))
        rw [hy] at this; cases this
      refine ⟨y, j, x, rfl, updS_same, by have := hp.2 x (List.mem_of_getElem? hx); omega, rfl, ?_⟩
      refine k1 _ _ ⟨ls ++ [y], j + 1, by simp, by simp [hj], by omega, by rw [hT']; rfl, rfl, hn, ?_, fun i b z hb hz => ?_⟩
      · rw [List.nodup_append]
        refine ⟨hd, by simp, fun u hu v hv => ?_⟩
        rw [List.mem_singleton.mp hv]
        rintro rfl
        exact hyl hu
      · show updS (updS m.st y _) y _ b = _
        rw [updS_upd]
        by_cases hi : i < ls.length
        · rw [List.getElem?_append_left hi] at hb
          have hby : b ≠ y := fun e => hyl (e ▸ List.mem_of_getElem? hb)
          rw [updS_ne hby]
          exact hst i b z hb hz
        · rw [List.getElem?_append_right (by omega)] at hb
          have hi0 : i - ls.length = 0 := by
            have := (List.getElem?_eq_some_iff.mp hb).1
            simp at this; omega
          rw [hi0] at hb
          cases hb
          have : i = j := by omega
          subst this
          rw [hx] at hz; cases hz
          exact updS_same
  · obtain ⟨ls, j, rfl, hj, hle, hl, he, hn, hd, hst⟩ := I
    obtain ⟨env, m⟩ := s
    cases he
    have hjT : j = T.length := by
      cases hdr : T.drop j with
      | nil => have := congrArg List.length hdr; simp at this; omega
      | cons x T' => rw [hdr] at hl; cases hl
    show ∀ y, m.st y = none → sp_lsinit LS [.loc y, .lst (ls.map .loc), .int 0] ⟨m.n, updS m.st y (.ins LS [] [])⟩ _ _
    intro y hy
    have hyl : y ∉ ls := fun hm => by
      obtain ⟨i, hi, e⟩ := List.getElem_of_mem hm
      have := hst i y T[i] (by rw [List.getElem?_eq_getElem hi, e]) (List.getElem?_eq_getElem (by omega))
      rw [hy] at this; cases this
    refine ⟨y, ls, rfl, updS_same, rfl, ?_⟩
    obtain ⟨mn, mst⟩ := m
    have hn2 : mn = n.n := hn
    subst hn2
    refine q y ls _ ⟨updS_same, by unfold wordsOf; rw [hT]; simp; omega, Nat.zero_le _, fun i b ws _ hb hw => ?_, hd, hyl, ?_⟩
    · have hby : b ≠ y := fun e => hyl (e ▸ List.mem_of_getElem? hb)
      have e1 : (putS ⟨n.n, updS mst y (.ins LS [] [])⟩ y (linesS LS ls 0)).st b = mst b := by
        show updS (updS mst y _) y _ b = _
        rw [updS_ne hby, updS_ne hby]
      refine e1.trans ?_
      unfold wordsOf at hw
      rw [hT, List.getElem?_map] at hw
      cases hz : T[i]? with
      | none => rw [hz] at hw; cases hw
      | some z => rw [hz] at hw; cases hw; exact hst i b z hb hz
    · unfold wordsOf
      rw [hT]
      refine ⟨by simp; omega, fun ws hw => ?_⟩
      obtain ⟨z, hz, rfl⟩ := List.mem_map.mp hw
      have h2 := split_parts (x := z) (y := " ") (by decide)
      have h3 := hp.2 z hz
      exact ⟨split_ne, by omega, fun w hw => by have := h2.2 w hw; omega⟩
  · have : ∀ (l : List D) (k : Nat), (enumD k l).length = l.length := fun l => by
      induction l with
      | nil => intro k; rfl
      | cons d l ih => intro k; rw [enum_cons, List.length_cons, ih]; rfl
    rw [this, txs_len]
    show 0 + _ ≤ _
    omega
end
end K78
set_option Elab.async false
set_option linter.all false
set_option maxRecDepth 100000
set_option maxHeartbeats 4000000
namespace K78
open PySem L2 Evl DL
section
variable {Qe : WQ} {s s1 : S} {i : Nat} {ds : List D} {d : D} {wa wb : WE}
theorem ev_lenO (h : lstAt s i = some ds) : EV (wLenO i) Qe s (.int (ds.length : Nat)) s := fun Q q => ⟨ds, h, q⟩
theorem ev_ixO {k : Nat} {z : D} (h : lstAt s i = some ds) (hz : ds[k]? = some z) (e : EV wb Qe s (.int (k : Nat)) s) : EV (wIxO i wb) Qe s z s := fun Q q => ⟨by rw [h]; rfl, e _ ⟨ds, _, z, h, rfl, at_nat hz, q⟩⟩
theorem ev_app (h : (lstAt s i).isSome = true) (e : EV wa Qe s d s1) (he : s1.env[i]? = some (.own ds)) (hl : ds.length < 100000) : EV (wAppend i wa) Qe s .non ⟨s1.env.set i (.own (ds ++ [d])), s1.n⟩ := fun Q q => ⟨h, e _ ⟨ds, he, hl, q⟩⟩
theorem ev_varO (h : s.env[i]? = some (.own ds)) : EV (wVar i) Qe s (.lst ds) ⟨s.env.set i (.val (.lst ds)), s.n⟩ := fun Q q => by unfold wVar; rw [h]; exact q
end
theorem updS_id {st : Sto} {a : Addr} {o : SO} (h : st a = some o) : updS st a o = st := by
  funext b; unfold updS; split
  · rename_i e; rw [e, h]
  · rfl
theorem eraS_upd {st : Sto} {a : Addr} {o : SO} (h : st a = none) : eraS (updS st a o) a = st := by
  funext b; unfold eraS updS; split
  · rename_i e; rw [e, h]
  · rfl
/-! ### numbers of a line -/
theorem whole_le {w : Str} {v : Nat} (h : wholeW w = some v) : v ≤ 1000000 := by
  unfold wholeW at h
  split at h
  · cases h
  · split at h
    · cases h
    · split at h
      · rename_i h2; cases h; exact h2
      · cases h
theorem numsF_ok {ws : List Str} {least most : Nat} : ∀ {k at' : Nat} {found f : List Nat} {j : Nat}, numsF ws least most k at' found = .ok (f, j) → found.length ≤ most → least ≤ most → (∀ v ∈ found, v ≤ 1000000) → least ≤ f.length ∧ f.length ≤ most ∧ (∀ v ∈ f, v ≤ 1000000) ∧ (f.any fun x => x != 0) = true
  | 0, _, _, _, _, h, _, _, _ => by cases h
  | k + 1, at', found, f, j, h, hl, hm, hv => by
    rw [numsF] at h
    split at h
    · rename_i hc
      split at h
      · cases h
      · split at h
        · cases h
        · rename_i v hw
          refine numsF_ok h ?_ hm fun x hx => ?_
          · rw [List.length_append, List.length_singleton]; omega
          · rcases List.mem_append.mp hx with hx | hx
            · exact hv x hx
            · rw [List.mem_singleton.mp hx]; exact whole_le hw
    · rename_i hc
      split at h
      · rename_i ha
        cases h
        exact ⟨by omega, hl, hv, ha⟩
      · cases h
theorem nums_ok {ws : List Str} {least most : Nat} {f : List Nat} {j : Nat} (h : nums ws least most = .ok (f, j)) (hm : least ≤ most) : least ≤ f.length ∧ f.length ≤ most ∧ (∀ v ∈ f, v ≤ 1000000) ∧ (f.any fun x => x != 0) = true := numsF_ok h (Nat.zero_le _) hm (fun v hv => by cases hv)
theorem any_nat : ∀ (l : List Nat), ((l.map fun i : Nat => (i : Int)).any fun x => x != 0) = l.any fun x => x != 0
  | [] => rfl
  | x :: l => by
    rw [List.map_cons, List.any_cons, List.any_cons, any_nat l]
    congr 1
    cases x with
    | zero => rfl
    | succ x => show (((x + 1 : Nat) : Int) != 0) = (x + 1 != 0); simp; omega
theorem rowL_items (f : List Nat) : items (rowL f) = some ((f.map fun i : Nat => (i : Int)).map D.int) := by
  unfold rowL items; rw [List.map_map]; rfl
theorem rowL_len (f : List Nat) : (f.map fun i => D.int (i : Nat)).length = f.length := by simp
section
variable {L LS F CF CT : Addr}
theorem law_numbers_from : Law (sp_numbers_from L CT) (w_numbers_from CT L) n_numbers_from := by
  rintro ds n Qd Qe ⟨a, num, ws, least, most, rfl, hs, hsh, h1, hl1, hlm, hm6, q1, q2⟩
  unfold w_numbers_from
  show wSeq _ _ _ _ ⟨[.val (.loc a), .val (.int (least : Nat)), .val (.int (most : Nat)), .unb], n⟩
  refine s_setF (fv_lst av_nil (by decide)) ?_
  show wSeq _ _ _ _ ⟨[.val (.loc a), .val (.int (least : Nat)), .val (.int (most : Nat)), .own []], n⟩
  refine (show wWhile _ _ Qe _ _ from ⟨fun m s => ∃ (at' : Nat) (found : List Nat), m + at' = ws.length + 3 ∧ 1 ≤ at' ∧ at' ≤ ws.length ∧ found.length ≤ most ∧ numsF ws least most m at' found = nums ws least most ∧
    s = ⟨[.val (.loc a), .val (.int (least : Nat)), .val (.int (most : Nat)), .own (found.map fun i => .int (i : Nat))], ⟨n.n, updS n.st a (lineS L num ws at')⟩⟩, ⟨ws.length + 2, 1, [], by omega, by omega, by omega, Nat.zero_le _, rfl, by rw [updS_id hs]; rfl⟩, ?_⟩)
  rintro m s ⟨at', found, hm, hat1, hat, hf, hn, rfl⟩
  obtain ⟨m, rfl⟩ : ∃ m', m = m' + 1 := ⟨m - 1, by omega⟩
  have lo : ∀ {Qe : WQ}, EV (wLenO 3) Qe ⟨[.val (.loc a), .val (.int (least : Nat)), .val (.int (most : Nat)), .own (found.map fun i => .int (i : Nat))], ⟨n.n, updS n.st a (lineS L num ws at')⟩⟩ (.int (found.length : Nat)) ⟨[.val (.loc a), .val (.int (least : Nat)), .val (.int (most : Nat)), .own (found.map fun i => .int (i : Nat))], ⟨n.n, updS n.st a (lineS L num ws at')⟩⟩ := by
    intro Qe
    have := ev_lenO (Qe := Qe) (s := ⟨[.val (.loc a), .val (.int (least : Nat)), .val (.int (most : Nat)), .own (found.map fun i => .int (i : Nat))], ⟨n.n, updS n.st a (lineS L num ws at')⟩⟩) (i := 3) rfl
    rw [rowL_len] at this
    exact this
  have ah : ∀ {Qe : WQ}, EV (wMeth L "ahead" (sp_ahead L) (wVar 0) wNil) Qe ⟨[.val (.loc a), .val (.int (least : Nat)), .val (.int (most : Nat)), .own (found.map fun i => .int (i : Nat))], ⟨n.n, updS n.st a (lineS L num ws at')⟩⟩ (optS ws[at']?) ⟨[.val (.loc a), .val (.int (least : Nat)), .val (.int (most : Nat)), .own (found.map fun i => .int (i : Nat))], ⟨n.n, updS n.st a (lineS L num ws at')⟩⟩ := ev_meth (ev_var rfl) updS_same (by decide +kernel) av_nil (ahead_ev updS_same (by have := hsh.1; omega))
  have an : nonB (optS ws[at']?) = !decide (at' < ws.length) := by
    by_cases h : at' < ws.length
    · rw [List.getElem?_eq_getElem h, decide_eq_true h]; rfl
    · rw [List.getElem?_eq_none (by omega), decide_eq_false h]; rfl
  have ht := tv_or (tv_T (ev_op (lo (Qe := Qe)) (ev_var (i := 1) rfl) f_lt)) fun _ => tv_and (tv_T (ev_notN ah)) fun _ => tv_T (ev_op lo (ev_var (i := 2) rfl) f_lt)
  rw [an, Bool.not_not] at ht
  refine ht _ ?_
  rw [numsF] at hn
  by_cases hc : found.length < least ∨ (at' < ws.length ∧ found.length < most)
  · have hb : (decide ((found.length : Int) < (least : Int)) || (decide (at' < ws.length) && decide ((found.length : Int) < (most : Int)))) = true := by
      rw [Bool.or_eq_true, Bool.and_eq_true, decide_eq_true_iff, decide_eq_true_iff, decide_eq_true_iff]; omega
    rw [hb, if_pos rfl]
    rw [if_pos hc] at hn
    have bad : ws[at']? = none ∨ (∃ w, ws[at']? = some w ∧ wholeW w = none) → badT Qe CT n num at' := fun h => by
      refine q2 at' ?_
      rw [← hn]
      rcases h with h | ⟨w, h, hw⟩
      · rw [h]
      · simp only [h, hw]
    have nv : (∀ w, ws[at']? = some w → wholeW w = none) → badT Qe CT n num at' := fun h => by
      cases hw : ws[at']? with
      | none => exact bad (.inl hw)
      | some w => exact bad (.inr ⟨w, hw, h w hw⟩)
    by_cases hg : ∃ w v, ws[at']? = some w ∧ wholeW w = some v
    · obtain ⟨w, v, hw, hv⟩ := hg
      have hlt : at' < ws.length := (List.getElem?_eq_some_iff.mp hw).1
      have tk : EV (wMeth L "take_whole" (sp_take_whole L CT) (wVar 0) (wCons (wC (.int 1000000)) wNil)) Qe ⟨[.val (.loc a), .val (.int (least : Nat)), .val (.int (most : Nat)), .own (found.map fun i => .int (i : Nat))], ⟨n.n, updS n.st a (lineS L num ws at')⟩⟩ (.int (v : Nat)) ⟨[.val (.loc a), .val (.int (least : Nat)), .val (.int (most : Nat)), .own (found.map fun i => .int (i : Nat))], ⟨n.n, updS (updS n.st a (lineS L num ws at')) a (lineS L num ws (at' + 1))⟩⟩ :=
        ev_meth (ev_var rfl) updS_same (by decide +kernel) (av_1 ev_c) fun Q q => ⟨a, num, ws, at', rfl, updS_same, hsh, fun w' v' h h' => by rw [hw] at h; cases h; rw [hv] at h'; cases h'; exact q, fun h => by have := h w hw; rw [hv] at this; cases this⟩
      refine s_drop1 (ev_app rfl tk rfl (by rw [rowL_len]; omega)) ⟨m, by omega, at' + 1, found ++ [v], by omega, by omega, by omega, ?_, ?_, ?_⟩
      · rw [List.length_append, List.length_singleton]; omega
      · rw [← hn, hw]; simp only [hv]
      · show (⟨_, _⟩ : S) = _
        rw [updS_upd, List.map_append]; rfl
    · have hg2 : ∀ w, ws[at']? = some w → wholeW w = none := fun w hw => by
        cases hv : wholeW w with
        | none => rfl
        | some v => exact (hg ⟨w, v, hw, hv⟩).elim
      refine (show wAppend _ _ Qe _ _ from ⟨rfl, ?_⟩)
      exact nv_meth (ev_var rfl) updS_same (by decide +kernel) (av_1 ev_c) (fun Q => ⟨a, num, ws, at', rfl, updS_same, hsh, fun w v h h' => (hg ⟨w, v, h, h'⟩).elim, fun _ st => nv hg2 st⟩) _
  · have hb : (decide ((found.length : Int) < (least : Int)) || (decide (at' < ws.length) && decide ((found.length : Int) < (most : Int)))) = false := by
      rw [← Bool.not_eq_true, Bool.or_eq_true, Bool.and_eq_true, decide_eq_true_iff, decide_eq_true_iff, decide_eq_true_iff]; omega
    rw [hb, if_neg Bool.false_ne_true]
    rw [if_neg hc] at hn
    have hv : ∀ {Qe : WQ}, EV (wCall sp_is_heavy (wCons (wVar 3) wNil)) Qe ⟨[.val (.loc a), .val (.int (least : Nat)), .val (.int (most : Nat)), .own (found.map fun i => .int (i : Nat))], ⟨n.n, updS n.st a (lineS L num ws at')⟩⟩ (.bl (found.any fun x => x != 0)) ⟨[.val (.loc a), .val (.int (least : Nat)), .val (.int (most : Nat)), .val (rowL found)], ⟨n.n, updS n.st a (lineS L num ws at')⟩⟩ := fun {Qe} =>
      DL.ev_call (av_1 (ev_varO rfl)) fun Q q => ⟨rowL found, found.map fun i : Nat => (i : Int), rfl, rowL_items found, by simp; omega, by rw [any_nat]; exact q⟩
    cases ha : found.any fun x => x != 0 with
    | true =>
      rw [ha] at hv hn
      rw [if_pos rfl] at hn
      exact s_skip (tv_not (tv_T hv)) (s_ret (ev_var rfl) (q1 _ _ hn.symm))
    | false =>
      rw [ha] at hv hn
      rw [if_neg Bool.false_ne_true] at hn
      obtain ⟨p, hp⟩ : ∃ p, at' = p + 1 := by
        cases at' with
        | zero => omega
        | succ p => exact ⟨p, rfl⟩
      subst hp
      refine s_ifT (tv_not (tv_T hv)) (s_dropN (nv_meth (ev_var rfl) updS_same (by decide +kernel) av_nil fun Q => ⟨a, num, ws, p, rfl, updS_same, fun st => ?_⟩))
      exact q2 _ hn.symm st
end
end K78
set_option Elab.async false
set_option linter.all false
set_option maxRecDepth 100000
set_option maxHeartbeats 4000000
namespace K78
open PySem L2 Evl DL
/-! ### rows that are read -/
structure RowOk (w : Nat) (r : List Nat) : Prop where
  len : r.length = w
  le : ∀ v ∈ r, v ≤ 1000000
  hv : (r.any fun x => x != 0) = true
theorem fix_row (r : List Nat) : fixD (rowL r) = rowN r := by
  have : ∀ r : List Nat, fixDs (r.map fun i => D.int (i : Nat)) = r.map fun i => D.int (i : Nat) := fun r => by
    induction r with
    | nil => rfl
    | cons x r ih => rw [List.map_cons, fixDs, fixD, ih]
  unfold rowL rowN
  rw [fixD, this]
theorem fix_rows : ∀ cs : List (List Nat), fixDs (cs.map rowL) = cs.map rowN
  | [] => rfl
  | r :: cs => by rw [List.map_cons, fixDs, fix_row, fix_rows cs]; rfl
theorem plain_ints : ∀ r : List Nat, plains (r.map fun i => D.int (i : Nat)) = true
  | [] => rfl
  | x :: r => by rw [List.map_cons, plains, plain, plain_ints r]; rfl
theorem plain_rows : ∀ cs : List (List Nat), plains (cs.map rowL) = true
  | [] => rfl
  | r :: cs => by rw [List.map_cons, plains, plain_rows cs]; unfold rowL; rw [plain, plain_ints]; rfl
theorem nd_ints : ∀ r : List Nat, nds (r.map fun i => D.int (i : Nat)) = r.length
  | [] => rfl
  | x :: r => by rw [List.map_cons, nds, nd, nd_ints r, List.length_cons]; omega
theorem nd_rows {w : Nat} : ∀ {cs : List (List Nat)}, (∀ r ∈ cs, RowOk w r) → nds (cs.map rowL) = cs.length * (1 + w)
  | [], _ => by simp [nds]
  | r :: cs, h => by
    rw [List.map_cons, nds, nd_rows (fun x hx => h x (List.mem_cons_of_mem _ hx))]
    unfold rowL
    rw [nd, nd_ints, (h r (List.mem_cons_self ..)).len, List.length_cons, Nat.add_mul]; omega
theorem within_nat {v : Nat} (h : v ≤ 1000000) : within 0 (some 1000000) (.int (v : Nat)) = true := by
  unfold within
  simp only [Bool.and_eq_true, decide_eq_true_eq]; omega
theorem numsB_row {w : Nat} {r : List Nat} (h : RowOk w r) : numsB w (some 1000000) (rowL r) = true := by
  unfold numsB rowL items
  simp only [Bool.and_eq_true, decide_eq_true_eq, List.length_map, List.all_map, List.all_eq_true]
  exact ⟨h.len, fun v hv => within_nat (h.le v hv)⟩
theorem heavy_row {w : Nat} {r : List Nat} (h : RowOk w r) : heavyD (rowL r) = true := by
  unfold heavyD; rw [rowL_items]; show ((_ : List D).any fun x => !noughtD x) = true
  rw [heavy_ints, any_nat]; exact h.hv
theorem corners_cL {w : Nat} {cs : List (List Nat)} (hne : cs ≠ []) (h6 : cs.length ≤ 6) (h : ∀ r ∈ cs, RowOk w r) (h1 : 1 ≤ w) (hw : w ≤ 6) : cornersD (cL cs) = cN cs := by
  cases cs with
  | nil => exact absurd rfl hne
  | cons r cs =>
    have e : lenD (rowL r) = w := by
      unfold lenD; rw [rowL_items]; simp [(h r (List.mem_cons_self ..)).len]
    have a1 : ∀ x ∈ (r :: cs).map rowL, numsB w (some 1000000) x = true := fun x hx => by
      obtain ⟨y, hy, rfl⟩ := List.mem_map.mp hx
      exact numsB_row (h y hy)
    have a2 : ∀ x ∈ (r :: cs).map rowL, heavyD x = true := fun x hx => by
      obtain ⟨y, hy, rfl⟩ := List.mem_map.mp hx
      exact heavy_row (h y hy)
    have a1' := List.all_eq_true.mpr a1
    have a2' := List.all_eq_true.mpr a2
    rw [List.map_cons] at a1' a2'
    have h6' : (rowL r :: cs.map rowL).length ≤ 6 := by simpa using h6
    unfold cornersD cL items
    simp only [List.map_cons]
    rw [e, a1', a2', decide_eq_true h6', decide_eq_true h1, decide_eq_true hw]
    rw [if_neg (by show ¬ (true && true) = false; decide), if_neg (by decide), if_pos rfl]
    have := fix_rows (r :: cs)
    rw [List.map_cons] at this
    rw [fixD, this]; rfl
theorem cN_ne {cs : List (List Nat)} : cN cs ≠ .non := nofun
theorem tupLen_cN {cs : List (List Nat)} (hne : cs ≠ []) : tupLen (cN cs) = (cs.headD []).length := by
  cases cs with
  | nil => exact absurd rfl hne
  | cons r cs => show (r.map fun i => D.int (i : Nat)).length = r.length; simp
theorem cornerF_ok {ws : List Str} {least most : Nat} {f : List Nat} (h : cornerF ws least most = .ok f) (hm : least ≤ most) : (∃ j, nums ws least most = .ok (f, j) ∧ ¬ j < ws.length) ∧ least ≤ f.length ∧ f.length ≤ most ∧ RowOk f.length f := by
  unfold cornerF at h
  split at h
  · cases h
  · rename_i f' j hn
    split at h
    · cases h
    · rename_i hj
      cases h
      obtain ⟨h1, h2, h3, h4⟩ := nums_ok hn hm
      exact ⟨⟨j, hn, hj⟩, h1, h2, ⟨rfl, h3, h4⟩⟩
theorem cornerF_err {ws : List Str} {least most j : Nat} (h : cornerF ws least most = .error j) : nums ws least most = .error j ∨ ∃ f, nums ws least most = .ok (f, j) ∧ j < ws.length := by
  unfold cornerF at h
  split at h
  · rename_i hn; cases h; exact .inl hn
  · rename_i f' j' hn
    split at h
    · rename_i hj; cases h; exact .inr ⟨_, hn, hj⟩
    · cases h
theorem s_asgC {sp : DSp} {wr : WA} {ds : List D} {s1 : S} {i : Nat} {W : WS} {Qe : WQ} {De : DEnds} {s : S} (h : AV wr Qe s ds s1) (hs : sp ds s1.n (fun d n' => W Qe De ⟨s1.env.set i (.val d), n'⟩) Qe.only) : wSeq (wAsg (wCall sp wr) (wgName i)) W Qe De s := h _ hs
theorem s_asgM {sp : DSp} {C a : Addr} {m : Str} {wa : WE} {wr : WA} {ns : List Str} {ds es : List D} {s1 s2 : S} {i : Nat} {W : WS} {Qe : WQ} {De : DEnds} {s : S} (h : EV wa Qe s (.loc a) s1) (hs : s1.n.st a = some (.ins C ns ds)) (hm : m ∉ ns) (k : AV wr Qe s1 es s2) (hp : sp (.loc a :: es) s2.n (fun d n' => W Qe De ⟨s2.env.set i (.val d), n'⟩) Qe.only) : wSeq (wAsg (wMeth C m sp wa wr) (wgName i)) W Qe De s := h _ ⟨⟨ns, ds, hs, hm⟩, k _ hp⟩
theorem s_retFM {C : Addr} {sp : DSp} {dds ds : List D} {wr : WA} {s1 : S} {Qe : WQ} {De : DEnds} {s : S} (h : AV wr Qe s ds s1) (hs : ∀ x, s1.n.st x = none → sp (.loc x :: (ds ++ dds)) ⟨s1.n.n, updS s1.n.st x (.ins C [] [])⟩ (fun d n' => d = .non ∧ ∃ a C' ns ds', (D.loc x) = .loc a ∧ n'.st a = some (.ins C' ns ds') ∧ De.rt (.obj C' ns ds') ⟨n'.n, eraS n'.st a⟩) Qe.only) : wRet (wFrzO (wMakeD C sp dds wr)) Qe De s := h _ hs
theorem s_appN {wa : WE} {i : Nat} {W : WS} {Qe : WQ} {De : DEnds} {s : S} (hi : (lstAt s i).isSome = true) (h : NV wa Qe s) : wSeq (wDrop (wAppend i wa)) W Qe De s := ⟨hi, h _⟩
theorem s_setFN {wa : WE} {wr : WA} {i : Nat} {W : WS} {Qe : WQ} {De : DEnds} {s : S} (h : NV wa Qe s) : wSeq (wSetF i (wLst (wCons wa wr))) W Qe De s := h _
theorem eqD_non_str (x : Str) : EqD .non (.str x) false := by
  refine .inl ?_
  simp only [eqS, D.sc, scal, if_true, Option.some.injEq]
  try rfl
  try decide
section
variable {L LS F CF CT : Addr} {Qe : WQ} {De : DEnds} {s : S} {a b : Addr} {ls : List Addr} {wss : List (List Str)} {k : Nat} {W : WS} {st : Sto} {ws : List Str} {o : SO}
theorem Ready.upd (r : Ready L LS st a ls wss (k + 1)) (h : ls[k]? = some b) : Ready L LS (updS st b o) a ls wss (k + 1) := by
  have hne : a ≠ b := fun e => r.na (e ▸ List.mem_of_getElem? h)
  refine ⟨by rw [updS_ne hne]; exact r.ob, r.len, r.le, fun i c vs hi hc hv => ?_, r.nd, r.na, r.sh⟩
  have hcb : c ≠ b := fun e => by
    subst e
    have := (List.getElem?_inj (List.getElem?_eq_some_iff.mp h).1 r.nd).mp (h.trans hc.symm)
    omega
  rw [updS_ne hcb]
  exact r.ln i c vs hi hc hv
theorem s_next (r : Ready L LS s.n.st a ls wss k) (he : s.env[0]? = some (.val (.loc a))) (bad : (wss[k]?.bind fun ws => ws[0]?) ≠ some ("corner" : Str) → badT Qe CT s.n k 0)
    (good : ∀ b ws st, wss[k]? = some ws → ls[k]? = some b → ws[0]? = some ("corner" : Str) → Ready L LS st a ls wss (k + 1) → st b = some (lineS L k ws 1) → W Qe De ⟨s.env.set 1 (.val (.loc b)), ⟨s.n.n, st⟩⟩) :
    wSeq (wAsg (wMeth LS "next" (sp_next L LS CT) (wVar 0) (wCons (wC (.str "corner")) wNil)) (wgName 1)) W Qe De s := by
  refine s_asgM (ev_var he) r.ob (by decide +kernel) (av_1 ev_c) ?_
  show sp_next L LS CT [.loc a, .str "corner"] s.n _ _
  refine ⟨a, ls, wss, k, "corner", rfl, r, fun hn => ?_, fun ws b hw hb => ⟨fun h0 => ?_, fun h0 st r' hb' => good b ws st hw hb h0 r' hb'⟩⟩
  · have : k = wss.length := by
      have := r.le
      have := List.getElem?_eq_none_iff.mp hn
      omega
    rw [← this]
    exact bad (by rw [hn]; nofun)
  · exact bad (by rw [hw]; exact h0)
theorem ev_head (r : Ready L LS s.n.st a ls wss k) (he : s.env[0]? = some (.val (.loc a))) : EV (wMeth LS "head" (sp_head L LS) (wVar 0) wNil) Qe s (optS (wss[k]?.bind fun ws => ws[0]?)) s :=
  ev_meth (n' := s.n) (ev_var he) r.ob (by decide +kernel) av_nil fun Q q => ⟨a, ls, wss, k, rfl, r, q⟩
theorem ev_nums {wr : WA} {least most : Nat} {f : List Nat} {j : Nat} (h : AV wr Qe s [.loc b, .int (least : Nat), .int (most : Nat)] s) (hb : s.n.st b = some (lineS L k ws 1)) (hs : shortT ws) (h1 : 1 ≤ ws.length) (hl : 1 ≤ least) (hm : least ≤ most) (h6 : most ≤ 6) (e : nums ws least most = .ok (f, j)) : EV (wCall (sp_numbers_from L CT) wr) Qe s (rowL f) ⟨s.env, putS s.n b (lineS L k ws j)⟩ :=
  DL.ev_call h fun Q q => ⟨b, k, ws, least, most, rfl, hb, hs, h1, hl, hm, h6, fun f' j' e' => (by rw [e] at e'; cases e'; exact q), fun j' e' => by rw [e] at e'; cases e'⟩
theorem nv_nums {wr : WA} {least most : Nat} {j : Nat} (h : AV wr Qe s [.loc b, .int (least : Nat), .int (most : Nat)] s) (hb : s.n.st b = some (lineS L k ws 1)) (hs : shortT ws) (h1 : 1 ≤ ws.length) (hl : 1 ≤ least) (hm : least ≤ most) (h6 : most ≤ 6) (e : nums ws least most = .error j) (q : badT Qe CT s.n k j) : NV (wCall (sp_numbers_from L CT) wr) Qe s :=
  nv_call h fun Q => ⟨b, k, ws, least, most, rfl, hb, hs, h1, hl, hm, h6, fun f' j' e' => (by rw [e] at e'; cases e'), fun j' e' => by rw [e] at e'; cases e'; exact q⟩
theorem ev_end {j : Nat} (he : s.env[1]? = some (.val (.loc b))) (hb : s.n.st b = some (lineS L k ws j)) (hs : shortT ws) (h : ¬ j < ws.length) : EV (wMeth L "end" (sp_lend L CT) (wVar 1) wNil) Qe s .non s :=
  ev_meth (n' := s.n) (ev_var he) hb (by decide +kernel) av_nil fun Q q => ⟨b, k, ws, j, rfl, hb, by have := hs.1; omega, fun _ => q, fun h' => absurd h' h⟩
theorem nv_end {j : Nat} (he : s.env[1]? = some (.val (.loc b))) (hb : s.n.st b = some (lineS L k ws j)) (hs : shortT ws) (h : j < ws.length) (q : badT Qe CT s.n k j) : NV (wMeth L "end" (sp_lend L CT) (wVar 1) wNil) Qe s :=
  nv_meth (ev_var he) hb (by decide +kernel) av_nil fun Q => ⟨b, k, ws, j, rfl, hb, by have := hs.1; omega, fun h' => absurd h h', fun _ => q⟩
theorem law_field_from : Law (sp_field_from L LS F CT) (w_field_from F CF CT L LS) n_field_from := by
  rintro ds n Qd Qe ⟨a, ls, wss, rfl, r, q1, q2⟩
  unfold w_field_from
  show wSeq _ _ _ _ ⟨[.val (.loc a), .unb, .unb], n⟩
  refine s_next r rfl (fun h => q2 0 0 ?_) fun b ws st hw hb h0 r' hb' => ?_
  · cases wss with
    | nil => rfl
    | cons ws rest =>
      exact if_neg h
  show wSeq _ _ _ _ ⟨[.val (.loc a), .val (.loc b), .unb], ⟨n.n, st⟩⟩
  obtain ⟨rest, rfl⟩ : ∃ rest, wss = ws :: rest := by
    cases wss with
    | nil => cases hw
    | cons x rest => cases hw; exact ⟨rest, rfl⟩
  have hsh := r.sh.2 ws (List.mem_cons_self ..)
  have hl1 : 1 ≤ ws.length := by
    cases ws with
    | nil => exact absurd rfl hsh.1
    | cons x y => simp
  have av : ∀ {Qe : WQ}, AV (wCons (wVar 1) (wCons (wC (.int 1)) (wCons (wC (.int 6)) wNil))) Qe ⟨[.val (.loc a), .val (.loc b), .unb], ⟨n.n, st⟩⟩ [.loc b, .int ((1 : Nat) : Int), .int ((6 : Nat) : Int)] ⟨[.val (.loc a), .val (.loc b), .unb], ⟨n.n, st⟩⟩ := av_cons (ev_var rfl) (av_cons ev_c (av_1 ev_c))
  have hF : fieldF (ws :: rest) = match cornerF ws 1 6 with
      | .error j => .error (0, j)
      | .ok f => fieldL (ws :: rest) (ws :: rest).length 1 [f] := by
    refine (if_pos h0).trans ?_
    rfl
  cases hc : cornerF ws 1 6 with
  | error j =>
    rw [hc] at hF
    rcases cornerF_err hc with he | ⟨f, he, hj⟩
    · exact s_setFN (nv_nums av hb' hsh.2 hl1 (by omega) (by omega) (by omega) he (q2 0 j hF))
    · refine s_setF (fv_lst (av_1 (ev_nums av hb' hsh.2 hl1 (by omega) (by omega) (by omega) he)) (by show 1 ≤ 100000; decide)) ?_
      refine DL.s_dropNS (nv_end rfl updS_same hsh.2 hj (q2 0 j hF))
  | ok f =>
    rw [hc] at hF
    obtain ⟨⟨j, he, hj⟩, hf1, hf6, hok⟩ := cornerF_ok hc (by omega)
    refine s_setF (fv_lst (av_1 (ev_nums av hb' hsh.2 hl1 (by omega) (by omega) (by omega) he)) (by show 1 ≤ 100000; decide)) ?_
    refine DL.s_drop (ev_end rfl updS_same hsh.2 hj) ?_
    show wSeq _ _ _ _ ⟨[.val (.loc a), .val (.loc b), .own [rowL f]], ⟨n.n, updS st b (lineS L 0 ws j)⟩⟩
    generalize ws :: rest = wss at hF r r' q1 q2
    refine (show wWhile _ _ Qe _ _ from ⟨fun m s => ∃ (k : Nat) (cs : List (List Nat)) (st : Sto) (c : Cell), m + k = wss.length + 1 ∧ Ready L LS st a ls wss k ∧ fieldL wss m k cs = fieldF wss ∧ cs ≠ [] ∧ cs.length ≤ 6 ∧ (∀ x ∈ cs, RowOk f.length x) ∧
      s = ⟨[.val (.loc a), c, .own (cs.map rowL)], ⟨n.n, st⟩⟩, ⟨wss.length, 1, [f], _, _, rfl, r'.upd (o := lineS L 0 ws j) hb, hF.symm, by simp, by simp, fun x hx => by rw [List.mem_singleton.mp hx]; exact hok, rfl⟩, ?_⟩)
    rintro m s ⟨k, cs, st, c, hm, rk, hL, hne, h6, hrow, rfl⟩
    have hk := rk.le
    obtain ⟨m, rfl⟩ : ∃ m', m = m' + 1 := ⟨m - 1, by omega⟩
    have hhd : ∃ r0 tl, cs = r0 :: tl := by
      cases cs with
      | nil => exact absurd rfl hne
      | cons x y => exact ⟨x, y, rfl⟩
    obtain ⟨r0, tl, hcs⟩ := hhd
    have hr0 : (cs.headD []).length = f.length := by rw [hcs]; exact (hrow r0 (by rw [hcs]; exact List.mem_cons_self ..)).len
    have lo : ∀ {Qe : WQ} {c : Cell} {st : Sto}, EV (wLenO 2) Qe ⟨[.val (.loc a), c, .own (cs.map rowL)], ⟨n.n, st⟩⟩ (.int (cs.length : Nat)) ⟨[.val (.loc a), c, .own (cs.map rowL)], ⟨n.n, st⟩⟩ := by
      intro Qe c st
      have := ev_lenO (Qe := Qe) (s := ⟨[.val (.loc a), c, .own (cs.map rowL)], ⟨n.n, st⟩⟩) (i := 2) rfl
      rw [List.length_map] at this
      exact this
    generalize ho : (wss[k]?.bind fun ws => ws[0]?) = o at *
    have heq : ∀ {Qe : WQ}, EV (wOp (fEq false) (wMeth LS "head" (sp_head L LS) (wVar 0) wNil) (wC (.str "corner"))) Qe ⟨[.val (.loc a), c, .own (cs.map rowL)], ⟨n.n, st⟩⟩ (.bl (decide (o = some ("corner" : Str)))) ⟨[.val (.loc a), c, .own (cs.map rowL)], ⟨n.n, st⟩⟩ := by
      intro Qe
      refine ev_op (ev_head rk rfl) ev_c fun R rr => ?_
      rw [ho]
      cases o with
      | none => exact ⟨_, eqD_non_str _, rr⟩
      | some w =>
        refine f_eqS R ?_
        have : decide (w = ("corner" : Str)) = decide (some w = some ("corner" : Str)) := decide_eq_decide.mpr (by simp)
        rw [this]; exact rr
    refine (tv_and (tv_T heq) fun _ => tv_T (ev_op lo ev_c f_lt)) _ ?_
    rw [fieldL, ho] at hL
    by_cases hcond : o = some ("corner" : Str) ∧ cs.length < 6
    · have hb1 : (decide (o = some ("corner" : Str)) && decide ((cs.length : Int) < 6)) = true := by
        rw [Bool.and_eq_true, decide_eq_true_iff, decide_eq_true_iff]; exact ⟨hcond.1, by omega⟩
      rw [hb1, if_pos rfl]
      rw [if_pos hcond] at hL
      refine s_next rk rfl (fun h => absurd (ho.trans hcond.1) h) fun b ws st hw hb h0 r' hb' => ?_
      show wSeq _ _ _ _ ⟨[.val (.loc a), .val (.loc b), .own (cs.map rowL)], ⟨n.n, st⟩⟩
      have hsh := r.sh.2 ws (List.mem_of_getElem? hw)
      have hl1 : 1 ≤ ws.length := by
        cases ws with
        | nil => exact absurd rfl hsh.1
        | cons x y => simp
      have hlt : k < wss.length := (List.getElem?_eq_some_iff.mp hw).1
      rw [hr0, show wss.getD k [] = ws by rw [List.getD_eq_getElem?_getD, hw]; rfl] at hL
      have ix : ∀ {Qe : WQ}, EV (wCB gLen (wCons (wIxO 2 (wC (.int 0))) wNil)) Qe ⟨[.val (.loc a), .val (.loc b), .own (cs.map rowL)], ⟨n.n, st⟩⟩ (.int (f.length : Nat)) ⟨[.val (.loc a), .val (.loc b), .own (cs.map rowL)], ⟨n.n, st⟩⟩ := by
        intro Qe
        have := ev_cb (av_1 (ev_ixO (Qe := Qe) (s := ⟨[.val (.loc a), .val (.loc b), .own (cs.map rowL)], ⟨n.n, st⟩⟩) (i := 2) (k := 0) (z := rowL r0) rfl (by rw [hcs]; rfl) ev_c)) (g_len (.inl rfl))
        rw [rowL_len, (hrow r0 (by rw [hcs]; exact List.mem_cons_self ..)).len] at this
        exact this
      have av : ∀ {Qe : WQ}, AV (wCons (wVar 1) (wCons (wCB gLen (wCons (wIxO 2 (wC (.int 0))) wNil)) (wCons (wCB gLen (wCons (wIxO 2 (wC (.int 0))) wNil)) wNil))) Qe ⟨[.val (.loc a), .val (.loc b), .own (cs.map rowL)], ⟨n.n, st⟩⟩ [.loc b, .int (f.length : Nat), .int (f.length : Nat)] ⟨[.val (.loc a), .val (.loc b), .own (cs.map rowL)], ⟨n.n, st⟩⟩ := av_cons (ev_var rfl) (av_cons ix (av_1 ix))
      cases hc2 : cornerF ws f.length f.length with
      | error j =>
        rw [hc2] at hL
        rcases cornerF_err hc2 with he | ⟨g, he, hj⟩
        · exact s_appN rfl (nv_nums av hb' hsh.2 hl1 hf1 (Nat.le_refl _) hf6 he (q2 k j hL.symm))
        · refine DL.s_drop (ev_app rfl (ev_nums av hb' hsh.2 hl1 hf1 (Nat.le_refl _) hf6 he) rfl (by rw [List.length_map]; omega)) ?_
          exact s_dropN (nv_end rfl updS_same hsh.2 hj (q2 k j hL.symm))
      | ok g =>
        rw [hc2] at hL
        obtain ⟨⟨j, he, hj⟩, hg1, hg2, hok2⟩ := cornerF_ok hc2 (Nat.le_refl _)
        refine DL.s_drop (ev_app rfl (ev_nums av hb' hsh.2 hl1 hf1 (Nat.le_refl _) hf6 he) rfl (by rw [List.length_map]; omega)) ?_
        refine s_drop1 (ev_end rfl updS_same hsh.2 hj) ⟨m, by omega, k + 1, cs ++ [g], _, .val (.loc b), by omega, r'.upd (o := lineS L k ws j) hb, hL, by simp, by rw [List.length_append, List.length_singleton]; omega, fun x hx => ?_, ?_⟩
        · rcases List.mem_append.mp hx with hx | hx
          · exact hrow x hx
          · rw [List.mem_singleton.mp hx]
            have : g.length = f.length := by omega
            rw [← this]; exact hok2
        · show (⟨_, _⟩ : S) = _
          rw [List.map_append]; rfl
    · have hb1 : (decide (o = some ("corner" : Str)) && decide ((cs.length : Int) < 6)) = false := by
        rw [← Bool.not_eq_true, Bool.and_eq_true, decide_eq_true_iff, decide_eq_true_iff]; intro h; exact hcond ⟨h.1, by omega⟩
      rw [hb1, if_neg Bool.false_ne_true]
      rw [if_neg hcond] at hL
      have hco := corners_cL hne h6 hrow hf1 hf6
      refine s_retFM (av_1 (ev_varO (s := ⟨[.val (.loc a), c, .own (cs.map rowL)], ⟨n.n, st⟩⟩) (i := 2) (ds := cs.map rowL) rfl)) fun x hx => ?_
      refine ⟨x, cL cs, rfl, updS_same, by unfold cL; rw [plain]; exact plain_rows cs, ?_, fun h => absurd (hco ▸ h) cN_ne, fun _ => ⟨rfl, x, F, _, _, rfl, updS_same, ?_⟩⟩
      · unfold cL
        rw [nd, nd_rows hrow]
        have := Nat.mul_le_mul h6 (show 1 + f.length ≤ 7 by omega)
        omega
      · rw [hco, tupLen_cN hne]
        show Qd (fieldD F cs) ⟨n.n, eraS (updS (updS st x _) x _) x⟩
        rw [updS_upd, eraS_upd hx]
        exact q1 cs k hL.symm st rk
theorem law_read_field : Law (sp_read_field L LS F CT) (w_read_field F CT L LS) n_read_field := by
  rintro ds n Qd Qe ⟨t, rfl, ht, q1, q2⟩
  unfold w_read_field
  show wSeq _ _ _ _ ⟨[.val (.str t), .unb, .unb], n⟩
  refine s_asgC (av_1 (ev_var rfl)) ⟨t, rfl, ht, fun a ls st r => ?_⟩
  show wSeq _ _ _ _ ⟨[.val (.str t), .val (.loc a), .unb], ⟨n.n, st⟩⟩
  refine s_asgC (av_1 (ev_var rfl)) ⟨a, ls, _, rfl, r, fun cs k hF st rk => ?_, fun i j hF => q2 i j ?_⟩
  · show wSeq (wDrop (wMeth LS "end" (sp_lsend L LS CT) (wVar 1) wNil)) _ Qe _ ⟨[.val (.str t), .val (.loc a), .val (fieldD F cs)], ⟨n.n, st⟩⟩
    have hR : readF (wordsOf t) = if k < (wordsOf t).length then .error (k, 0) else .ok cs := by unfold readF; rw [hF]
    by_cases hk : k < (wordsOf t).length
    · rw [if_pos hk] at hR
      exact DL.s_dropNS (nv_meth (ev_var rfl) rk.ob (by decide +kernel) av_nil fun Q => ⟨a, ls, _, k, rfl, rk, fun _ => q2 k 0 hR, fun h => absurd hk h⟩)
    · rw [if_neg hk] at hR
      exact DL.s_drop (ev_meth (n' := ⟨n.n, st⟩) (ev_var rfl) rk.ob (by decide +kernel) av_nil fun Q q => ⟨a, ls, _, k, rfl, rk, fun h => absurd h hk, fun _ => q⟩) (s_ret (ev_var rfl) (q1 cs hR st))
  · unfold readF; rw [hF]
end
end K78
set_option Elab.async false
set_option linter.all false
set_option maxRecDepth 100000
set_option maxHeartbeats 4000000
namespace K78
open PySem L2 Evl DL
/-! ### contracts of the law's own defs -/
def tick (n : M) : M := ⟨n.n + 1, n.st⟩
def sp_draw : DSp := fun ds n Qd _ => ∃ m : Nat, ds = [.pen, .int (m : Nat)] ∧ 0 < m ∧ m < 1000000 ∧ n.n < 1000000 ∧ ∀ j : Nat, j < m → Qd (.int (j : Nat)) (tick n)
def sp_pick : DSp := fun ds n Qd _ => ∃ l, ds = [.pen, .lst l] ∧ 0 < l.length ∧ l.length < 1000 ∧ n.n < 1000000 ∧ ∀ d ∈ l, Qd d (tick n)
/-- a word without a blank or a new line -/
def WordOk (w : Str) : Prop := w.length ≤ 61 ∧ 32 ∉ w.cps.toList ∧ 10 ∉ w.cps.toList
def LineOk (b : Nat) (ws : List Str) : Prop := ws ≠ [] ∧ ws.length ≤ b ∧ ∀ w ∈ ws, WordOk w
def PageOk (wss : List (List Str)) : Prop := wss ≠ [] ∧ wss.length ≤ 20 ∧ ∀ ws ∈ wss, LineOk 20 ws
def pageD (wss : List (List Str)) : D := .lst (wss.map fun ws => .lst (txs ws))
def joined (wss : List (List Str)) : Str := Txt.join "\n" (wss.map (Txt.join " "))
def sp_tx_joined : DSp := fun ds n Qd _ => ∃ wss, ds = [pageD wss] ∧ PageOk wss ∧ Qd (.str (joined wss)) n
def sp_no_word : DSp := fun ds n Qd _ => ds = [.pen] ∧ n.n < 1000000 ∧ ∀ w, WordOk w → Qd (.str w) (tick n)
def sp_fb_whole : DSp := fun ds n Qd _ => ∃ w, ds = [.str w] ∧ w.length ≤ 61 ∧ Qd (optN (wholeW w)) n
def badD (wss : List (List Str)) : D := match readF wss with
  | .error (i, j) => .tup [.int (i : Nat), .int (j : Nat)]
  | .ok _ => .non
def sp_fb_bad : DSp := fun ds n Qd _ => ∃ wss, ds = [pageD wss] ∧ PageOk wss ∧ Qd (badD wss) n
end K78
set_option Elab.async false
set_option linter.all false
set_option maxRecDepth 100000
set_option maxHeartbeats 4000000
namespace K78
open PySem L2 Evl DL
/-! ### _law_pick -/
abbrev s__law_pick : Stmt := top 45
def n__law_pick : List Str := ["pen", "some"]
theorem sc__law_pick : FnScope n__law_pick ["pen", "some"] (defScope s__law_pick) := ⟨rfl, rfl, rfl, by decide +kernel, rfl, by decide +kernel, by decide +kernel⟩
def w__law_pick  : WS :=
    (wRet (wOp fIx (wVar 1) (wCall sp_draw (wCons (wVar 0) (wCons (wCB gLen (wCons (wVar 1) wNil)) wNil)))))
theorem ok__law_pick {P : Program} {w : World} {K : PySem.W.Frag} {mg : Str → Option Value} {base : Heap} {f : Addr} {fd : FuncData}  (F0 : Fun K "_law_pick" "_law_pick" s__law_pick f fd) (B : Bl mg) (q__law_draw : CalF P w K mg base 1 "_law_draw" ["pen", "many"] sp_draw) {sp : DSp} (len : ∀ ds n Qd Qe, sp ds n Qd Qe → ds.length = 2) (law : ∀ ds n Qd Qe, sp ds n Qd Qe → w__law_pick Qe ⟨fun s1 => Qd .non s1.n, Qd, fun _ => False, fun _ => False⟩ ⟨env0 n__law_pick ds, n⟩) :
    FnOk P w K mg base (L2.CX P w) (1 + 1) f fd ["pen", "some"] (spD K sp) := by
  obtain ⟨f__law_draw, fd__law_draw, F__law_draw, m__law_draw, k__law_draw, b__law_draw⟩ := q__law_draw.ex
  refine okD F0 sc__law_pick len (fun cdv A outer s H E hr => ?_)
  exact ⟨w__law_pick,
    (dss_one (ds_ret (de_ix (de_var 1) (de_call F__law_draw (hr.mono (by omega)) (by rfl) m__law_draw k__law_draw b__law_draw (passX rfl rfl rfl rfl) (da_cons (de_var 0) (da_cons (de_callB call_len refc_len (by rfl) B.len bLen (da_cons (de_var 1) da_nil)) da_nil)))))), law⟩
/-! ### _law_tx_joined -/
abbrev s__law_tx_joined : Stmt := top 47
def n__law_tx_joined : List Str := ["lines", "line"]
theorem sc__law_tx_joined : FnScope n__law_tx_joined ["lines"] (defScope s__law_tx_joined) := ⟨rfl, rfl, rfl, by decide +kernel, rfl, by decide +kernel, by decide +kernel⟩
def w__law_tx_joined  : WS :=
    (wRet (wJoin (wC (.str "\n")) (wGive (wLc [1] (wSeqI (wVar 0)) (wgName 1) wTrue (wJoin (wC (.str " ")) (wVar 1))))))
theorem ok__law_tx_joined {P : Program} {w : World} {K : PySem.W.Frag} {mg : Str → Option Value} {base : Heap} {f : Addr} {fd : FuncData}  (F0 : Fun K "_law_tx_joined" "_law_tx_joined" s__law_tx_joined f fd) (B : Bl mg)  {sp : DSp} (len : ∀ ds n Qd Qe, sp ds n Qd Qe → ds.length = 1) (law : ∀ ds n Qd Qe, sp ds n Qd Qe → w__law_tx_joined Qe ⟨fun s1 => Qd .non s1.n, Qd, fun _ => False, fun _ => False⟩ ⟨env0 n__law_tx_joined ds, n⟩) :
    FnOk P w K mg base (L2.CX P w) (0 + 1) f fd ["lines"] (spD K sp) := by
  refine okD F0 sc__law_tx_joined len (fun cdv A outer s H E hr => ?_)
  exact ⟨w__law_tx_joined,
    (dss_one (ds_ret (de_join de_str (de_give (df_lc (own := [("line", 1)]) (i := 1) rfl sc__law_tx_joined.nd (di_seq (de_var 0)) (blkOk_by (N := n__law_tx_joined) (sc := defScope s__law_tx_joined) (by decide +kernel)) (by decide) (fun _ _ _ _ _ => pg_name (i := 1) sc__law_tx_joined.nd rfl (by first | exact Or.inl rfl | exact Or.inr rfl)) (fun _ _ _ _ _ => dts_nil) (fun _ _ _ _ _ => (de_join de_str (de_var 1)))))))), law⟩
/-! ### _law_no_word -/
abbrev s__law_no_word : Stmt := top 48
def n__law_no_word : List Str := ["pen"]
theorem sc__law_no_word : FnScope n__law_no_word ["pen"] (defScope s__law_no_word) := ⟨rfl, rfl, rfl, by decide +kernel, rfl, by decide +kernel, by decide +kernel⟩
def w__law_no_word  : WS :=
    (wRet (wCall sp_pick (wCons (wVar 0) (wCons (wGive (wLst (wCons (wC (.str "")) (wCons (wC (.str "01")) (wCons (wC (.str "-1")) (wCons (wC (.str "nokindat1")) (wCons (wC (.str "A")) (wCons (wC (.str "+1")) (wCons (wC (.str "1.0")) (wCons (wC (.str "both")) (wCons (wC (.str "(")) (wCons (wC (.str ";")) (wCons (wC (.str "|")) (wCons (wC (.str "zzzzzzzzz")) (wCons (wOp fMulS (wC (.str "9")) (wC (.int 61))) wNil))))))))))))))) wNil))))
theorem ok__law_no_word {P : Program} {w : World} {K : PySem.W.Frag} {mg : Str → Option Value} {base : Heap} {f : Addr} {fd : FuncData}  (F0 : Fun K "_law_no_word" "_law_no_word" s__law_no_word f fd) (B : Bl mg) (q__law_pick : CalF P w K mg base 2 "_law_pick" ["pen", "some"] sp_pick) {sp : DSp} (len : ∀ ds n Qd Qe, sp ds n Qd Qe → ds.length = 1) (law : ∀ ds n Qd Qe, sp ds n Qd Qe → w__law_no_word Qe ⟨fun s1 => Qd .non s1.n, Qd, fun _ => False, fun _ => False⟩ ⟨env0 n__law_no_word ds, n⟩) :
    FnOk P w K mg base (L2.CX P w) (2 + 1) f fd ["pen"] (spD K sp) := by
  obtain ⟨f__law_pick, fd__law_pick, F__law_pick, m__law_pick, k__law_pick, b__law_pick⟩ := q__law_pick.ex
  refine okD F0 sc__law_no_word len (fun cdv A outer s H E hr => ?_)
  exact ⟨w__law_no_word,
    (dss_one (ds_ret (de_call F__law_pick (hr.mono (by omega)) (by rfl) m__law_pick k__law_pick b__law_pick (passX rfl rfl rfl rfl) (da_cons (de_var 0) (da_cons (de_lst (da_cons de_str (da_cons de_str (da_cons de_str (da_cons de_str (da_cons de_str (da_cons de_str (da_cons de_str (da_cons de_str (da_cons de_str (da_cons de_str (da_cons de_str (da_cons de_str (da_cons (de_op op_mulS ref_mulS de_str de_int) da_nil)))))))))))))) da_nil))))), law⟩
/-! ### _law_fb_whole -/
abbrev s__law_fb_whole : Stmt := top 49
def n__law_fb_whole : List Str := ["word", "sign"]
theorem sc__law_fb_whole : FnScope n__law_fb_whole ["word"] (defScope s__law_fb_whole) := ⟨rfl, rfl, rfl, by decide +kernel, rfl, by decide +kernel, by decide +kernel⟩
def w__law_fb_whole  : WS :=
    (wSeq (wIfS (wOr (wT (wOp (fEq false) (wVar 0) (wC (.str "")))) (wOr (wT (wNilA true (wGive (wLc [1] (wStrI (wVar 0)) (wgName 1) (wT (wOp (fInS true) (wVar 1) (wC (.str "0123456789")))) (wVar 1))))) (wOr (wAnd (wT (wOp (fEq false) (wOp fIxS (wVar 0) (wC (.int 0))) (wC (.str "0")))) (wT (wOp (fEq true) (wVar 0) (wC (.str "0"))))) (wT (wOp fGt (wCB gLen (wCons (wVar 0) wNil)) (wC (.int 7))))))) (wRet (wC .non)) wNext)
    (wRet (wIf (wT (wOp fLe (wCB gIntS (wCons (wVar 0) wNil)) (wOp (fInt CPow fun i j => .int (i ^ j.toNat)) (wC (.int 10)) (wC (.int 6))))) (wCB gIntS (wCons (wVar 0) wNil)) (wC .non))))
theorem ok__law_fb_whole {P : Program} {w : World} {K : PySem.W.Frag} {mg : Str → Option Value} {base : Heap} {f : Addr} {fd : FuncData}  (F0 : Fun K "_law_fb_whole" "_law_fb_whole" s__law_fb_whole f fd) (B : Bl mg)  {sp : DSp} (len : ∀ ds n Qd Qe, sp ds n Qd Qe → ds.length = 1) (law : ∀ ds n Qd Qe, sp ds n Qd Qe → w__law_fb_whole Qe ⟨fun s1 => Qd .non s1.n, Qd, fun _ => False, fun _ => False⟩ ⟨env0 n__law_fb_whole ds, n⟩) :
    FnOk P w K mg base (L2.CX P w) (0 + 1) f fd ["word"] (spD K sp) := by
  refine okD F0 sc__law_fb_whole len (fun cdv A outer s H E hr => ?_)
  have hu : (cxOf (L2.CX P w) P w K mg base n__law_fb_whole "_law_fb_whole" (defScope s__law_fb_whole) f cdv A outer s H E).A.units + 64 < cLine := hr.units
  have hu0 : (cxOf (L2.CX P w) P w K mg base n__law_fb_whole "_law_fb_whole" (defScope s__law_fb_whole) f cdv A outer s H E).A.units < cLine := hr.units0
  have hu1 : (cxOf (L2.CX P w) P w K mg base n__law_fb_whole "_law_fb_whole" (defScope s__law_fb_whole) f cdv A outer s H E).A.units + 65 < cLine := room65 hr
  exact ⟨w__law_fb_whole,
    (dss_cons (ds_if (dw_or (dt_cmp (op_eqU hu) ref_eq (nomark _) (de_var 0) de_str) (dw_or (dt_neNilA hu0 (de_give (df_lc (own := [("sign", 1)]) (i := 1) rfl sc__law_fb_whole.nd (di_str (de_var 0)) (blkOk_by (N := n__law_fb_whole) (sc := defScope s__law_fb_whole) (by decide +kernel)) (by decide) (fun _ _ _ _ _ => pg_name (i := 1) sc__law_fb_whole.nd rfl (by first | exact Or.inl rfl | exact Or.inr rfl)) (fun _ _ _ _ _ => (dts_one (dt_cmp op_notInSg ref_inSg (by with_unfolding_all rfl) (de_var 1) de_str))) (fun _ _ _ _ _ => (de_var 1))))) (dw_or (dw_and (dt_cmp (op_eqU hu) ref_eq (nomark _) (de_ixS (de_var 0) de_int) de_str) (dw_and1 (dt_cmp (op_neU hu) ref_ne (nomark _) (de_var 0) de_str))).dt (dw_or1 (dt_cmp op_gt ref_gt (nomark _) (de_callB call_len refc_len (by rfl) B.len bLen (da_cons (de_var 0) da_nil)) de_int))))).dt (dss_one (ds_ret de_non)) dss_nil)
      (dss_one (ds_ret (de_if (dt_cmp op_le ref_le (nomark _) (de_callTy call_int_str refc_intS (by rfl) B.int bInt (da_cons (de_var 0) da_nil)) (de_pow de_int de_int)) (de_callTy call_int_str refc_intS (by rfl) B.int bInt (da_cons (de_var 0) da_nil)) de_non)))), law⟩
/-! ### _law_fb_bad -/
abbrev s__law_fb_bad : Stmt := top 50
def n__law_fb_bad : List Str := ["lines", "wide", "at", "line", "found", "spot", "number"]
theorem sc__law_fb_bad : FnScope n__law_fb_bad ["lines"] (defScope s__law_fb_bad) := ⟨rfl, rfl, rfl, by decide +kernel, rfl, by decide +kernel, by decide +kernel⟩
def w__law_fb_bad  : WS :=
    (wSeq (wAsg (wC .non) (wgName 1))
    (wSeq (wFor (wEnumI (wCons (wVar 0) wNil)) (wgTup 2 (wgCons (wgName 2) (wgCons (wgName 3) wgNil))) (wSeq (wIfS (wOr (wT (wOp (fEq false) (wVar 2) (wC (.int 6)))) (wT (wOp (fEq true) (wOp fIx (wVar 3) (wC (.int 0))) (wC (.str "corner"))))) (wRet (wTup (wCons (wVar 2) (wCons (wC (.int 0)) wNil)))) wNext)
    (wSeq (wSetF 4 (wLst wNil))
    (wSeq (wFor (wRange2I (wCons (wC (.int 1)) (wCons (wOp fAdd (wCB gLen (wCons (wVar 3) wNil)) (wC (.int 1))) wNil))) (wgName 5) (wSeq (wIfS (wT (wOp fGt (wVar 5) (wIf (wT (wIsN false (wVar 1))) (wC (.int 6)) (wVar 1)))) wBreak wNext)
    (wSeq (wIfS (wT (wOp (fEq false) (wVar 5) (wCB gLen (wCons (wVar 3) wNil)))) (wSeq (wIfS (wAnd (wT (wIsN false (wVar 1))) (wT (wNeNil 4))) wBreak wNext)
    (wRet (wTup (wCons (wVar 2) (wCons (wVar 5) wNil))))) wNext)
    (wSeq (wAsg (wCall sp_fb_whole (wCons (wOp fIx (wVar 3) (wVar 5)) wNil)) (wgName 6))
    (wSeq (wIfS (wT (wIsN false (wVar 6))) (wRet (wTup (wCons (wVar 2) (wCons (wVar 5) wNil)))) wNext)
    (wDrop (wAppend 4 (wVar 6))))))))
    (wSeq (wIfS (wT (wOp (fEq false) (wSumO 4) (wC (.int 0)))) (wRet (wTup (wCons (wVar 2) (wCons (wLenO 4) wNil)))) wNext)
    (wSeq (wIfS (wT (wOp fGt (wCB gLen (wCons (wVar 3) wNil)) (wOp fAdd (wC (.int 1)) (wLenO 4)))) (wRet (wTup (wCons (wVar 2) (wCons (wOp fAdd (wC (.int 1)) (wLenO 4)) wNil)))) wNext)
    (wAsg (wLenO 4) (wgName 1))))))))
    (wRet (wC .non))))
theorem ok__law_fb_bad {P : Program} {w : World} {K : PySem.W.Frag} {mg : Str → Option Value} {base : Heap} {f : Addr} {fd : FuncData}  (F0 : Fun K "_law_fb_bad" "_law_fb_bad" s__law_fb_bad f fd) (B : Bl mg) (q__law_fb_whole : CalF P w K mg base 1 "_law_fb_whole" ["word"] sp_fb_whole) {sp : DSp} (len : ∀ ds n Qd Qe, sp ds n Qd Qe → ds.length = 1) (law : ∀ ds n Qd Qe, sp ds n Qd Qe → w__law_fb_bad Qe ⟨fun s1 => Qd .non s1.n, Qd, fun _ => False, fun _ => False⟩ ⟨env0 n__law_fb_bad ds, n⟩) :
    FnOk P w K mg base (L2.CX P w) (1 + 1) f fd ["lines"] (spD K sp) := by
  obtain ⟨f__law_fb_whole, fd__law_fb_whole, F__law_fb_whole, m__law_fb_whole, k__law_fb_whole, b__law_fb_whole⟩ := q__law_fb_whole.ex
  refine okD F0 sc__law_fb_bad len (fun cdv A outer s H E hr => ?_)
  have hu : (cxOf (L2.CX P w) P w K mg base n__law_fb_bad "_law_fb_bad" (defScope s__law_fb_bad) f cdv A outer s H E).A.units + 64 < cLine := hr.units
  have hu0 : (cxOf (L2.CX P w) P w K mg base n__law_fb_bad "_law_fb_bad" (defScope s__law_fb_bad) f cdv A outer s H E).A.units < cLine := hr.units0
  have hu1 : (cxOf (L2.CX P w) P w K mg base n__law_fb_bad "_law_fb_bad" (defScope s__law_fb_bad) f cdv A outer s H E).A.units + 65 < cLine := room65 hr
  exact ⟨w__law_fb_bad,
    (dss_cons (ds_set (i := 1) sc__law_fb_bad.nd rfl (by first | exact Or.inl rfl | exact Or.inr rfl) de_non)
      (dss_cons (ds_for (passes_of rfl) rfl (di_enum (by rfl) B.enum (da_cons (de_var 0) da_nil)) (dg_tup rfl (dgs_cons (dg_name (i := 2) sc__law_fb_bad.nd rfl (by first | exact Or.inl rfl | exact Or.inr rfl)) (dgs_cons (dg_name (i := 3) sc__law_fb_bad.nd rfl (by first | exact Or.inl rfl | exact Or.inr rfl)) dgs_nil))) (dss_cons (ds_if (dw_or (dt_cmp (op_eqU hu) ref_eq (nomark _) (de_var 2) de_int) (dw_or1 (dt_cmp (op_neU hu) ref_ne (nomark _) (de_ix (de_var 3) de_int) de_str))).dt (dss_one (ds_ret (de_tup (da_cons (de_var 2) (da_cons de_int da_nil))))) dss_nil)
      (dss_cons (ds_setF (i := 4) sc__law_fb_bad.nd rfl (by first | exact Or.inl rfl | exact Or.inr rfl) (df_lst da_nil))
      (dss_cons (ds_for (passes_of rfl) rfl (di_range2 (by rfl) B.range (da_cons de_int (da_cons (de_add (de_callB call_len refc_len (by rfl) B.len bLen (da_cons (de_var 3) da_nil)) de_int) da_nil))) (dg_name (i := 5) sc__law_fb_bad.nd rfl (by first | exact Or.inl rfl | exact Or.inr rfl)) (dss_cons (ds_if (dt_cmp op_gt ref_gt (nomark _) (de_var 5) (de_if (dt_isN (de_var 1)) de_int (de_var 1))) (dss_one ds_break) dss_nil)
      (dss_cons (ds_if (dt_cmp (op_eqU hu) ref_eq (nomark _) (de_var 5) (de_callB call_len refc_len (by rfl) B.len bLen (da_cons (de_var 3) da_nil))) (dss_cons (ds_if (dw_and (dt_isN (de_var 1)) (dw_and1 (dt_neNil hu0 (pv 4)))).dt (dss_one ds_break) dss_nil)
      (dss_one (ds_ret (de_tup (da_cons (de_var 2) (da_cons (de_var 5) da_nil)))))) dss_nil)
      (dss_cons (ds_set (i := 6) sc__law_fb_bad.nd rfl (by first | exact Or.inl rfl | exact Or.inr rfl) (de_call F__law_fb_whole (hr.mono (by omega)) (by rfl) m__law_fb_whole k__law_fb_whole b__law_fb_whole (passX rfl rfl rfl rfl) (da_cons (de_ix (de_var 3) (de_var 5)) da_nil)))
      (dss_cons (ds_if (dt_isN (de_var 6)) (dss_one (ds_ret (de_tup (da_cons (de_var 2) (da_cons (de_var 5) da_nil))))) dss_nil)
      (dss_one (ds_expr (de_append (pv 4) (de_var 6)))))))))
      (dss_cons (ds_if (dt_cmp (op_eqU hu) ref_eq (nomark _) (de_sumO rfl (pv 4) (by rfl) B.sum bSum) de_int) (dss_one (ds_ret (de_tup (da_cons (de_var 2) (da_cons (de_lenO (pv 4) (by rfl) B.len bLen) da_nil))))) dss_nil)
      (dss_cons (ds_if (dt_cmp op_gt ref_gt (nomark _) (de_callB call_len refc_len (by rfl) B.len bLen (da_cons (de_var 3) da_nil)) (de_add de_int (de_lenO (pv 4) (by rfl) B.len bLen))) (dss_one (ds_ret (de_tup (da_cons (de_var 2) (da_cons (de_add de_int (de_lenO (pv 4) (by rfl) B.len bLen)) da_nil))))) dss_nil)
      (dss_one (ds_set (i := 1) sc__law_fb_bad.nd rfl (by first | exact Or.inl rfl | exact Or.inr rfl) (de_lenO (pv 4) (by rfl) B.len bLen)))))))))
      (dss_one (ds_ret de_non)))), law⟩
end K78
set_option Elab.async false
set_option linter.all false
set_option maxRecDepth 100000
set_option maxHeartbeats 4000000
namespace K78
open PySem L2 Evl DL
section
variable {Qe : WQ} {De : DEnds} {s s1 s2 : S} {d e z : D} {ds es : List D} {wa wb wc : WE} {wr : WA} {sp : DSp} {f : F2}
theorem s_retOp2 (h : EV wa Qe s d s1) (k : AV wr Qe s1 ds s2) (hs : sp ds s2.n (fun e n' => f d e fun z => De.rt z n') Qe.only) : wRet (wOp f wa (wCall sp wr)) Qe De s := h _ (k _ hs)
theorem s_retC (h : AV wr Qe s ds s1) (hs : sp ds s1.n (fun d n' => De.rt d n') Qe.only) : wRet (wCall sp wr) Qe De s := h _ hs
theorem tv_nilA (h : EV wa Qe s (.lst ds) s1) : TV (wT (wNilA true wa)) Qe s (!ds.isEmpty) s1 := fun Q q => h _ q
end
theorem law_pick : Law sp_pick w__law_pick n__law_pick := by
  rintro ds n Qd Qe ⟨l, rfl, h0, hl, hn, q⟩
  unfold w__law_pick
  show wRet _ _ _ ⟨[.val .pen, .val (.lst l)], n⟩
  refine s_retOp2 (ev_var (i := 1) rfl) (av_cons (ev_var (i := 0) rfl) (av_1 (ev_cb (av_1 (ev_var (i := 1) rfl)) (g_len (.inl rfl))))) ⟨l.length, rfl, h0, by omega, hn, fun j hj => ?_⟩
  exact f_ix (x := l[j]) (.inl rfl) (List.getElem?_eq_getElem hj) _ (q _ (List.getElem_mem hj))
def strOf : D → Str
  | .str w => w
  | _ => ""
theorem strOf_txs (ws : List Str) : (txs ws).map strOf = ws := by
  unfold txs
  rw [List.map_map]
  exact List.map_id ws
def kJ (sep : Str) : D → D
  | .lst l => .str (Txt.join sep (l.map strOf))
  | d => d
theorem sum_le {l : List Str} {b : Nat} (h : ∀ w ∈ l, w.length ≤ b) : (l.map (·.length)).sum ≤ l.length * b := by
  induction l with
  | nil => simp
  | cons x l ih =>
    have := ih fun w hw => h w (List.mem_cons_of_mem _ hw)
    have := h x (List.mem_cons_self ..)
    rw [List.map_cons, List.sum_cons, List.length_cons, Nat.add_mul]; omega
theorem join_le (sep : Str) {l : List Str} {b : Nat} (h : ∀ w ∈ l, w.length ≤ b) : (Txt.join sep l).length ≤ l.length * b + l.length * sep.length := by
  have h1 := StrLaws.join_length_le sep l
  have h2 := sum_le h
  have h3 : (Txt.join sep l).length ≤ (l.map (·.length)).sum + l.length * sep.length := by rw [show Txt.join sep l = Str.join sep l from PySem.StrLaws.glued_eq_join sep l]; exact h1
  omega
theorem line_len {ws : List Str} (h : LineOk 20 ws) : (Txt.join " " ws).length ≤ 1240 := by
  have h1 := join_le " " (b := 61) fun w hw => (h.2.2 w hw).1
  have h2 := h.2.1
  have h3 : (" " : Str).length = 1 := by decide +kernel
  rw [h3] at h1
  have := Nat.mul_le_mul h2 (Nat.le_refl 61)
  omega
theorem joined_len {wss : List (List Str)} (h : PageOk wss) : (joined wss).length ≤ 80000 := by
  have h1 := join_le "\n" (l := wss.map (Txt.join " ")) (b := 1240) fun w hw => by
    obtain ⟨ws, hws, rfl⟩ := List.mem_map.mp hw
    exact line_len (h.2.2 ws hws)
  rw [List.length_map] at h1
  have h3 : ("\n" : Str).length = 1 := by decide +kernel
  rw [h3] at h1
  have := Nat.mul_le_mul h.2.1 (Nat.le_refl 1240)
  have := h.2.1
  unfold joined
  omega
theorem law_tx_joined : Law sp_tx_joined w__law_tx_joined n__law_tx_joined := by
  rintro ds n Qd Qe ⟨wss, rfl, hp, q⟩
  unfold w__law_tx_joined
  show wRet _ _ _ ⟨[.val (pageD wss), .unb], n⟩
  have hk : (wss.map fun ws => D.lst (txs ws)).map (kJ " ") = txs (wss.map (Txt.join " ")) := by
    unfold txs
    rw [List.map_map, List.map_map]
    refine List.map_congr_left fun ws _ => ?_
    show D.str (Txt.join " " ((txs ws).map strOf)) = _
    rw [strOf_txs]; rfl
  refine s_ret (ev_join ev_c (ev_give (fv_map (v := 1) (k := kJ " ") (iv_seq (ev_var (i := 0) rfl) (.inl rfl)) ?_ rfl fun d hd => ?_)) (.inl (by rw [hk])) ?_) q
  · have := hp.2.1; simp; omega
  · obtain ⟨ws, hws, rfl⟩ := List.mem_map.mp hd
    have hl := hp.2.2 ws hws
    have := ev_join (Qe := Qf) (s := ⟨[.val (pageD wss), .val (.lst (txs ws))], n⟩) (wa := wC (.str " ")) (wb := wVar 1) (a := " ") (ys := ws) ev_c (ev_var rfl) (.inl rfl) (by
      have h1 := sum_le (b := 61) fun w hw => (hl.2.2 w hw).1
      have h2 := hl.2.1
      have h3 : (" " : Str).length = 1 := by decide +kernel
      have := Nat.mul_le_mul h2 (Nat.le_refl 61)
      rw [h3]; omega)
    show EV _ Qf _ (.str (Txt.join " " ((txs ws).map strOf))) _
    rw [strOf_txs]
    exact this
  · have h1 := sum_le (l := wss.map (Txt.join " ")) (b := 1240) fun w hw => by
      obtain ⟨ws, hws, rfl⟩ := List.mem_map.mp hw
      exact line_len (hp.2.2 ws hws)
    have h3 : ("\n" : Str).length = 1 := by decide +kernel
    rw [List.length_map] at h1 ⊢
    have := Nat.mul_le_mul hp.2.1 (Nat.le_refl 1240)
    have := hp.2.1
    rw [h3]; omega
instance (w : Str) : Decidable (WordOk w) := by unfold WordOk; infer_instance
theorem noWords : ∀ w ∈ (["", "01", "-1", "nokindat1", "A", "+1", "1.0", "both", "(", ";", "|", "zzzzzzzzz", Txt.mul "9" 61] : List Str), WordOk w := by decide +kernel
theorem mul9 : MulOk ("9" : Str) 61 := by
  refine ⟨by decide, fun _ _ => ?_, fun _ _ => ?_⟩
  · decide +kernel
  · decide +kernel
theorem law_no_word : Law sp_no_word w__law_no_word n__law_no_word := by
  rintro ds n Qd Qe ⟨rfl, hn, q⟩
  unfold w__law_no_word
  show wRet _ _ _ ⟨[.val .pen], n⟩
  have c : ∀ {w : Str} {Qe : WQ} {s : S}, EV (wC (.str w)) Qe s (.str w) s := ev_c
  have m : ∀ {Qe : WQ} {s : S}, EV (wOp fMulS (wC (.str "9")) (wC (.int 61))) Qe s (.str (Txt.mul "9" 61)) s := ev_op ev_c ev_c fun R r => ⟨mul9, r⟩
  refine s_retC (av_cons (ev_var rfl) (av_1 (ev_give (fv_lst (ds := txs ["", "01", "-1", "nokindat1", "A", "+1", "1.0", "both", "(", ";", "|", "zzzzzzzzz", Txt.mul "9" 61]) (av_cons c (av_cons c (av_cons c (av_cons c (av_cons c (av_cons c (av_cons c (av_cons c (av_cons c (av_cons c (av_cons c (av_cons c (av_cons m av_nil))))))))))))) (by show 13 ≤ 100000; decide))))) ⟨_, rfl, by show 0 < 13; decide, by show 13 < 1000; decide, hn, fun d hd => ?_⟩
  obtain ⟨w, hw, rfl⟩ := List.mem_map.mp hd
  exact q w (noWords w hw)
theorem notdig (w : Str) : (!((signsD w).filter fun d => !digD d).isEmpty) = !digS w := by
  rw [← digD_all]
  congr 1
  induction signsD w with
  | nil => rfl
  | cons d l ih =>
    rw [List.filter_cons, List.all_cons]
    cases digD d <;> simp_all
theorem law_fb_whole : Law sp_fb_whole w__law_fb_whole n__law_fb_whole := by
  rintro ds n Qd Qe ⟨w, rfl, hl, q⟩
  unfold w__law_fb_whole
  have v0 : ∀ {Qe : WQ}, EV (wVar 0) Qe ⟨[.val (.str w), .unb], n⟩ (.str w) ⟨[.val (.str w), .unb], n⟩ := ev_var rfl
  show wSeq _ _ _ _ ⟨[.val (.str w), .unb], n⟩
  have t1 : TV (wT (wOp (fEq false) (wVar 0) (wC (.str "")))) Qe ⟨[.val (.str w), .unb], n⟩ (decide (w = "")) ⟨[.val (.str w), .unb], n⟩ := tv_T (ev_op v0 ev_c f_eqS)
  have t2 : TV (wT (wNilA true (wGive (wLc [1] (wStrI (wVar 0)) (wgName 1) (wT (wOp (fInS true) (wVar 1) (wC (.str "0123456789")))) (wVar 1))))) Qe ⟨[.val (.str w), .unb], n⟩ (!digS w) ⟨[.val (.str w), .unb], n⟩ := by
    rw [← notdig]
    have := tv_nilA (ev_give (fv_filter (v := 1) (k := id) (p := fun d => !digD d) (iv_str (v0 (Qe := Qe))) (we := wVar 1) (wt := wT (wOp (fInS true) (wVar 1) (wC (.str "0123456789")))) (by rw [signs_len]; omega) rfl (fun d hd => ?_) (fun d hd _ => ev_var rfl)))
    · rw [List.map_id] at this; exact this
    · obtain ⟨c, hc, rfl⟩ := signs_mem hd
      exact tv_T (ev_op (ev_var rfl) ev_c fun R r => ⟨c, rfl, r⟩)
  have t3 : TV (wT (wOp fGt (wCB gLen (wCons (wVar 0) wNil)) (wC (.int 7)))) Qe ⟨[.val (.str w), .unb], n⟩ (decide (7 < w.length)) ⟨[.val (.str w), .unb], n⟩ := by
    refine tv_is (tv_T (ev_op (ev_cb (av_1 v0) (g_lenS (by omega))) ev_c f_gt)) (decide_eq_decide.mpr (by omega))
  have t5 : TV (wT (wOp (fEq true) (wVar 0) (wC (.str "0")))) Qe ⟨[.val (.str w), .unb], n⟩ (!decide (w = "0")) ⟨[.val (.str w), .unb], n⟩ := tv_T (ev_op v0 ev_c f_neS)
  have t4 : w ≠ "" → TV (wAnd (wT (wOp (fEq false) (wOp fIxS (wVar 0) (wC (.int 0))) (wC (.str "0")))) (wT (wOp (fEq true) (wVar 0) (wC (.str "0"))))) Qe ⟨[.val (.str w), .unb], n⟩ (decide (w.cps.toList[0]? = some 48) && !decide (w = "0")) ⟨[.val (.str w), .unb], n⟩ := fun g2 => by
    obtain ⟨c, cs, hc⟩ := str_nil g2
    rw [show w.cps.toList[0]? = some c by rw [hc]; rfl]
    exact tv_and (tv_is (tv_T (ev_op (ev_op v0 ev_c (z := .str ⟨#[c]⟩) fun R r => ⟨c, at_natG (j := 0) (by rw [hc]; rfl), by omega, r⟩) ev_c f_eqS)) (one_eq c)) fun _ => t5
  have t := tv_or t1 fun h1 => tv_or t2 fun _ => tv_or (t4 (of_decide_eq_false h1)) fun _ => t3
  have hq : wholeW w = if (decide (w = "") || (!digS w || ((decide (w.cps.toList[0]? = some 48) && !decide (w = "0")) || decide (7 < w.length)))) = true then none else if PySem.NumText.digitsVal w.cps.toList ≤ 1000000 then some (PySem.NumText.digitsVal w.cps.toList) else none := by
    unfold wholeW
    cases decide (w = "") <;> cases digS w <;> cases (decide (w.cps.toList[0]? = some 48) && !decide (w = "0")) <;> cases decide (7 < w.length) <;> rfl
  rw [hq] at q
  cases h : (decide (w = "") || (!digS w || ((decide (w.cps.toList[0]? = some 48) && !decide (w = "0")) || decide (7 < w.length)))) with
  | true =>
    rw [if_pos h] at q
    exact s_ifT (tv_is t h) (s_ret ev_c q)
  | false =>
    rw [if_neg (by rw [h]; exact Bool.false_ne_true)] at q
    refine s_skip (tv_is t h) ?_
    simp only [Bool.or_eq_false_iff, Bool.not_eq_false', decide_eq_false_iff_not] at h
    obtain ⟨g2, g3, g4, g1⟩ := h
    have iv : ∀ {Qe : WQ}, EV (wCB gIntS (wCons (wVar 0) wNil)) Qe ⟨[.val (.str w), .unb], n⟩ (.int ((PySem.NumText.digitsVal w.cps.toList : Nat) : Int)) ⟨[.val (.str w), .unb], n⟩ :=
      ev_cb (av_1 v0) fun R r => ⟨_, int_dig g3 g2 (by omega), by omega, r⟩
    have pw : ∀ {Qe : WQ}, EV (wOp (fInt CPow fun i j => .int (i ^ j.toNat)) (wC (.int 10)) (wC (.int 6))) Qe ⟨[.val (.str w), .unb], n⟩ (.int 1000000) ⟨[.val (.str w), .unb], n⟩ := ev_op ev_c ev_c fun R r => ⟨by unfold CPow; decide, r⟩
    have t7 := tv_T (ev_op (iv (Qe := Qe)) pw f_le)
    by_cases h3 : PySem.NumText.digitsVal w.cps.toList ≤ 1000000
    · rw [if_pos h3] at q
      exact s_ret (ev_ifT (tv_is t7 (decide_eq_true (by omega))) iv) q
    · rw [if_neg h3] at q
      exact s_ret (ev_ifF (tv_is t7 (decide_eq_false (by omega))) ev_c) q
end K78
set_option Elab.async false
set_option linter.all false
set_option maxRecDepth 100000
set_option maxHeartbeats 4000000
namespace K78
open PySem L2 Evl DL
def wPost : WS :=
    (wSeq (wIfS (wT (wOp (fEq false) (wSumO 4) (wC (.int 0)))) (wRet (wTup (wCons (wVar 2) (wCons (wLenO 4) wNil)))) wNext)
    (wSeq (wIfS (wT (wOp fGt (wCB gLen (wCons (wVar 3) wNil)) (wOp fAdd (wC (.int 1)) (wLenO 4)))) (wRet (wTup (wCons (wVar 2) (wCons (wOp fAdd (wC (.int 1)) (wLenO 4)) wNil)))) wNext)
    (wAsg (wLenO 4) (wgName 1))))
def wSpot : WS :=
    (wSeq (wIfS (wT (wOp fGt (wVar 5) (wIf (wT (wIsN false (wVar 1))) (wC (.int 6)) (wVar 1)))) wBreak wNext)
    (wSeq (wIfS (wT (wOp (fEq false) (wVar 5) (wCB gLen (wCons (wVar 3) wNil)))) (wSeq (wIfS (wAnd (wT (wIsN false (wVar 1))) (wT (wNeNil 4))) wBreak wNext)
    (wRet (wTup (wCons (wVar 2) (wCons (wVar 5) wNil))))) wNext)
    (wSeq (wAsg (wCall sp_fb_whole (wCons (wOp fIx (wVar 3) (wVar 5)) wNil)) (wgName 6))
    (wSeq (wIfS (wT (wIsN false (wVar 6))) (wRet (wTup (wCons (wVar 2) (wCons (wVar 5) wNil)))) wNext)
    (wDrop (wAppend 4 (wVar 6)))))))
def wInner : WS := (wSeq (wSetF 4 (wLst wNil))
    (wSeq (wFor (wRange2I (wCons (wC (.int 1)) (wCons (wOp fAdd (wCB gLen (wCons (wVar 3) wNil)) (wC (.int 1))) wNil))) (wgName 5) wSpot) wPost))
theorem fb_is : w__law_fb_bad = (wSeq (wAsg (wC .non) (wgName 1))
    (wSeq (wFor (wEnumI (wCons (wVar 0) wNil)) (wgTup 2 (wgCons (wgName 2) (wgCons (wgName 3) wgNil))) (wSeq (wIfS (wOr (wT (wOp (fEq false) (wVar 2) (wC (.int 6)))) (wT (wOp (fEq true) (wOp fIx (wVar 3) (wC (.int 0))) (wC (.str "corner"))))) (wRet (wTup (wCons (wVar 2) (wCons (wC (.int 0)) wNil)))) wNext) wInner))
    (wRet (wC .non)))) := rfl
section
variable {Qe : WQ} {De : DEnds} {s s1 : S} {ds : List D} {wr : WA} {wi : WI} {wg : WG} {wb W : WS} {i j : Int} {a b : D} {u v : Nat} {Q : S → Prop}
theorem s_for (h : IV wi Qe s ds s1) (k : wForL wg wb Qe { De with nx := fun s => W Qe De s } ds s1) : wSeq (wFor wi wg wb) W Qe De s := h _ k
theorem s_for1 (h : IV wi Qe s ds s1) (k : wForL wg wb Qe De ds s1) : wFor wi wg wb Qe De s := h _ k
theorem iv_range2 (h : AV wr Qe s [.int i, .int j] s1) (hb : i < 100000 ∧ -100000 < i ∧ j < 100000 ∧ -100000 < j) : IV (wRange2I wr) Qe s (rng2 i (j - i).toNat) s1 := fun Q q => h _ ⟨i, j, rfl, hb, q⟩
theorem wg_two (q : Q ⟨(s.env.set u (.val a)).set v (.val b), s.n⟩) : wgTup 2 (wgCons (wgName u) (wgCons (wgName v) wgNil)) (.tup [a, b]) Qe s Q := ⟨_, rfl, rfl, _, _, rfl, _, _, rfl, rfl, q⟩
end
theorem sum_nat : ∀ l : List Nat, (l.map fun i : Nat => (i : Int)).sum = (l.sum : Nat)
  | [] => rfl
  | x :: l => by rw [List.map_cons, List.sum_cons, List.sum_cons, sum_nat l]; omega
theorem sum0_any : ∀ l : List Nat, decide ((l.sum : Int) = 0) = !l.any fun x => x != 0
  | [] => rfl
  | x :: l => by
    have ih := sum0_any l
    rw [List.sum_cons, List.any_cons, Bool.not_or, ← ih]
    cases x with
    | zero => simp
    | succ x =>
      rw [show ((x + 1 != 0) = true) by simp]
      show decide _ = false
      exact decide_eq_false (by omega)
theorem ev_sumO {Qe : WQ} {s : S} {i : Nat} {ns : List Int} (h : lstAt s i = some (ns.map D.int)) : EV (wSumO i) Qe s (.int ns.sum) s := fun Q q => ⟨ns, h, q⟩
theorem ev_neNil {Qe : WQ} {s : S} {i : Nat} {ds : List D} (h : lstAt s i = some ds) : EV (wNeNil i) Qe s (.bl (!ds.isEmpty)) s := fun Q q => ⟨ds, h, q⟩
section
variable {Qe : WQ} {De : DEnds} {n : M} {p : D} {wide : Option Nat} {k : Nat} {ws : List Str} {c5 c6 : Cell} {found : List Nat} {spot : Nat}
abbrev sF (n : M) (p : D) (wide : Option Nat) (k : Nat) (ws : List Str) (c4 c5 c6 : Cell) : S := ⟨[.val p, .val (optN wide), .val (.int (k : Nat)), .val (.lst (txs ws)), c4, c5, c6], n⟩
def ownN (found : List Nat) : Cell := .own (found.map fun i => .int (i : Nat))
theorem ev_foundLen : EV (wLenO 4) Qe (sF n p wide k ws (ownN found) c5 c6) (.int (found.length : Nat)) (sF n p wide k ws (ownN found) c5 c6) := by
  have := ev_lenO (Qe := Qe) (s := sF n p wide k ws (ownN found) c5 c6) (i := 4) rfl
  rw [rowL_len] at this
  exact this
theorem ev_lineLen {c4 : Cell} : EV (wCB gLen (wCons (wVar 3) wNil)) Qe (sF n p wide k ws c4 c5 c6) (.int (ws.length : Nat)) (sF n p wide k ws c4 c5 c6) := by
  have := ev_cb (Qe := Qe) (s := sF n p wide k ws c4 c5 c6) (av_1 (ev_var (i := 3) rfl)) (g_len (.inl rfl))
  rw [txs_len] at this
  exact this
theorem fb_post {least most : Nat} (hs : 1 ≤ spot) (hf : found.length = spot - 1) (hn : nums ws least most = if found.any (fun x => x != 0) = true then .ok (found, spot) else .error (spot - 1))
    (herr : ∀ j : Nat, cornerF ws least most = .error j → De.rt (.tup [.int (k : Nat), .int (j : Nat)]) n)
    (hok : ∀ f, cornerF ws least most = .ok f → ∀ c4 c5 c6, De.nx (sF n p (some f.length) k ws c4 c5 c6)) : wPost Qe De (sF n p wide k ws (ownN found) c5 c6) := by
  unfold wPost
  have t1 := tv_T (ev_op (ev_sumO (Qe := Qe) (s := sF n p wide k ws (ownN found) c5 c6) (i := 4) (ns := found.map fun i : Nat => (i : Int)) (by show some _ = some _; rw [List.map_map]; rfl)) (ev_c (d := .int 0)) f_eqI)
  rw [sum_nat, sum0_any] at t1
  unfold cornerF at herr hok
  rw [hn] at herr hok
  cases ha : found.any fun x => x != 0 with
  | false =>
    rw [ha] at t1 herr
    rw [if_neg Bool.false_ne_true] at herr
    refine s_ifT t1 (s_ret (ev_tup (av_cons (ev_var (i := 2) rfl) (av_1 ev_foundLen)) (by show 2 ≤ 100000; decide)) ?_)
    rw [hf]
    exact herr _ rfl
  | true =>
    rw [ha] at t1 herr hok
    rw [if_pos rfl] at herr hok
    refine s_skip t1 ?_
    have ea : ∀ {Qe : WQ}, EV (wOp fAdd (wC (.int 1)) (wLenO 4)) Qe (sF n p wide k ws (ownN found) c5 c6) (.int (spot : Nat)) (sF n p wide k ws (ownN found) c5 c6) := by
      intro Qe
      have := ev_op (ev_c (Qe := Qe) (d := .int 1)) (ev_foundLen (Qe := Qe) (n := n) (p := p) (wide := wide) (k := k) (ws := ws) (c5 := c5) (c6 := c6) (found := found)) f_addI
      rw [show (1 : Int) + (found.length : Nat) = (spot : Nat) by omega] at this
      exact this
    have t2 := tv_T (ev_op (ev_lineLen (Qe := Qe)) ea f_gt)
    by_cases hl : spot < ws.length
    · simp only [hl, if_true] at herr
      exact s_ifT (tv_is t2 (decide_eq_true (by omega))) (s_ret (ev_tup (av_cons (ev_var (i := 2) rfl) (av_1 ea)) (by show 2 ≤ 100000; decide)) (herr _ rfl))
    · simp only [hl, if_false] at hok
      refine s_skip (tv_is t2 (decide_eq_false (by omega))) ?_
      exact s_asg1 ev_foundLen (hok _ rfl _ _ _)
theorem rng2_drop (m j : Nat) (h : j < m) : (rng2 1 m).drop j = .int ((j + 1 : Nat) : Int) :: (rng2 1 m).drop (j + 1) := by
  rw [List.drop_eq_getElem_cons (by simp [rng2]; exact h)]
  congr 1
  simp [rng2]; omega
theorem fb_inner {c4 : Cell} (hw : LineOk 20 ws) (hwd : ∀ w, wide = some w → 1 ≤ w ∧ w ≤ 6) {least most : Nat} (e1 : least = wide.getD 1) (e2 : most = wide.getD 6)
    (herr : ∀ j : Nat, cornerF ws least most = .error j → De.rt (.tup [.int (k : Nat), .int (j : Nat)]) n)
    (hok : ∀ f, cornerF ws least most = .ok f → ∀ c4 c5 c6, De.nx (sF n p (some f.length) k ws c4 c5 c6)) : wInner Qe De (sF n p wide k ws c4 c5 c6) := by
  unfold wInner
  have hl1 : 1 ≤ ws.length := by
    cases ws with
    | nil => exact absurd rfl hw.1
    | cons x y => simp
  have hl20 := hw.2.1
  have hlm : 1 ≤ least ∧ least ≤ most ∧ most ≤ 6 := by
    cases wide with
    | none => subst e1 e2; decide
    | some v =>
      have h1 : least = v := e1
      have h2 : most = v := e2
      have := hwd v rfl
      omega
  refine s_setF (fv_lst av_nil (by decide)) ?_
  show wSeq _ _ Qe De (sF n p wide k ws (ownN []) c5 c6)
  have ea : EV (wOp fAdd (wCB gLen (wCons (wVar 3) wNil)) (wC (.int 1))) Qe (sF n p wide k ws (ownN []) c5 c6) (.int ((ws.length + 1 : Nat) : Int)) (sF n p wide k ws (ownN []) c5 c6) := ev_op ev_lineLen ev_c fun R r => r
  refine (show wSeq (wFor _ _ _) _ _ _ _ from ?_)
  have main : ∀ (l : List D) (s : S), (∃ (spot fuel : Nat) (found : List Nat) (c5 c6 : Cell), l = (rng2 1 ws.length).drop (spot - 1) ∧ 1 ≤ spot ∧ spot ≤ ws.length ∧ found.length = spot - 1 ∧ found.length ≤ most ∧ fuel + spot = ws.length + 3 ∧ numsF ws least most fuel spot found = nums ws least most ∧ s = sF n p wide k ws (ownN found) c5 c6) →
      wForL (wgName 5) wSpot Qe { De with nx := fun s => wPost Qe De s } l s := by
    refine for_inv _ (fun d ds s I R kk => ?_) (fun s I => ?_)
    · obtain ⟨spot, fuel, found, c5, c6, hl, h1, h2, h3, h4, h5, h6, rfl⟩ := I
      rw [rng2_drop _ _ (by omega), show spot - 1 + 1 = spot by omega] at hl
      cases hl
      show wSpot Qe _ (sF n p wide k ws (ownN found) (.val (.int (spot : Nat))) c6)
      unfold wSpot
      obtain ⟨fuel, rfl⟩ : ∃ f, fuel = f + 1 := ⟨fuel - 1, by omega⟩
      rw [numsF] at h6
      have em : EV (wIf (wT (wIsN false (wVar 1))) (wC (.int 6)) (wVar 1)) Qe (sF n p wide k ws (ownN found) (.val (.int (spot : Nat))) c6) (.int (most : Nat)) (sF n p wide k ws (ownN found) (.val (.int (spot : Nat))) c6) := by
        cases wide with
        | none => subst e2; exact ev_ifT (tv_T (ev_isN (d := .non) (ev_var rfl))) ev_c
        | some v =>
          have h2 : most = v := e2
          rw [h2]
          exact ev_ifF (tv_T (ev_isN (d := .int (v : Nat)) (ev_var rfl))) (ev_var rfl)
      have t1 := tv_T (ev_op (ev_var (i := 5) (Qe := Qe) (s := sF n p wide k ws (ownN found) (.val (.int (spot : Nat))) c6) rfl) em f_gt)
      have brk : ¬ (found.length < least ∨ (spot < ws.length ∧ found.length < most)) → wPost Qe De (sF n p wide k ws (ownN found) (.val (.int (spot : Nat))) c6) := fun h => by
        rw [if_neg h] at h6
        exact fb_post h1 h3 h6.symm herr hok
      by_cases hm : most < spot
      · refine s_ifT (tv_is t1 (decide_eq_true (by omega))) (brk (by omega))
      · refine s_skip (tv_is t1 (decide_eq_false (by omega))) ?_
        have t2 := tv_T (ev_op (ev_var (i := 5) (Qe := Qe) (s := sF n p wide k ws (ownN found) (.val (.int (spot : Nat))) c6) rfl) ev_lineLen f_eqI)
        have bad : (found.length < least ∨ (spot < ws.length ∧ found.length < most)) → (ws[spot]? = none ∨ ∃ w, ws[spot]? = some w ∧ wholeW w = none) → De.rt (.tup [.int (k : Nat), .int (spot : Nat)]) n := fun h h' => by
          rw [if_pos h] at h6
          refine herr spot ?_
          unfold cornerF
          rw [← h6]
          rcases h' with h' | ⟨w, h', hw'⟩
          · rw [h']
          · simp only [h', hw']
        have rt : ∀ {c6 : Cell} {Dx : DEnds}, Dx.rt (.tup [.int (k : Nat), .int (spot : Nat)]) n → wRet (wTup (wCons (wVar 2) (wCons (wVar 5) wNil))) Qe Dx (sF n p wide k ws (ownN found) (.val (.int (spot : Nat))) c6) := fun h => s_ret (ev_tup (av_cons (ev_var (i := 2) rfl) (av_1 (ev_var (i := 5) rfl))) (by show 2 ≤ 100000; decide)) h
        by_cases hs : spot = ws.length
        · refine s_ifT (tv_is t2 (decide_eq_true (by omega))) ?_
          have t3 := tv_and (tv_T (ev_isN (ev_var (i := 1) (Qe := Qe) (s := sF n p wide k ws (ownN found) (.val (.int (spot : Nat))) c6) rfl))) fun _ => tv_T (ev_neNil (i := 4) rfl)
          have hnone : ws[spot]? = none := List.getElem?_eq_none (by omega)
          cases wide with
          | none =>
            by_cases hf : found = []
            · subst hf
              refine s_skip (tv_is t3 rfl) (rt (bad (.inl ?_) (.inl hnone)))
              simp; omega
            · obtain ⟨x, y, rfl⟩ : ∃ x y, found = x :: y := by
                cases found with
                | nil => exact absurd rfl hf
                | cons x y => exact ⟨x, y, rfl⟩
              refine s_ifT (tv_is t3 rfl) (brk ?_)
              subst e1
              rw [List.length_cons]
              simp; omega
          | some v =>
            have g1 : least = v := e1
            have g2 : most = v := e2
            exact s_skip (tv_is t3 rfl) (rt (bad (.inl (by omega)) (.inl hnone)))
        · refine s_skip (tv_is t2 (decide_eq_false (by omega))) ?_
          have hlt : spot < ws.length := by omega
          have hw' : ws[spot]? = some ws[spot] := List.getElem?_eq_getElem hlt
          have hc : found.length < least ∨ (spot < ws.length ∧ found.length < most) := .inr ⟨hlt, by omega⟩
          refine s_asg (DL.ev_call (n' := n) (av_1 (ev_op (z := .str ws[spot]) (ev_var (i := 3) rfl) (ev_var (i := 5) rfl) (f_ix (.inl rfl) ?_))) fun Q q => ⟨ws[spot], rfl, (hw.2.2 _ (List.getElem_mem hlt)).1, q⟩) ?_
          · unfold txs; rw [List.getElem?_map, hw']; rfl
          show wSeq _ _ _ _ (sF n p wide k ws (ownN found) (.val (.int (spot : Nat))) (.val (optN (wholeW ws[spot]))))
          cases hv : wholeW ws[spot] with
          | none => exact s_ifT (tv_T (ev_isN (d := .non) (ev_var (i := 6) rfl))) (rt (bad hc (.inr ⟨_, hw', hv⟩)))
          | some v =>
            refine s_skip (tv_T (ev_isN (d := .int (v : Nat)) (ev_var (i := 6) rfl))) ?_
            refine s_drop1 (ev_app rfl (ev_var (i := 6) rfl) rfl (by rw [rowL_len]; omega)) ?_
            refine kk _ ⟨spot + 1, fuel, found ++ [v], .val (.int (spot : Nat)), .val (.int (v : Nat)), rfl, by omega, by omega, ?_, ?_, by omega, ?_, ?_⟩
            · rw [List.length_append, List.length_singleton]; omega
            · rw [List.length_append, List.length_singleton]; omega
            · rw [if_pos hc] at h6
              rw [← h6]; simp only [hw', hv]
            · show (⟨_, _⟩ : S) = _
              unfold ownN sF
              rw [List.map_append]; rfl
    · obtain ⟨spot, fuel, found, c5, c6, hl, h1, h2, h3, h4, h5, h6, rfl⟩ := I
      rw [rng2_drop _ _ (by omega)] at hl
      cases hl
  refine s_for (iv_range2 (av_cons (ev_c (d := .int 1)) (av_1 ea)) (by omega)) ?_
  rw [show (((ws.length + 1 : Nat) : Int) - 1).toNat = ws.length by omega]
  exact main _ _ ⟨1, ws.length + 2, [], c5, c6, rfl, by omega, hl1, rfl, Nat.zero_le _, by omega, rfl, rfl⟩
end
/-- what is left to be told, from the second line on -/
def restD (wss : List (List Str)) (m k : Nat) (cs : List (List Nat)) : D := match fieldL wss m k cs with
  | .error (i, j) => .tup [.int (i : Nat), .int (j : Nat)]
  | .ok (_, k') => if k' < wss.length then .tup [.int (k' : Nat), .int ((0 : Nat) : Int)] else .non
theorem badD_eq {wss : List (List Str)} {cs : List (List Nat)} {m k : Nat} (h : fieldF wss = fieldL wss m k cs) : badD wss = restD wss m k cs := by
  unfold badD readF restD
  rw [h]
  cases fieldL wss m k cs with
  | error e => rfl
  | ok p =>
    obtain ⟨c, k'⟩ := p
    show (match (if k' < wss.length then Except.error (k', 0) else Except.ok c) with | Except.error (i, j) => _ | Except.ok _ => _) = _
    by_cases hk : k' < wss.length
    · simp only [if_pos hk]
    · simp only [if_neg hk]
theorem enum_get (l : List D) (k : Nat) : ∀ j, enumD j l = [] ∨ True := fun _ => .inr trivial
theorem law_fb_bad : Law sp_fb_bad w__law_fb_bad n__law_fb_bad := by
  rintro ds n Qd Qe ⟨wss, rfl, hp, q⟩
  rw [fb_is]
  show wSeq _ _ _ _ ⟨[.val (pageD wss), .unb, .unb, .unb, .unb, .unb, .unb], n⟩
  refine s_asg ev_c ?_
  have main : ∀ (l : List D) (s : S), (∃ (k : Nat) (wide : Option Nat) (cs : List (List Nat)) (c2 c3 c4 c5 c6 : Cell), l = enumD k ((wss.drop k).map fun ws => .lst (txs ws)) ∧ k ≤ wss.length ∧ cs.length = k ∧ k ≤ 6 ∧
      (∀ w, wide = some w → 1 ≤ w ∧ w ≤ 6) ∧ ((k = 0 ∧ wide = none) ∨ (1 ≤ k ∧ wide = some (cs.headD []).length ∧ badD wss = restD wss (wss.length + 1 - k) k cs)) ∧ s = ⟨[.val (pageD wss), .val (optN wide), c2, c3, c4, c5, c6], n⟩) →
      wForL (wgTup 2 (wgCons (wgName 2) (wgCons (wgName 3) wgNil))) (wSeq (wIfS (wOr (wT (wOp (fEq false) (wVar 2) (wC (.int 6)))) (wT (wOp (fEq true) (wOp fIx (wVar 3) (wC (.int 0))) (wC (.str "corner"))))) (wRet (wTup (wCons (wVar 2) (wCons (wC (.int 0)) wNil)))) wNext) wInner) Qe
        { (⟨fun s1 => Qd .non s1.n, Qd, fun _ => False, fun _ => False⟩ : DEnds) with nx := fun s => wRet (wC .non) Qe ⟨fun s1 => Qd .non s1.n, Qd, fun _ => False, fun _ => False⟩ s } l s := by
    refine for_inv _ (fun d ds s I R kk => ?_) (fun s I => ?_)
    · obtain ⟨k, wide, cs, c2, c3, c4, c5, c6, hl, h1, h2, h3, h4, h5, rfl⟩ := I
      cases hdr : wss.drop k with
      | nil => rw [hdr] at hl; cases hl
      | cons ws rest =>
        rw [hdr, List.map_cons, enum_cons] at hl
        cases hl
        have hlt : k < wss.length := by
          have := congrArg List.length hdr
          simp at this; omega
        have hget : wss[k]? = some ws := by
          have := congrArg (·[0]?) hdr
          simpa using this
        have hrest : rest = wss.drop (k + 1) := by
          have := congrArg List.tail hdr
          simpa using this.symm
        have hok := hp.2.2 ws (List.mem_of_getElem? hget)
        refine wg_two ?_
        show wSeq _ _ Qe _ (sF n (pageD wss) wide k ws c4 c5 c6)
        have h0 : ∃ w0, ws[0]? = some w0 := by
          cases ws with
          | nil => exact absurd rfl hok.1
          | cons x y => exact ⟨x, rfl⟩
        obtain ⟨w0, hw0⟩ := h0
        have e0 : (wss[k]?.bind fun ws => ws[0]?) = some w0 := by rw [hget]; exact hw0
        have t := tv_or (tv_T (ev_op (ev_var (i := 2) (Qe := Qe) (s := sF n (pageD wss) wide k ws c4 c5 c6) rfl) (ev_c (d := .int 6)) f_eqI)) fun _ => tv_T (ev_op (ev_op (z := .str w0) (ev_var (i := 3) rfl) ev_c (f_ix (i := 0) (.inl rfl) (by unfold txs; rw [List.getElem?_map, hw0]; rfl))) (ev_c (d := .str "corner")) f_neS)
        by_cases hc : w0 = ("corner" : Str) ∧ cs.length < 6
        · refine s_skip (tv_is t ?_) ?_
          · rw [decide_eq_true hc.1]
            rw [decide_eq_false (by omega)]; rfl
          · have go : ∀ {least most : Nat}, least = wide.getD 1 → most = wide.getD 6 → least ≤ most → most ≤ 6 → 1 ≤ least → (∀ j : Nat, cornerF ws least most = .error j → badD wss = .tup [.int (k : Nat), .int (j : Nat)]) →
                (∀ f, cornerF ws least most = .ok f → (cs ++ [f]).headD [] = (if k = 0 then f else cs.headD []) ∧ badD wss = restD wss (wss.length + 1 - (k + 1)) (k + 1) (cs ++ [f]) ∧ f.length = ((cs ++ [f]).headD []).length) →
                wInner Qe { (⟨fun s1 => Qd .non s1.n, Qd, fun _ => False, fun _ => False⟩ : DEnds) with nx := R, ct := R, bk := fun s => wRet (wC .non) Qe ⟨fun s1 => Qd .non s1.n, Qd, fun _ => False, fun _ => False⟩ s } (sF n (pageD wss) wide k ws c4 c5 c6) := fun e1 e2 h1l h6 h11 he ho => by
              refine fb_inner hok h4 e1 e2 (fun j hj => ?_) fun f hf c4 c5 c6 => ?_
              · show Qd _ n
                rw [← he j hj]; exact q
              · obtain ⟨g1, g2, g3⟩ := ho f hf
                obtain ⟨_, hf1, hf2, hfo⟩ := cornerF_ok hf h1l
                refine kk _ ⟨k + 1, some f.length, cs ++ [f], _, _, _, _, _, by rw [hrest], hlt, by simp [h2], by omega, fun w hw => by cases hw; omega, .inr ⟨by omega, by rw [← g3], g2⟩, rfl⟩
            rcases h5 with ⟨hk, hwn⟩ | ⟨hk, hws, hb⟩
            · subst hk hwn
              have hcs : cs = [] := List.length_eq_zero_iff.mp h2
              subst hcs
              obtain ⟨tl, rfl⟩ : ∃ tl, wss = ws :: tl := by
                cases wss with
                | nil => cases hget
                | cons x tl => cases hget; exact ⟨tl, rfl⟩
              have hF : fieldF (ws :: tl) = match cornerF ws 1 6 with
                  | .error j => .error (0, j)
                  | .ok f => fieldL (ws :: tl) (ws :: tl).length 1 [f] := by
                refine (if_pos (by rw [hw0, hc.1])).trans ?_
                rfl
              refine go rfl rfl (by decide) (by decide) (by decide) (fun j hj => ?_) fun f hf => ⟨rfl, ?_, rfl⟩
              · rw [show cornerF ws 1 6 = .error j from hj] at hF
                unfold badD readF; rw [hF]
              · rw [show cornerF ws 1 6 = .ok f from hf] at hF
                exact badD_eq hF
            · have hne : cs ≠ [] := fun z => by rw [z] at h2; simp at h2; omega
              obtain ⟨r0, tl, hcs⟩ : ∃ r0 tl, cs = r0 :: tl := by
                cases cs with
                | nil => exact absurd rfl hne
                | cons x y => exact ⟨x, y, rfl⟩
              have hhd : ∀ f, (cs ++ [f]).headD [] = cs.headD [] := fun f => by rw [hcs]; rfl
              have hww := h4 _ hws
              obtain ⟨m, hm⟩ : ∃ m, wss.length + 1 - k = m + 1 := ⟨wss.length - k, by omega⟩
              have hgd : wss.getD k [] = ws := by rw [List.getD_eq_getElem?_getD, hget]; rfl
              have hL : restD wss (m + 1) k cs = match (match cornerF ws (cs.headD []).length (cs.headD []).length with
                  | .error j => .error (k, j)
                  | .ok f => fieldL wss m (k + 1) (cs ++ [f]) : Except (Nat × Nat) (List (List Nat) × Nat)) with
                  | .error (i, j) => .tup [.int (i : Nat), .int (j : Nat)]
                  | .ok (_, k') => if k' < wss.length then .tup [.int (k' : Nat), .int ((0 : Nat) : Int)] else .non := by
                unfold restD
                rw [fieldL, e0, if_pos ⟨by rw [hc.1], hc.2⟩, hgd]
                all_goals rfl
              rw [hm] at hb
              subst hws
              refine go rfl rfl (Nat.le_refl _) hww.2 hww.1 (fun j hj => ?_) fun f hf => ⟨?_, ?_, ?_⟩
              · rw [hb, hL, show cornerF ws (cs.headD []).length (cs.headD []).length = .error j from hj]
              · rw [hhd, if_neg (by omega)]
              · rw [hb, hL, show cornerF ws (cs.headD []).length (cs.headD []).length = .ok f from hf, show wss.length + 1 - (k + 1) = m by omega]; rfl
              · rw [hhd]
                have := cornerF_ok (show cornerF ws (cs.headD []).length (cs.headD []).length = .ok f from hf) (Nat.le_refl _)
                omega
        · refine s_ifT (tv_is t ?_) (s_ret (ev_tup (av_cons (ev_var (i := 2) rfl) (av_1 ev_c)) (by show 2 ≤ 100000; decide)) ?_)
          · rw [Bool.or_eq_true, decide_eq_true_iff, Bool.not_eq_true', decide_eq_false_iff_not]
            by_cases hx : w0 = ("corner" : Str)
            · exact .inl (by have : ¬ cs.length < 6 := fun h => hc ⟨hx, h⟩; omega)
            · exact .inr hx
          · have : badD wss = .tup [.int (k : Nat), .int ((0 : Nat) : Int)] := by
              rcases h5 with ⟨hk, hwn⟩ | ⟨hk, hws, hb⟩
              · subst hk
                have hx : w0 ≠ ("corner" : Str) := fun h => hc ⟨h, by omega⟩
                cases wss with
                | nil => cases hget
                | cons x tl =>
                  cases hget
                  unfold badD readF
                  rw [show fieldF (ws :: tl) = .error (0, 0) from if_neg (by rw [hw0]; exact fun z => hx (Option.some.inj z))]
              · obtain ⟨m, hm⟩ : ∃ m, wss.length + 1 - k = m + 1 := ⟨wss.length - k, by omega⟩
                rw [hb, hm]
                unfold restD
                rw [fieldL, e0, if_neg (fun z => hc ⟨Option.some.inj z.1, z.2⟩)]
                show (if k < wss.length then _ else _) = _
                rw [if_pos hlt]
            show Qd (.tup [.int (k : Nat), .int 0]) n
            rw [this] at q; exact q
    · obtain ⟨k, wide, cs, c2, c3, c4, c5, c6, hl, h1, h2, h3, h4, h5, rfl⟩ := I
      have hk : k = wss.length := by
        cases hdr : wss.drop k with
        | nil => have := congrArg List.length hdr; simp at this; omega
        | cons x T' => rw [hdr] at hl; cases hl
      show Qd .non n
      rcases h5 with ⟨hk0, _⟩ | ⟨hk1, hws, hb⟩
      · exact absurd (List.length_eq_zero_iff.mp (by omega : wss.length = 0)) hp.1
      · have : badD wss = .non := by
          rw [hb, show wss.length + 1 - k = 0 + 1 by omega]
          unfold restD
          rw [fieldL]
          have e0 : (wss[k]?.bind fun ws => ws[0]?) = none := by rw [List.getElem?_eq_none (by omega)]; rfl
          rw [e0, if_neg (fun z => nomatch z.1)]
          show (if k < wss.length then _ else _) = _
          rw [if_neg (by omega)]
        rw [this] at q; exact q
  show wSeq _ _ _ _ ⟨[.val (pageD wss), .val .non, .unb, .unb, .unb, .unb, .unb], n⟩
  refine s_for (iv_enum (av_1 (ev_var (i := 0) (d := pageD wss) rfl)) (.inl rfl)) ?_
  exact main _ _ ⟨0, none, [], .unb, .unb, .unb, .unb, .unb, rfl, Nat.zero_le _, rfl, by omega, fun w h => (by cases h), .inl ⟨rfl, rfl⟩, rfl⟩
end K78
set_option Elab.async false
set_option linter.all false
set_option maxRecDepth 100000
set_option maxHeartbeats 4000000
namespace K78
open PySem L2 Evl DL
/-! ### a page's text tells its words -/
def joinL (c : Nat) : List (List Nat) → List Nat
  | [] => []
  | [p] => p
  | p :: q :: r => p ++ c :: joinL c (q :: r)
def cutL (c : Nat) : List Nat → List (List Nat)
  | [] => [[]]
  | x :: r => if x = c then [] :: cutL c r else match cutL c r with
    | [] => [[x]]
    | p :: ps => (x :: p) :: ps
theorem cut_one {c : Nat} : ∀ {p : List Nat}, c ∉ p → cutL c p = [p]
  | [], _ => rfl
  | x :: p, h => by
    rw [List.mem_cons, not_or] at h
    rw [cutL, if_neg (Ne.symm h.1), cut_one h.2]
theorem cut_app {c : Nat} {r : List Nat} : ∀ {p : List Nat}, c ∉ p → cutL c (p ++ c :: r) = p :: cutL c r
  | [], _ => by rw [List.nil_append, cutL, if_pos rfl]
  | x :: p, h => by
    rw [List.mem_cons, not_or] at h
    rw [List.cons_append, cutL, if_neg (Ne.symm h.1), cut_app h.2]
theorem cut_join {c : Nat} : ∀ {l : List (List Nat)}, l ≠ [] → (∀ p ∈ l, c ∉ p) → cutL c (joinL c l) = l
  | [], h, _ => absurd rfl h
  | [p], _, h => cut_one (h p (List.mem_singleton.mpr rfl))
  | p :: q :: r, _, h => by
    rw [joinL, cut_app (h p (List.mem_cons_self ..)), cut_join (by simp) fun x hx => h x (List.mem_cons_of_mem _ hx)]
def codes (w : Str) : List Nat := w.cps.toList
theorem codes_inj {a b : Str} (h : codes a = codes b) : a = b := by
  cases a; cases b
  unfold codes at h
  have := Array.toList_inj.mp h
  simp only at this
  rw [this]
theorem codes_join (c : Nat) : ∀ l : List Str, codes (Str.join ⟨#[c]⟩ l) = joinL c (l.map codes)
  | [] => rfl
  | [x] => rfl
  | x :: y :: r => by
    have ih := codes_join c (y :: r)
    show (x.cps ++ #[c] ++ (Str.join ⟨#[c]⟩ (y :: r)).cps).toList = _
    rw [Array.toList_append, Array.toList_append]
    show (codes x ++ [c]) ++ codes (Str.join ⟨#[c]⟩ (y :: r)) = _
    rw [ih, List.append_assoc]; rfl
theorem map_inj {l m : List Str} (h : l.map codes = m.map codes) : l = m := by
  induction l generalizing m with
  | nil => cases m with
    | nil => rfl
    | cons x y => cases h
  | cons x l ih => cases m with
    | nil => cases h
    | cons y m =>
      rw [List.map_cons, List.map_cons] at h
      injection h with h1 h2
      rw [codes_inj h1, ih h2]
theorem split_join {c : Nat} {l : List Str} (hn : l ≠ []) (hf : ∀ p ∈ l, c ∉ codes p) : Txt.split (Txt.join ⟨#[c]⟩ l) ⟨#[c]⟩ = l := by
  have e : Txt.join ⟨#[c]⟩ l = Str.join ⟨#[c]⟩ l := StrLaws.glued_eq_join _ l
  rw [e]
  refine map_inj ?_
  have h1 := cut_join (c := c) (l := (Txt.split (Str.join ⟨#[c]⟩ l) ⟨#[c]⟩).map codes) (by simp; exact split_ne) fun p hp => by
    obtain ⟨q, hq, rfl⟩ := List.mem_map.mp hp
    exact StrLaws.split_free _ c q hq
  have h2 := cut_join (c := c) (l := l.map codes) (by simpa using hn) fun p hp => by
    obtain ⟨q, hq, rfl⟩ := List.mem_map.mp hp
    exact hf q hq
  rw [← codes_join, StrLaws.join_split] at h1
  rw [← codes_join] at h2
  exact h1.symm.trans h2
theorem mem_joinL {c d : Nat} (hd : d ≠ c) : ∀ {l : List (List Nat)}, (∀ p ∈ l, d ∉ p) → d ∉ joinL c l
  | [], _ => by simp [joinL]
  | [p], h => h p (List.mem_singleton.mpr rfl)
  | p :: q :: r, h => by
    rw [joinL, List.mem_append, List.mem_cons, not_or, not_or]
    exact ⟨h p (List.mem_cons_self ..), hd, mem_joinL hd fun x hx => h x (List.mem_cons_of_mem _ hx)⟩
theorem nl_is : ("\n" : Str) = ⟨#[10]⟩ := by decide +kernel
theorem sp_is : (" " : Str) = ⟨#[32]⟩ := by decide +kernel
theorem words_joined {wss : List (List Str)} (h : PageOk wss) : wordsOf (joined wss) = wss := by
  unfold wordsOf joined
  rw [nl_is, sp_is]
  rw [split_join (by simpa using h.1) fun p hp => ?_]
  · rw [List.map_map]
    have : ∀ ws ∈ wss, ((fun l => Txt.split l ⟨#[32]⟩) ∘ Txt.join ⟨#[32]⟩) ws = id ws := fun ws hws => split_join (h.2.2 ws hws).1 fun w hw => ((h.2.2 ws hws).2.2 w hw).2.1
    rw [List.map_congr_left this, List.map_id]
  · obtain ⟨ws, hws, rfl⟩ := List.mem_map.mp hp
    rw [show Txt.join ⟨#[32]⟩ ws = Str.join ⟨#[32]⟩ ws from StrLaws.glued_eq_join _ ws, codes_join]
    refine mem_joinL (by decide) fun q hq => ?_
    obtain ⟨w, hw, rfl⟩ := List.mem_map.mp hq
    exact ((h.2.2 ws hws).2.2 w hw).2.2
end K78
set_option Elab.async false
set_option linter.all false
set_option maxRecDepth 100000
set_option maxHeartbeats 4000000
namespace K78
open PySem L2 Evl DL
abbrev s_law : Stmt := top 51
def n_law : List Str := ["script", "pen", "turn", "wide", "lines", "lap", "at", "way", "line", "spot", "text", "bad", "heard", "word", "odd"]
theorem sc_law : FnScope n_law ["script"] (defScope s_law) := ⟨rfl, rfl, rfl, by decide +kernel, rfl, by decide +kernel, by decide +kernel⟩
abbrev LX (P : Program) (w : World) (K : PySem.W.Frag) (mg : Str → Option Value) (base : Heap) (fa : Addr) (cdv : Value) (s : Shared) (H : Hp) : Cx := (cxOf C8.CX0 P w K mg base n_law "law" (defScope s_law) fa cdv callerA [] s H C8.E0).nox
theorem room_c : Room 41 callerA := ⟨rfl, by decide +kernel, by decide +kernel⟩
theorem room_lx {P : Program} {w : World} {K : PySem.W.Frag} {mg : Str → Option Value} {base : Heap} {fa : Addr} {cdv : Value} {s : Shared} {H : Hp} : Room 40 (LX P w K mg base fa cdv s H).A := room_c.deeper _
end K78
set_option Elab.async false
set_option linter.all false
set_option maxRecDepth 100000
set_option maxHeartbeats 4000000
namespace K78
open PySem L2 Evl DL LamX LamD
/-! ### law -/
def w_law (T : List (Addr × Str)) (Wd : Addr → Option Str) (Tx Tm : Addr → Prop) (CFi CF CT CLi CLs : Addr) : WS :=
    (wSeq (wFor (wRangeI (wCons (wC (.int 24)) wNil)) (wgName 2) (wSeq (wAsg (wOp fAdd (wC (.int 1)) (wCall sp_draw (wCons (wVar 1) (wCons (wC (.int 6)) wNil)))) (wgName 3))
    (wSeq (wAsg (wNewL (wLst wNil)) (wgName 4))
    (wSeq (wFor (wRangeI (wCons (wOp fAdd (wC (.int 1)) (wCall sp_draw (wCons (wVar 1) (wCons (wC (.int 6)) wNil)))) wNil)) (wgName 5) (wDrop (wAppL (wVar 4) (wNewL (wCatF (wGive (wLst (wCons (wC (.str "corner")) wNil))) (wGive (wLc [6] (wRangeI (wCons (wVar 3) wNil)) (wgName 6) wTrue (wCB gStrI (wCons (wCall sp_pick (wCons (wVar 1) (wCons (wGive (wLst (wCons (wC (.int 0)) (wCons (wC (.int 0)) (wCons (wC (.int 1)) (wCons (wOp (fInt CPow fun i j => .int (i ^ j.toNat)) (wC (.int 10)) (wC (.int 6))) (wCons (wC (.int 25)) wNil))))))) wNil))) wNil)))))))))
    (wSeq (wFor (wRangeI (wCons (wCall sp_draw (wCons (wVar 1) (wCons (wC (.int 3)) wNil))) wNil)) (wgName 5) (wSeq (wParVV 6 7 (wCall sp_draw (wCons (wVar 1) (wCons (wLenU (wVar 4)) wNil))) (wCall sp_draw (wCons (wVar 1) (wCons (wC (.int 8)) wNil))))
    (wSeq (wAsg (wIxU (wVar 4) (wVar 6)) (wgName 8))
    (wSeq (wAsg (wCall sp_draw (wCons (wVar 1) (wCons (wLenU (wVar 8)) wNil))) (wgName 9))
    (wIfS (wT (wOp (fEq false) (wVar 7) (wC (.int 0)))) (wAsg (wCall sp_pick (wCons (wVar 1) (wCons (wGive (wLst (wCons (wCall sp_no_word (wCons (wVar 1) wNil)) (wCons (wC (.str "corner")) (wCons (wC (.str "goal")) (wCons (wC (.str "1000001")) (wCons (wC (.str "1000000")) (wCons (wC (.str "0")) wNil)))))))) wNil))) (wgSubL (wVar 8) (wVar 9))) (wIfS (wAnd (wT (wOp (fEq false) (wVar 7) (wC (.int 1)))) (wT (wOp fGt (wLenU (wVar 8)) (wC (.int 1))))) (wDrop (wPopAtL (wVar 8) (wVar 9))) (wIfS (wT (wOp (fEq false) (wVar 7) (wC (.int 2)))) (wDrop (wInsL (wVar 8) (wVar 9) (wCall sp_pick (wCons (wVar 1) (wCons (wGive (wLst (wCons (wC (.str "1")) (wCons (wC (.str "0")) (wCons (wCall sp_no_word (wCons (wVar 1) wNil)) wNil))))) wNil))))) (wIfS (wT (wOp (fEq false) (wVar 7) (wC (.int 3)))) (wDrop (wInsL (wVar 4) (wVar 6) (wNewL (wLstOfU (wVar 8))))) (wIfS (wAnd (wT (wOp (fEq false) (wVar 7) (wC (.int 4)))) (wT (wOp fGt (wLenU (wVar 4)) (wC (.int 1))))) (wDrop (wPopAtL (wVar 4) (wVar 6))) (wIfS (wT (wOp (fEq false) (wVar 7) (wC (.int 5)))) (wDrop (wAppL (wVar 8) (wCall sp_pick (wCons (wVar 1) (wCons (wGive (wLst (wCons (wC (.str "0")) (wCons (wC (.str "3")) (wCons (wC (.str "")) wNil))))) wNil))))) (wIfS (wT (wOp (fEq false) (wVar 7) (wC (.int 6)))) (wDrop (wInsL (wVar 4) (wVar 6) (wCall sp_pick (wCons (wVar 1) (wCons (wGive (wLst (wCons (wNewL (wLst (wCons (wC (.str "")) wNil))) (wCons (wNewL (wLst (wCons (wC (.str "corner")) wNil))) (wCons (wNewL (wCatF (wGive (wLst (wCons (wC (.str "corner")) wNil))) (wOp fRep (wGive (wLst (wCons (wC (.str "0")) wNil))) (wVar 3)))) (wCons (wNewL (wLst (wCons (wC (.str "corner")) (wCons (wC (.str "0")) wNil)))) (wCons (wNewL (wLst (wCons (wC (.str "price")) (wCons (wC (.str "a")) (wCons (wC (.str "1")) wNil))))) wNil))))))) wNil))))) (wAsg (wNewL (wCatF (wGive (wLst (wCons (wC (.str "corner")) wNil))) (wOp fRep (wGive (wLst (wCons (wC (.str "0")) wNil))) (wLenU (wVar 8))))) (wgSubL (wVar 4) (wVar 6))))))))))))))
    (wFrz2 4 (wSeq (wAsg (wTup (wCons (wCall sp_tx_joined (wCons (wVar 4) wNil)) (wCons (wCall sp_fb_bad (wCons (wVar 4) wNil)) wNil))) (wgTup 2 (wgCons (wgName 10) (wgCons (wgName 11) wgNil))))
    (wSeq (wAsg (wHear T Wd Tx Tm (wCall (sp_read_field CLi CLs CFi CT) (wCons (wVar 10) wNil))) (wgName 12))
    (wIfS (wT (wIsN true (wVar 11))) (wIfS (wT (wOp (fEq true) (wVar 12) (wOp fAdd (wTup (wCons (wC (.str "text")) wNil)) (wVar 11)))) (wRet (wC (.bl false))) wNext) (wIfS (wOr (wNot (wT (wIsi (isT "list") (wVar 12)))) (wT (wOp (fEq true) (wFldU CFi "corners" (wOp fIx (wVar 12) (wC (.int 0)))) (wTupOf (wGive (wLc [8] (wSeqI (wVar 4)) (wgName 8) wTrue (wTupOf (wGive (wLc [13] (wSeqI (wSl (wVar 8) (wPart (wC (.int 1))) wNoPart)) (wgName 13) wTrue (wCB gIntS (wCons (wVar 13) wNil))))))))))) (wRet (wC (.bl false))) wNext))))))))))
    (wSeq (wAsg (wGive (wLst (wCons (wHear T Wd Tx Tm (wCall (sp_read_field CLi CLs CFi CT) (wCons (wC (.str "")) wNil))) (wCons (wHear T Wd Tx Tm (wCall (sp_read_field CLi CLs CFi CT) (wCons (wC (.str "corner 0 0")) wNil))) (wCons (wHear T Wd Tx Tm (wCall (sp_read_field CLi CLs CFi CT) (wCons (wC (.str "corner 1 0\ncorner 0")) wNil))) wNil))))) (wgName 12))
    (wSeq (wAsg (wOp fAdd (wVar 12) (wGive (wLst (wCons (wHear T Wd Tx Tm (wCall (sp_read_field CLi CLs CFi CT) (wCons (wC (.str "corner 1\n")) wNil))) (wCons (wHear T Wd Tx Tm (wCall (sp_read_field CLi CLs CFi CT) (wCons (wC (.str "corner 0 0 0 0 0 0 7")) wNil))) (wCons (wHear T Wd Tx Tm (wCall (sp_read_field CLi CLs CFi CT) (wCons (wC (.str "corner 1 2\ncorner 0 0 5")) wNil))) wNil)))))) (wgName 12))
    (wSeq (wIfS (wT (wOp (fEq true) (wVar 12) (wGive (wLst (wCons (wTup (wCons (wC (.str "text")) (wCons (wC (.int 0)) (wCons (wC (.int 0)) wNil)))) (wCons (wTup (wCons (wC (.str "text")) (wCons (wC (.int 0)) (wCons (wC (.int 2)) wNil)))) (wCons (wTup (wCons (wC (.str "text")) (wCons (wC (.int 1)) (wCons (wC (.int 2)) wNil)))) (wCons (wTup (wCons (wC (.str "text")) (wCons (wC (.int 1)) (wCons (wC (.int 0)) wNil)))) (wCons (wTup (wCons (wC (.str "text")) (wCons (wC (.int 0)) (wCons (wC (.int 6)) wNil)))) (wCons (wTup (wCons (wC (.str "text")) (wCons (wC (.int 1)) (wCons (wC (.int 2)) wNil)))) wNil)))))))))) (wRet (wC (.bl false))) wNext)
    (wSeq (wAsg (wCall sp_pick (wCons (wVar 1) (wCons (wGive (wLst (wCons (wC .non) (wCons (wTup wNil) (wCons (wC (.int 5)) (wCons (wC (.str "ab")) (wCons (wTup (wCons (wTup (wCons (wC (.int 0)) (wCons (wC (.int 0)) wNil))) wNil)) (wCons (wTup (wCons (wTup (wCons (wC (.int 1)) (wCons (wC (.int 2)) wNil))) (wCons (wTup (wCons (wC (.int 1)) wNil)) wNil))) (wCons (wOp fRepT (wTup (wCons (wTup (wCons (wC (.int 1)) wNil)) wNil)) (wC (.int 7))) (wCons (wTup (wCons (wOp fRepT (wTup (wCons (wC (.int 1)) wNil)) (wC (.int 7))) wNil)) (wCons (wTup (wCons (wTup (wCons (wC (.int (-1))) (wCons (wC (.int 2)) wNil))) wNil)) (wCons (wTup (wCons (wTup (wCons (wC (.bl true)) (wCons (wC (.int 1)) wNil))) wNil)) (wCons (wTup (wCons (wTup (wCons (wOp fAdd (wOp (fInt CPow fun i j => .int (i ^ j.toNat)) (wC (.int 10)) (wC (.int 6))) (wC (.int 1))) wNil)) wNil)) (wCons (wTup (wCons (wTup wNil) wNil)) (wCons (wC (.dct [] [])) (wCons (wTup (wCons (wC (.int 5)) wNil)) (wCons (wTup (wCons (wTup (wCons (wC (.str "1")) wNil)) wNil)) (wCons (wTup (wCons (wTup (wCons (wC (.int 1)) wNil)) (wCons (wC .non) wNil))) wNil)))))))))))))))))) wNil))) (wgName 14))
    (wRet (wAndV (wOp (fEq false) (wHear T Wd Tx Tm (wFrzO (wMakeD CFi (sp_finit CFi CF) [] (wCons (wVar 14) wNil)))) (wTup (wCons (wC (.str "field")) (wCons (wC (.str "corners")) wNil)))) (wOp (fEq false) (wFldU CFi "width" (wFrzO (wMakeD CFi (sp_finit CFi CF) [] (wCons (wOp fRep (wGive (wLst (wCons (wOp fRep (wGive (wLst (wCons (wOp (fInt CPow fun i j => .int (i ^ j.toNat)) (wC (.int 10)) (wC (.int 6))) wNil))) (wC (.int 6))) wNil))) (wC (.int 6))) wNil)))) (wC (.int 6))))))))))
theorem dss_law {P : Program} {w : World} {K : PySem.W.Frag} {mg : Str → Option Value} {base : Heap} {fa : Addr} {cdv : Value} {s : Shared} {H : Hp} {T : List (Addr × Str)} {Wd : Addr → Option Str} {Tx Tm : Addr → Prop} {CFi CF CT CLi CLs : Addr} (B : Bl mg) (HR : HearX (LX P w K mg base fa cdv s H) T Wd Tx Tm) (cl_Field : Cls K CFi) (nField_corners : NoAttr K CFi "corners") (nField_width : NoAttr K CFi "width") (mk_Field : CalI P w K mg base 5 "Field" CFi ["self", "corners"] [] (sp_finit CFi CF)) (q__law_draw : CalF P w K mg base 1 "_law_draw" ["pen", "many"] sp_draw) (q__law_pick : CalF P w K mg base 2 "_law_pick" ["pen", "some"] sp_pick) (q__law_no_word : CalF P w K mg base 3 "_law_no_word" ["pen"] sp_no_word) (q__law_tx_joined : CalF P w K mg base 1 "_law_tx_joined" ["lines"] sp_tx_joined) (q__law_fb_bad : CalF P w K mg base 2 "_law_fb_bad" ["lines"] sp_fb_bad) (q_read_field : CalF P w K mg base 8 "read_field" ["text"] (sp_read_field CLi CLs CFi CT)) :
    DSs (LX P w K mg base fa cdv s H) E0 (defBody s_law).tail (w_law T Wd Tx Tm CFi CF CT CLi CLs) := by
  obtain ⟨f__law_draw, fd__law_draw, F__law_draw, m__law_draw, k__law_draw, b__law_draw⟩ := q__law_draw.ex
  obtain ⟨f__law_pick, fd__law_pick, F__law_pick, m__law_pick, k__law_pick, b__law_pick⟩ := q__law_pick.ex
  obtain ⟨f__law_no_word, fd__law_no_word, F__law_no_word, m__law_no_word, k__law_no_word, b__law_no_word⟩ := q__law_no_word.ex
  obtain ⟨f__law_tx_joined, fd__law_tx_joined, F__law_tx_joined, m__law_tx_joined, k__law_tx_joined, b__law_tx_joined⟩ := q__law_tx_joined.ex
  obtain ⟨f__law_fb_bad, fd__law_fb_bad, F__law_fb_bad, m__law_fb_bad, k__law_fb_bad, b__law_fb_bad⟩ := q__law_fb_bad.ex
  obtain ⟨f_read_field, fd_read_field, F_read_field, m_read_field, k_read_field, b_read_field⟩ := q_read_field.ex
  have hr : Room 40 (LX P w K mg base fa cdv s H).A := room_lx
  have hgd : (LX P w K mg base fa cdv s H).A.guards = some [] := rfl
  have hu : (LX P w K mg base fa cdv s H).A.units + 64 < cLine := hr.units
  have hu0 : (LX P w K mg base fa cdv s H).A.units < cLine := hr.units0
  have hu1 : (LX P w K mg base fa cdv s H).A.units + 65 < cLine := room65 hr
  exact (dss_cons (ds_for PassesOwn.never rfl (di_range (by rfl) B.range (da_cons de_int da_nil)) (dg_name (i := 2) sc_law.nd rfl (by first | exact Or.inl rfl | exact Or.inr rfl)) (dss_cons (ds_set (i := 3) sc_law.nd rfl (by first | exact Or.inl rfl | exact Or.inr rfl) (de_add de_int (de_call F__law_draw (hr.mono (by omega)) (by rfl) m__law_draw k__law_draw b__law_draw passL (da_cons (de_var 1) (da_cons de_int da_nil)))))
      (dss_cons (ds_set (i := 4) sc_law.nd rfl (by first | exact Or.inl rfl | exact Or.inr rfl) (de_newL (df_lst da_nil)))
      (dss_cons (ds_for PassesOwn.never rfl (di_range (by rfl) B.range (da_cons (de_add de_int (de_call F__law_draw (hr.mono (by omega)) (by rfl) m__law_draw k__law_draw b__law_draw passL (da_cons (de_var 1) (da_cons de_int da_nil)))) da_nil)) (dg_name (i := 5) sc_law.nd rfl (by first | exact Or.inl rfl | exact Or.inr rfl)) (dss_one (ds_expr (de_appL (de_var 4) (de_newL (df_cat (de_lst (da_cons de_str da_nil)) (de_give (df_lc (own := [("at", 6)]) (i := 6) rfl sc_law.nd (di_range (by rfl) B.range (da_cons (de_var 3) da_nil)) (blkOk_by (N := n_law) (sc := defScope s_law) (by decide +kernel)) (by decide) (fun _ _ _ _ _ => pg_name (i := 6) sc_law.nd rfl (by first | exact Or.inl rfl | exact Or.inr rfl)) (fun _ _ _ _ _ => dts_nil) (fun _ _ _ _ _ => (de_callTy call_str_int refc_strI (by rfl) B.str bStr (da_cons (de_call F__law_pick (hr.mono (by omega)) (by rfl) m__law_pick k__law_pick b__law_pick passL (da_cons (de_var 1) (da_cons (de_lst (da_cons de_int (da_cons de_int (da_cons de_int (da_cons (de_pow de_int de_int) (da_cons de_int da_nil)))))) da_nil))) da_nil)))))))))))
      (dss_cons (ds_for PassesOwn.never rfl (di_range (by rfl) B.range (da_cons (de_call F__law_draw (hr.mono (by omega)) (by rfl) m__law_draw k__law_draw b__law_draw passL (da_cons (de_var 1) (da_cons de_int da_nil))) da_nil)) (dg_name (i := 5) sc_law.nd rfl (by first | exact Or.inl rfl | exact Or.inr rfl)) (dss_cons (ds_parVV (i := 6) (j := 7) rfl sc_law.nd rfl rfl (by decide) rfl rfl (de_call F__law_draw (hr.mono (by omega)) (by rfl) m__law_draw k__law_draw b__law_draw passL (da_cons (de_var 1) (da_cons (de_lenU (by rfl) B.len (de_var 4)) da_nil))) (de_call F__law_draw (hr.mono (by omega)) (by rfl) m__law_draw k__law_draw b__law_draw passL (da_cons (de_var 1) (da_cons de_int da_nil))))
      (dss_cons (ds_set (i := 8) sc_law.nd rfl (by first | exact Or.inl rfl | exact Or.inr rfl) (de_ixU (de_var 4) (de_var 6)))
      (dss_cons (ds_set (i := 9) sc_law.nd rfl (by first | exact Or.inl rfl | exact Or.inr rfl) (de_call F__law_draw (hr.mono (by omega)) (by rfl) m__law_draw k__law_draw b__law_draw passL (da_cons (de_var 1) (da_cons (de_lenU (by rfl) B.len (de_var 8)) da_nil))))
      (dss_one (ds_if (dt_cmp (op_eqU hu) ref_eq (nomark _) (de_var 7) de_int) (dss_one (ds_asg (de_call F__law_pick (hr.mono (by omega)) (by rfl) m__law_pick k__law_pick b__law_pick passL (da_cons (de_var 1) (da_cons (de_lst (da_cons (de_call F__law_no_word (hr.mono (by omega)) (by rfl) m__law_no_word k__law_no_word b__law_no_word passL (da_cons (de_var 1) da_nil)) (da_cons de_str (da_cons de_str (da_cons de_str (da_cons de_str (da_cons de_str da_nil))))))) da_nil))) (dg_subL (de_var 8) (de_var 9)))) (dss_one (ds_if (dw_and (dt_cmp (op_eqU hu) ref_eq (nomark _) (de_var 7) de_int) (dw_and1 (dt_cmp op_gt ref_gt (nomark _) (de_lenU (by rfl) B.len (de_var 8)) de_int))).dt (dss_one (ds_expr (de_popAtL (de_var 8) (de_var 9)))) (dss_one (ds_if (dt_cmp (op_eqU hu) ref_eq (nomark _) (de_var 7) de_int) (dss_one (ds_expr (de_insL (de_var 8) (de_var 9) (de_call F__law_pick (hr.mono (by omega)) (by rfl) m__law_pick k__law_pick b__law_pick passL (da_cons (de_var 1) (da_cons (de_lst (da_cons de_str (da_cons de_str (da_cons (de_call F__law_no_word (hr.mono (by omega)) (by rfl) m__law_no_word k__law_no_word b__law_no_word passL (da_cons (de_var 1) da_nil)) da_nil)))) da_nil)))))) (dss_one (ds_if (dt_cmp (op_eqU hu) ref_eq (nomark _) (de_var 7) de_int) (dss_one (ds_expr (de_insL (de_var 4) (de_var 6) (de_newL (df_lstOfU (by rfl) B.list (de_var 8)))))) (dss_one (ds_if (dw_and (dt_cmp (op_eqU hu) ref_eq (nomark _) (de_var 7) de_int) (dw_and1 (dt_cmp op_gt ref_gt (nomark _) (de_lenU (by rfl) B.len (de_var 4)) de_int))).dt (dss_one (ds_expr (de_popAtL (de_var 4) (de_var 6)))) (dss_one (ds_if (dt_cmp (op_eqU hu) ref_eq (nomark _) (de_var 7) de_int) (dss_one (ds_expr (de_appL (de_var 8) (de_call F__law_pick (hr.mono (by omega)) (by rfl) m__law_pick k__law_pick b__law_pick passL (da_cons (de_var 1) (da_cons (de_lst (da_cons de_str (da_cons de_str (da_cons de_str da_nil)))) da_nil)))))) (dss_one (ds_if (dt_cmp (op_eqU hu) ref_eq (nomark _) (de_var 7) de_int) (dss_one (ds_expr (de_insL (de_var 4) (de_var 6) (de_call F__law_pick (hr.mono (by omega)) (by rfl) m__law_pick k__law_pick b__law_pick passL (da_cons (de_var 1) (da_cons (de_lst (da_cons (de_newL (df_lst (da_cons de_str da_nil))) (da_cons (de_newL (df_lst (da_cons de_str da_nil))) (da_cons (de_newL (df_cat (de_lst (da_cons de_str da_nil)) (de_op op_rep ref_rep (de_lst (da_cons de_str da_nil)) (de_var 3)))) (da_cons (de_newL (df_lst (da_cons de_str (da_cons de_str da_nil)))) (da_cons (de_newL (df_lst (da_cons de_str (da_cons de_str (da_cons de_str da_nil))))) da_nil)))))) da_nil)))))) (dss_one (ds_asg (de_newL (df_cat (de_lst (da_cons de_str da_nil)) (de_op op_rep ref_rep (de_lst (da_cons de_str da_nil)) (de_lenU (by rfl) B.len (de_var 8))))) (dg_subL (de_var 4) (de_var 6))))))))))))))))))))))
      (dss_frz2 4 (dss_cons (ds_asg (de_tup (da_cons (de_call F__law_tx_joined (hr.mono (by omega)) (by rfl) m__law_tx_joined k__law_tx_joined b__law_tx_joined passL (da_cons (de_var 4) da_nil)) (da_cons (de_call F__law_fb_bad (hr.mono (by omega)) (by rfl) m__law_fb_bad k__law_fb_bad b__law_fb_bad passL (da_cons (de_var 4) da_nil)) da_nil))) (dg_tup rfl (dgs_cons (dg_name (i := 10) sc_law.nd rfl (by first | exact Or.inl rfl | exact Or.inr rfl)) (dgs_cons (dg_name (i := 11) sc_law.nd rfl (by first | exact Or.inl rfl | exact Or.inr rfl)) dgs_nil))))
      (dss_cons (ds_set (i := 12) sc_law.nd rfl (by first | exact Or.inl rfl | exact Or.inr rfl) (de_hear0 HR (lamS_by (show lamSB (defScope s_law) _ = true by decide +kernel)) rfl (fun _ _ _ _ _ => rfl) (fun A outer s1 H1 E f c' hr2 => (de_call F_read_field (hr2.mono (by omega)) (by rfl) m_read_field k_read_field b_read_field (passX rfl rfl rfl rfl) (da_cons (de_var 10) da_nil)))))
      (dss_one (ds_if (dt_notN (de_var 11)) (dss_one (ds_if (dt_cmp (op_neU hu) ref_ne (nomark _) (de_var 12) (de_add (de_tup (da_cons de_str da_nil)) (de_var 11))) (dss_one (ds_ret de_bl)) dss_nil)) (dss_one (ds_if (dw_or (dt_not (dt_val (de_isi (T := "list") (by rfl) B.isi bIsi (de_var 12) (pe_bltn (v := .ty "list") (by rfl) B.list bList rfl) (by decide +kernel)))) (dw_or1 (dt_cmp (op_neU hu) ref_ne (nomark _) (de_fldU cl_Field nField_corners (de_ix (de_var 12) de_int)) (de_tupOf (by rfl) B.tuple (de_give (df_lc (own := [("line", 8)]) (i := 8) rfl sc_law.nd (di_seq (de_var 4)) (blkOk_by (N := n_law) (sc := defScope s_law) (by decide +kernel)) (by decide) (fun _ _ _ _ _ => pg_name (i := 8) sc_law.nd rfl (by first | exact Or.inl rfl | exact Or.inr rfl)) (fun _ _ _ _ _ => dts_nil) (fun _ _ _ _ _ => (de_tupOf (by rfl) B.tuple (de_give (df_lc (own := [("word", 13)]) (i := 13) rfl sc_law.nd (di_seq (de_sl (de_var 8) (do_some de_int) do_none)) (blkOk_nest (N := n_law) (sc := defScope s_law) rfl rfl (by decide +kernel)) (by decide) (fun _ _ _ _ _ => pg_name (i := 13) sc_law.nd rfl (by first | exact Or.inl rfl | exact Or.inr rfl)) (fun _ _ _ _ _ => dts_nil) (fun _ _ _ _ _ => (de_callTy call_int_str refc_intS (by rfl) B.int bInt (da_cons (de_var 13) da_nil))))))))))))).dt (dss_one (ds_ret de_bl)) dss_nil))))))))))))
      (dss_cons (ds_set (i := 12) sc_law.nd rfl (by first | exact Or.inl rfl | exact Or.inr rfl) (de_lst (da_cons (de_hear0 HR (lamS_by (show lamSB (defScope s_law) _ = true by decide +kernel)) rfl (fun _ _ _ _ _ => rfl) (fun A outer s1 H1 E f c' hr2 => (de_call F_read_field (hr2.mono (by omega)) (by rfl) m_read_field k_read_field b_read_field (passX rfl rfl rfl rfl) (da_cons de_str da_nil)))) (da_cons (de_hear1 HR (lamS1_by (show lamS1B n_law (defScope s_law) _ _ = true by decide +kernel)) rfl rfl (fun _ _ _ _ _ _ _ => ⟨_, rfl, fun _ => rfl⟩) (fun A outer s1 H1 E f c' hr2 => (de_call F_read_field (hr2.mono (by omega)) (by rfl) m_read_field k_read_field b_read_field (passX rfl rfl rfl rfl) (da_cons de_str da_nil)))) (da_cons (de_hear1 HR (lamS1_by (show lamS1B n_law (defScope s_law) _ _ = true by decide +kernel)) rfl rfl (fun _ _ _ _ _ _ _ => ⟨_, rfl, fun _ => rfl⟩) (fun A outer s1 H1 E f c' hr2 => (de_call F_read_field (hr2.mono (by omega)) (by rfl) m_read_field k_read_field b_read_field (passX rfl rfl rfl rfl) (da_cons de_str da_nil)))) da_nil)))))
      (dss_cons (ds_set (i := 12) sc_law.nd rfl (by first | exact Or.inl rfl | exact Or.inr rfl) (de_add (de_var 12) (de_lst (da_cons (de_hear0 HR (lamS_by (show lamSB (defScope s_law) _ = true by decide +kernel)) rfl (fun _ _ _ _ _ => rfl) (fun A outer s1 H1 E f c' hr2 => (de_call F_read_field (hr2.mono (by omega)) (by rfl) m_read_field k_read_field b_read_field (passX rfl rfl rfl rfl) (da_cons de_str da_nil)))) (da_cons (de_hear1 HR (lamS1_by (show lamS1B n_law (defScope s_law) _ _ = true by decide +kernel)) rfl rfl (fun _ _ _ _ _ _ _ => ⟨_, rfl, fun _ => rfl⟩) (fun A outer s1 H1 E f c' hr2 => (de_call F_read_field (hr2.mono (by omega)) (by rfl) m_read_field k_read_field b_read_field (passX rfl rfl rfl rfl) (da_cons de_str da_nil)))) (da_cons (de_hear1 HR (lamS1_by (show lamS1B n_law (defScope s_law) _ _ = true by decide +kernel)) rfl rfl (fun _ _ _ _ _ _ _ => ⟨_, rfl, fun _ => rfl⟩) (fun A outer s1 H1 E f c' hr2 => (de_call F_read_field (hr2.mono (by omega)) (by rfl) m_read_field k_read_field b_read_field (passX rfl rfl rfl rfl) (da_cons de_str da_nil)))) da_nil))))))
      (dss_cons (ds_if (dt_cmp (op_neU hu) ref_ne (nomark _) (de_var 12) (de_lst (da_cons (de_tup (da_cons de_str (da_cons de_int (da_cons de_int da_nil)))) (da_cons (de_tup (da_cons de_str (da_cons de_int (da_cons de_int da_nil)))) (da_cons (de_tup (da_cons de_str (da_cons de_int (da_cons de_int da_nil)))) (da_cons (de_tup (da_cons de_str (da_cons de_int (da_cons de_int da_nil)))) (da_cons (de_tup (da_cons de_str (da_cons de_int (da_cons de_int da_nil)))) (da_cons (de_tup (da_cons de_str (da_cons de_int (da_cons de_int da_nil)))) da_nil)))))))) (dss_one (ds_ret de_bl)) dss_nil)
      (dss_cons (ds_set (i := 14) sc_law.nd rfl (by first | exact Or.inl rfl | exact Or.inr rfl) (de_call F__law_pick (hr.mono (by omega)) (by rfl) m__law_pick k__law_pick b__law_pick passL (da_cons (de_var 1) (da_cons (de_lst (da_cons de_non (da_cons (de_tup da_nil) (da_cons de_int (da_cons de_str (da_cons (de_tup (da_cons (de_tup (da_cons de_int (da_cons de_int da_nil))) da_nil)) (da_cons (de_tup (da_cons (de_tup (da_cons de_int (da_cons de_int da_nil))) (da_cons (de_tup (da_cons de_int da_nil)) da_nil))) (da_cons (de_op op_repTU ref_repT (de_tup (da_cons (de_tup (da_cons de_int da_nil)) da_nil)) de_int) (da_cons (de_tup (da_cons (de_op op_repTU ref_repT (de_tup (da_cons de_int da_nil)) de_int) da_nil)) (da_cons (de_tup (da_cons (de_tup (da_cons de_neg (da_cons de_int da_nil))) da_nil)) (da_cons (de_tup (da_cons (de_tup (da_cons de_bl (da_cons de_int da_nil))) da_nil)) (da_cons (de_tup (da_cons (de_tup (da_cons (de_add (de_pow de_int de_int) de_int) da_nil)) da_nil)) (da_cons (de_tup (da_cons (de_tup da_nil) da_nil)) (da_cons de_dct0 (da_cons (de_tup (da_cons de_int da_nil)) (da_cons (de_tup (da_cons (de_tup (da_cons de_str da_nil)) da_nil)) (da_cons (de_tup (da_cons (de_tup (da_cons de_int da_nil)) (da_cons de_non da_nil))) da_nil))))))))))))))))) da_nil))))
      (dss_one (ds_ret (de_and (de_cmp (op_eqU hu) ref_eq (nomark _) (de_hear0 HR (lamS_by (show lamSB (defScope s_law) _ = true by decide +kernel)) rfl (fun _ _ _ _ _ => rfl) (fun A outer s1 H1 E f c' hr2 => (de_frzO (de_new mk_Field (fun _ _ => .nil) (hr2.mono (by omega)) (by rfl) (passX rfl rfl rfl rfl) (da_cons (de_var 14) da_nil))))) (de_tup (da_cons de_str (da_cons de_str da_nil)))) (de_one (de_cmp (op_eqU hu) ref_eq (nomark _) (de_fldU cl_Field nField_width (de_frzO (de_new mk_Field (fun _ _ => .nil) (hr.mono (by omega)) (by rfl) passL (da_cons (de_op op_rep ref_rep (de_lst (da_cons (de_op op_rep ref_rep (de_lst (da_cons (de_pow de_int de_int) da_nil)) de_int) da_nil)) de_int) da_nil)))) de_int))))))))))
end K78
set_option Elab.async false
set_option linter.all false
set_option maxRecDepth 100000
set_option maxHeartbeats 4000000
namespace K78
open PySem L2 Evl DL
/-! ### the page that is drawn, in the store -/
structure PageS (st : Sto) (a : Addr) (as : List Addr) (c b : Nat) : Prop where
  ob : st a = some (.lst (as.map .loc))
  na : a ∉ as
  ne : as ≠ []
  len : as.length ≤ c
  ln : ∀ x ∈ as, ∃ ws, LineOk b ws ∧ st x = some (.lst (txs ws))
theorem LineOk.mono {b c : Nat} {ws : List Str} (h : LineOk b ws) (hc : b ≤ c) : LineOk c ws := ⟨h.1, Nat.le_trans h.2.1 hc, h.2.2⟩
section
variable {st : Sto} {a x y : Addr} {as : List Addr} {c b b' : Nat} {ws : List Str} {o : SO}
theorem PageS.mono (h : PageS st a as c b) {c' : Nat} (hc : c ≤ c') (hb : b ≤ b') : PageS st a as c' b' :=
  ⟨h.ob, h.na, h.ne, Nat.le_trans h.len hc, fun x hx => by obtain ⟨ws, h1, h2⟩ := h.ln x hx; exact ⟨ws, h1.mono hb, h2⟩⟩
theorem PageS.line (h : PageS st a as c b) (hx : x ∈ as) (hw : LineOk b ws) : PageS (updS st x (.lst (txs ws))) a as c b := by
  have hax : a ≠ x := fun e => h.na (e ▸ hx)
  refine ⟨by rw [updS_ne hax]; exact h.ob, h.na, h.ne, h.len, fun y hy => ?_⟩
  by_cases e : y = x
  · rw [e]; exact ⟨ws, hw, updS_same⟩
  · rw [updS_ne e]; exact h.ln y hy
theorem PageS.new (h : PageS st a as c b) (hy : st y = none) : PageS (updS st y o) a as c b := by
  have hay : a ≠ y := fun e => by have := h.ob; rw [e, hy] at this; cases this
  refine ⟨by rw [updS_ne hay]; exact h.ob, h.na, h.ne, h.len, fun x hx => ?_⟩
  have hxy : x ≠ y := fun e => by obtain ⟨ws, _, h2⟩ := h.ln x hx; rw [e, hy] at h2; cases h2
  rw [updS_ne hxy]; exact h.ln x hx
theorem PageS.lines (h : PageS st a as c b) {as' : List Addr} {c' : Nat} (hn : as' ≠ []) (hl : as'.length ≤ c') (hm : ∀ x ∈ as', x ≠ a ∧ ∃ ws, LineOk b ws ∧ st x = some (.lst (txs ws))) : PageS (updS st a (.lst (as'.map .loc))) a as' c' b := by
  refine ⟨updS_same, fun hx => (hm a hx).1 rfl, hn, hl, fun x hx => ?_⟩
  obtain ⟨h1, h2⟩ := hm x hx
  rw [updS_ne h1]; exact h2
theorem PageS.ne_of (h : PageS st a as c b) (hx : x ∈ as) : x ≠ a := fun e => h.na (e ▸ hx)
theorem PageS.words (h : PageS st a as c b) : ∃ wss : List (List Str), wss.length = as.length ∧ (∀ ws ∈ wss, LineOk b ws) ∧ ∀ (j : Nat) (x : Addr) (ws : List Str), as[j]? = some x → wss[j]? = some ws → st x = some (.lst (txs ws)) := by
  have key : ∀ l : List Addr, (∀ x ∈ l, ∃ ws, LineOk b ws ∧ st x = some (.lst (txs ws))) → ∃ wss : List (List Str), wss.length = l.length ∧ (∀ ws ∈ wss, LineOk b ws) ∧ ∀ (j : Nat) (x : Addr) (ws : List Str), l[j]? = some x → wss[j]? = some ws → st x = some (.lst (txs ws)) := fun l => by
    induction l with
    | nil => exact fun _ => ⟨[], rfl, fun _ hw => (by cases hw), fun j x ws h1 => (by cases h1)⟩
    | cons x l ih =>
      intro hl
      obtain ⟨ws, h1, h2⟩ := hl x (List.mem_cons_self ..)
      obtain ⟨wss, g1, g2, g3⟩ := ih fun y hy => hl y (List.mem_cons_of_mem _ hy)
      refine ⟨ws :: wss, by rw [List.length_cons, List.length_cons, g1], fun v hv => ?_, fun j y v hy hv => ?_⟩
      · rcases List.mem_cons.mp hv with rfl | hv
        · exact h1
        · exact g2 v hv
      · cases j with
        | zero => cases hy; cases hv; exact h2
        | succ j => exact g3 j y v hy hv
  exact key as h.ln
end
theorem txs_set (ws : List Str) (j : Nat) (w : Str) : (txs ws).set j (.str w) = txs (ws.set j w) := by unfold txs; rw [List.map_set]
theorem txs_erase : ∀ (ws : List Str) (j : Nat), (txs ws).eraseIdx j = txs (ws.eraseIdx j)
  | [], _ => rfl
  | w :: ws, 0 => rfl
  | w :: ws, j + 1 => by
    show D.str w :: (txs ws).eraseIdx j = D.str w :: txs (ws.eraseIdx j)
    rw [txs_erase ws j]
theorem txs_ins (ws : List Str) (j : Nat) (w : Str) : (txs ws).take j ++ [.str w] ++ (txs ws).drop j = txs (ws.take j ++ [w] ++ ws.drop j) := by
  unfold txs; rw [List.map_append, List.map_append, List.map_take, List.map_drop]; rfl
theorem txs_app (ws vs : List Str) : txs ws ++ txs vs = txs (ws ++ vs) := by unfold txs; rw [List.map_append]
section
variable {b : Nat} {ws : List Str} {w : Str} {j : Nat}
theorem LineOk.set (h : LineOk b ws) (hw : WordOk w) : LineOk b (ws.set j w) := by
  refine ⟨fun e => h.1 (by have := congrArg List.length e; simpa using this), by rw [List.length_set]; exact h.2.1, fun v hv => ?_⟩
  rcases List.mem_or_eq_of_mem_set hv with hv | rfl
  · exact h.2.2 v hv
  · exact hw
theorem LineOk.erase (h : LineOk b ws) (h1 : 1 < ws.length) (hj : j < ws.length) : LineOk b (ws.eraseIdx j) := by
  have hl : (ws.eraseIdx j).length = ws.length - 1 := List.length_eraseIdx_of_lt hj
  refine ⟨fun e => by rw [e] at hl; simp at hl; omega, by have := h.2.1; omega, fun v hv => h.2.2 v (List.mem_of_mem_eraseIdx hv)⟩
theorem LineOk.ins (h : LineOk b ws) (hw : WordOk w) : LineOk (b + 1) (ws.take j ++ [w] ++ ws.drop j) := by
  have hl : (ws.take j ++ [w] ++ ws.drop j).length = ws.length + 1 := by
    rw [List.length_append, List.length_append, List.length_take, List.length_drop, List.length_singleton]; omega
  refine ⟨fun e => by rw [e] at hl; simp at hl, by have := h.2.1; omega, fun v hv => ?_⟩
  rcases List.mem_append.mp hv with hv | hv
  · rcases List.mem_append.mp hv with hv | hv
    · exact h.2.2 v (List.mem_of_mem_take hv)
    · rw [List.mem_singleton.mp hv]; exact hw
  · exact h.2.2 v (List.mem_of_mem_drop hv)
theorem LineOk.app (h : LineOk b ws) (hw : WordOk w) : LineOk (b + 1) (ws ++ [w]) := by
  refine ⟨by simp, by rw [List.length_append, List.length_singleton]; have := h.2.1; omega, fun v hv => ?_⟩
  rcases List.mem_append.mp hv with hv | hv
  · exact h.2.2 v hv
  · rw [List.mem_singleton.mp hv]; exact hw
end
theorem ok_corner : WordOk "corner" := by decide +kernel
theorem ok_0 : WordOk "0" := by decide +kernel
/-- ['corner'] + ['0'] * n -/
theorem line_zero (m : Nat) : LineOk (m + 1) ("corner" :: List.replicate m "0") := by
  refine ⟨by simp, by simp, fun v hv => ?_⟩
  rcases List.mem_cons.mp hv with rfl | hv
  · exact ok_corner
  · rw [List.eq_of_mem_replicate hv]; exact ok_0
theorem rep_txs (m : Nat) : (List.replicate m [D.str "0"]).flatten = txs (List.replicate m "0") := by
  induction m with
  | zero => rfl
  | succ m ih => rw [List.replicate_succ, List.flatten_cons, ih, List.replicate_succ]; rfl
/-! ### what is read agrees with the words -/
theorem numsF_words {ws : List Str} {least most : Nat} : ∀ {k at' : Nat} {found f : List Nat} {j : Nat}, numsF ws least most k at' found = .ok (f, j) → 1 ≤ at' → at' ≤ ws.length → found.map some = ((ws.drop 1).take (at' - 1)).map wholeW → j ≤ ws.length ∧ 1 ≤ j ∧ f.map some = ((ws.drop 1).take (j - 1)).map wholeW
  | 0, _, _, _, _, h, _, _, _ => by cases h
  | k + 1, at', found, f, j, h, h1, hl, hf => by
    rw [numsF] at h
    split at h
    · split at h
      · cases h
      · rename_i w hw
        split at h
        · cases h
        · rename_i v hv
          have hlt := (List.getElem?_eq_some_iff.mp hw).1
          refine numsF_words h (by omega) (by omega) ?_
          have e : (ws.drop 1)[at' - 1]? = some w := by rw [List.getElem?_drop, show 1 + (at' - 1) = at' by omega]; exact hw
          rw [show at' + 1 - 1 = (at' - 1) + 1 by omega, List.take_succ, e, List.map_append, List.map_append, hf]
          show _ ++ [some v] = _ ++ [wholeW w]
          rw [hv]
    · split at h
      · cases h; exact ⟨hl, h1, hf⟩
      · cases h
theorem cornerF_words {ws : List Str} {least most : Nat} {f : List Nat} (h : cornerF ws least most = .ok f) (hn : ws ≠ []) : f.map some = (ws.drop 1).map wholeW := by
  have hl1 : 1 ≤ ws.length := by
    cases ws with
    | nil => exact absurd rfl hn
    | cons x y => simp
  unfold cornerF at h
  split at h
  · cases h
  · rename_i f' j hq
    split at h
    · cases h
    · rename_i hj
      cases h
      obtain ⟨h1, h2, h3⟩ := numsF_words hq (Nat.le_refl _) hl1 (by simp)
      rw [h3, List.take_of_length_le (by rw [List.length_drop]; omega)]
def Agree (wss : List (List Str)) (cs : List (List Nat)) : Prop := cs.map (fun r => r.map some) = (wss.take cs.length).map fun ws => (ws.drop 1).map wholeW
theorem fieldL_words {wss : List (List Str)} (hn : ∀ ws ∈ wss, ws ≠ []) : ∀ {m k : Nat} {cs cs' : List (List Nat)} {k' : Nat}, fieldL wss m k cs = .ok (cs', k') → cs.length = k → Agree wss cs → cs'.length = k' ∧ Agree wss cs'
  | 0, _, _, _, _, h, hk, ha => by cases h; exact ⟨hk, ha⟩
  | m + 1, k, cs, cs', k', h, hk, ha => by
    rw [fieldL] at h
    split at h
    · rename_i hc
      split at h
      · cases h
      · rename_i f hf
        cases hg : wss[k]? with
        | none => rw [hg] at hc; cases hc.1
        | some ws =>
          rw [show wss.getD k [] = ws by rw [List.getD_eq_getElem?_getD, hg]; rfl] at hf
          refine fieldL_words hn h (by simp [hk]) ?_
          unfold Agree at ha ⊢
          have hmem := List.mem_of_getElem? hg
          rw [List.length_append, List.length_singleton, hk, List.take_succ, hg, List.map_append, List.map_append, ha, hk]
          show _ ++ [f.map some] = _ ++ [(ws.drop 1).map wholeW]
          rw [cornerF_words hf (hn ws hmem)]
    · cases h; exact ⟨hk, ha⟩
theorem readF_words {wss : List (List Str)} {cs : List (List Nat)} (hn : ∀ ws ∈ wss, ws ≠ []) (h : readF wss = .ok cs) : cs.map (fun r => r.map some) = wss.map fun ws => (ws.drop 1).map wholeW := by
  unfold readF at h
  split at h
  · cases h
  · rename_i cs' k hf
    split at h
    · cases h
    · rename_i hk
      cases h
      cases wss with
      | nil => cases hf
      | cons ws rest =>
        unfold fieldF at hf
        simp only at hf
        split at hf
        · split at hf
          · cases hf
          · rename_i f hc
            obtain ⟨h1, h2⟩ := fieldL_words hn hf rfl (by
              unfold Agree
              show [f.map some] = [(ws.drop 1).map wholeW]
              rw [cornerF_words hc (hn ws (List.mem_cons_self ..))])
            unfold Agree at h2
            rw [h1, List.take_of_length_le (by omega)] at h2
            exact h2
        · cases hf
end K78
set_option Elab.async false
set_option linter.all false
set_option maxRecDepth 100000
set_option maxHeartbeats 4000000
namespace K78
open PySem L2 Evl DL LamX LamD
def wBuild : WS :=
    (wDrop (wAppL (wVar 4) (wNewL (wCatF (wGive (wLst (wCons (wC (.str "corner")) wNil))) (wGive (wLc [6] (wRangeI (wCons (wVar 3) wNil)) (wgName 6) wTrue (wCB gStrI (wCons (wCall sp_pick (wCons (wVar 1) (wCons (wGive (wLst (wCons (wC (.int 0)) (wCons (wC (.int 0)) (wCons (wC (.int 1)) (wCons (wOp (fInt CPow fun i j => .int (i ^ j.toNat)) (wC (.int 10)) (wC (.int 6))) (wCons (wC (.int 25)) wNil))))))) wNil))) wNil))))))))
def wIfs : WS :=
    (wIfS (wT (wOp (fEq false) (wVar 7) (wC (.int 0)))) (wAsg (wCall sp_pick (wCons (wVar 1) (wCons (wGive (wLst (wCons (wCall sp_no_word (wCons (wVar 1) wNil)) (wCons (wC (.str "corner")) (wCons (wC (.str "goal")) (wCons (wC (.str "1000001")) (wCons (wC (.str "1000000")) (wCons (wC (.str "0")) wNil)))))))) wNil))) (wgSubL (wVar 8) (wVar 9))) (wIfS (wAnd (wT (wOp (fEq false) (wVar 7) (wC (.int 1)))) (wT (wOp fGt (wLenU (wVar 8)) (wC (.int 1))))) (wDrop (wPopAtL (wVar 8) (wVar 9))) (wIfS (wT (wOp (fEq false) (wVar 7) (wC (.int 2)))) (wDrop (wInsL (wVar 8) (wVar 9) (wCall sp_pick (wCons (wVar 1) (wCons (wGive (wLst (wCons (wC (.str "1")) (wCons (wC (.str "0")) (wCons (wCall sp_no_word (wCons (wVar 1) wNil)) wNil))))) wNil))))) (wIfS (wT (wOp (fEq false) (wVar 7) (wC (.int 3)))) (wDrop (wInsL (wVar 4) (wVar 6) (wNewL (wLstOfU (wVar 8))))) (wIfS (wAnd (wT (wOp (fEq false) (wVar 7) (wC (.int 4)))) (wT (wOp fGt (wLenU (wVar 4)) (wC (.int 1))))) (wDrop (wPopAtL (wVar 4) (wVar 6))) (wIfS (wT (wOp (fEq false) (wVar 7) (wC (.int 5)))) (wDrop (wAppL (wVar 8) (wCall sp_pick (wCons (wVar 1) (wCons (wGive (wLst (wCons (wC (.str "0")) (wCons (wC (.str "3")) (wCons (wC (.str "")) wNil))))) wNil))))) (wIfS (wT (wOp (fEq false) (wVar 7) (wC (.int 6)))) (wDrop (wInsL (wVar 4) (wVar 6) (wCall sp_pick (wCons (wVar 1) (wCons (wGive (wLst (wCons (wNewL (wLst (wCons (wC (.str "")) wNil))) (wCons (wNewL (wLst (wCons (wC (.str "corner")) wNil))) (wCons (wNewL (wCatF (wGive (wLst (wCons (wC (.str "corner")) wNil))) (wOp fRep (wGive (wLst (wCons (wC (.str "0")) wNil))) (wVar 3)))) (wCons (wNewL (wLst (wCons (wC (.str "corner")) (wCons (wC (.str "0")) wNil)))) (wCons (wNewL (wLst (wCons (wC (.str "price")) (wCons (wC (.str "a")) (wCons (wC (.str "1")) wNil))))) wNil))))))) wNil))))) (wAsg (wNewL (wCatF (wGive (wLst (wCons (wC (.str "corner")) wNil))) (wOp fRep (wGive (wLst (wCons (wC (.str "0")) wNil))) (wLenU (wVar 8))))) (wgSubL (wVar 4) (wVar 6))))))))))
def wLap : WS :=
    (wSeq (wParVV 6 7 (wCall sp_draw (wCons (wVar 1) (wCons (wLenU (wVar 4)) wNil))) (wCall sp_draw (wCons (wVar 1) (wCons (wC (.int 8)) wNil))))
    (wSeq (wAsg (wIxU (wVar 4) (wVar 6)) (wgName 8))
    (wSeq (wAsg (wCall sp_draw (wCons (wVar 1) (wCons (wLenU (wVar 8)) wNil))) (wgName 9))
    (wIfs))))
def wTail (T : List (Addr × Str)) (Wd : Addr → Option Str) (Tx Tm : Addr → Prop) (CFi CF CT CLi CLs : Addr) : WS :=
    (wFrz2 4 (wSeq (wAsg (wTup (wCons (wCall sp_tx_joined (wCons (wVar 4) wNil)) (wCons (wCall sp_fb_bad (wCons (wVar 4) wNil)) wNil))) (wgTup 2 (wgCons (wgName 10) (wgCons (wgName 11) wgNil))))
    (wSeq (wAsg (wHear T Wd Tx Tm (wCall (sp_read_field CLi CLs CFi CT) (wCons (wVar 10) wNil))) (wgName 12))
    (wIfS (wT (wIsN true (wVar 11))) (wIfS (wT (wOp (fEq true) (wVar 12) (wOp fAdd (wTup (wCons (wC (.str "text")) wNil)) (wVar 11)))) (wRet (wC (.bl false))) wNext) (wIfS (wOr (wNot (wT (wIsi (isT "list") (wVar 12)))) (wT (wOp (fEq true) (wFldU CFi "corners" (wOp fIx (wVar 12) (wC (.int 0)))) (wTupOf (wGive (wLc [8] (wSeqI (wVar 4)) (wgName 8) wTrue (wTupOf (wGive (wLc [13] (wSeqI (wSl (wVar 8) (wPart (wC (.int 1))) wNoPart)) (wgName 13) wTrue (wCB gIntS (wCons (wVar 13) wNil))))))))))) (wRet (wC (.bl false))) wNext)))))
def wEnd (T : List (Addr × Str)) (Wd : Addr → Option Str) (Tx Tm : Addr → Prop) (CFi CF CT CLi CLs : Addr) : WS :=
    (wSeq (wAsg (wGive (wLst (wCons (wHear T Wd Tx Tm (wCall (sp_read_field CLi CLs CFi CT) (wCons (wC (.str "")) wNil))) (wCons (wHear T Wd Tx Tm (wCall (sp_read_field CLi CLs CFi CT) (wCons (wC (.str "corner 0 0")) wNil))) (wCons (wHear T Wd Tx Tm (wCall (sp_read_field CLi CLs CFi CT) (wCons (wC (.str "corner 1 0\ncorner 0")) wNil))) wNil))))) (wgName 12))
    (wSeq (wAsg (wOp fAdd (wVar 12) (wGive (wLst (wCons (wHear T Wd Tx Tm (wCall (sp_read_field CLi CLs CFi CT) (wCons (wC (.str "corner 1\n")) wNil))) (wCons (wHear T Wd Tx Tm (wCall (sp_read_field CLi CLs CFi CT) (wCons (wC (.str "corner 0 0 0 0 0 0 7")) wNil))) (wCons (wHear T Wd Tx Tm (wCall (sp_read_field CLi CLs CFi CT) (wCons (wC (.str "corner 1 2\ncorner 0 0 5")) wNil))) wNil)))))) (wgName 12))
    (wSeq (wIfS (wT (wOp (fEq true) (wVar 12) (wGive (wLst (wCons (wTup (wCons (wC (.str "text")) (wCons (wC (.int 0)) (wCons (wC (.int 0)) wNil)))) (wCons (wTup (wCons (wC (.str "text")) (wCons (wC (.int 0)) (wCons (wC (.int 2)) wNil)))) (wCons (wTup (wCons (wC (.str "text")) (wCons (wC (.int 1)) (wCons (wC (.int 2)) wNil)))) (wCons (wTup (wCons (wC (.str "text")) (wCons (wC (.int 1)) (wCons (wC (.int 0)) wNil)))) (wCons (wTup (wCons (wC (.str "text")) (wCons (wC (.int 0)) (wCons (wC (.int 6)) wNil)))) (wCons (wTup (wCons (wC (.str "text")) (wCons (wC (.int 1)) (wCons (wC (.int 2)) wNil)))) wNil)))))))))) (wRet (wC (.bl false))) wNext)
    (wSeq (wAsg (wCall sp_pick (wCons (wVar 1) (wCons (wGive (wLst (wCons (wC .non) (wCons (wTup wNil) (wCons (wC (.int 5)) (wCons (wC (.str "ab")) (wCons (wTup (wCons (wTup (wCons (wC (.int 0)) (wCons (wC (.int 0)) wNil))) wNil)) (wCons (wTup (wCons (wTup (wCons (wC (.int 1)) (wCons (wC (.int 2)) wNil))) (wCons (wTup (wCons (wC (.int 1)) wNil)) wNil))) (wCons (wOp fRepT (wTup (wCons (wTup (wCons (wC (.int 1)) wNil)) wNil)) (wC (.int 7))) (wCons (wTup (wCons (wOp fRepT (wTup (wCons (wC (.int 1)) wNil)) (wC (.int 7))) wNil)) (wCons (wTup (wCons (wTup (wCons (wC (.int (-1))) (wCons (wC (.int 2)) wNil))) wNil)) (wCons (wTup (wCons (wTup (wCons (wC (.bl true)) (wCons (wC (.int 1)) wNil))) wNil)) (wCons (wTup (wCons (wTup (wCons (wOp fAdd (wOp (fInt CPow fun i j => .int (i ^ j.toNat)) (wC (.int 10)) (wC (.int 6))) (wC (.int 1))) wNil)) wNil)) (wCons (wTup (wCons (wTup wNil) wNil)) (wCons (wC (.dct [] [])) (wCons (wTup (wCons (wC (.int 5)) wNil)) (wCons (wTup (wCons (wTup (wCons (wC (.str "1")) wNil)) wNil)) (wCons (wTup (wCons (wTup (wCons (wC (.int 1)) wNil)) (wCons (wC .non) wNil))) wNil)))))))))))))))))) wNil))) (wgName 14))
    (wRet (wAndV (wOp (fEq false) (wHear T Wd Tx Tm (wFrzO (wMakeD CFi (sp_finit CFi CF) [] (wCons (wVar 14) wNil)))) (wTup (wCons (wC (.str "field")) (wCons (wC (.str "corners")) wNil)))) (wOp (fEq false) (wFldU CFi "width" (wFrzO (wMakeD CFi (sp_finit CFi CF) [] (wCons (wOp fRep (wGive (wLst (wCons (wOp fRep (wGive (wLst (wCons (wOp (fInt CPow fun i j => .int (i ^ j.toNat)) (wC (.int 10)) (wC (.int 6))) wNil))) (wC (.int 6))) wNil))) (wC (.int 6))) wNil)))) (wC (.int 6)))))))))
theorem law_is {T : List (Addr × Str)} {Wd : Addr → Option Str} {Tx Tm : Addr → Prop} {CFi CF CT CLi CLs : Addr} : w_law T Wd Tx Tm CFi CF CT CLi CLs =
    (wSeq (wFor (wRangeI (wCons (wC (.int 24)) wNil)) (wgName 2) (wSeq (wAsg (wOp fAdd (wC (.int 1)) (wCall sp_draw (wCons (wVar 1) (wCons (wC (.int 6)) wNil)))) (wgName 3))
    (wSeq (wAsg (wNewL (wLst wNil)) (wgName 4))
    (wSeq (wFor (wRangeI (wCons (wOp fAdd (wC (.int 1)) (wCall sp_draw (wCons (wVar 1) (wCons (wC (.int 6)) wNil)))) wNil)) (wgName 5) (wBuild))
    (wSeq (wFor (wRangeI (wCons (wCall sp_draw (wCons (wVar 1) (wCons (wC (.int 3)) wNil))) wNil)) (wgName 5) (wLap))
    (wTail T Wd Tx Tm CFi CF CT CLi CLs))))))
    (wEnd T Wd Tx Tm CFi CF CT CLi CLs)) := rfl
section
variable {Qe : WQ} {De : DEnds} {s s1 : S} {ds es xs : List D} {d e z : D} {wa wb wo wi wp : WE} {wr wr2 : WA} {wf : WF} {wg : WG} {sp : DSp} {a x : Addr} {j k : Nat} {Q : List D → S → Prop} {R : D → S → Prop} {f : F2} {g : FC}
theorem lc_el {we : WE} {R2 : S → Prop} {i : Nat} (h : we Qf ⟨s.env.set i (.val d), s.n⟩ R) : wgName i d Qf s (fun s1 => wTrue Qf s1 fun b s2 => if b = true then we Qf s2 R else R2 s2) := by
  show (if true = true then we Qf ⟨s.env.set i (.val d), s.n⟩ R else R2 ⟨s.env.set i (.val d), s.n⟩)
  rw [if_pos rfl]; exact h
theorem wc_ev (h : EV wa Qe s d s1) (q : wr Qe s1 fun es s2 => Q (d :: es) s2) : wCons wa wr Qe s Q := h _ q
theorem wc_call (h : AV wr2 Qe s es s1) (q : sp es s1.n (fun d n' => wr Qe ⟨s1.env, n'⟩ fun es s2 => Q (d :: es) s2) Qe.only) : wCons (wCall sp wr2) wr Qe s Q := h _ q
theorem wc_new (h : FV wf Qe s ds s1) (q : ∀ y, s1.n.st y = none → wr Qe (withS s1 (updS s1.n.st y (.lst ds))) fun es s2 => Q (.loc y :: es) s2) : wCons (wNewL wf) wr Qe s Q := h _ q
theorem wc_nil (q : Q [] s) : wNil Qe s Q := q
theorem c_pickL (h : EV wp Qe s .pen s) (q : wr Qe s fun ds s1 => ds.length ≤ 100000 ∧ sp [.pen, .lst ds] s1.n (fun d n' => R d ⟨s1.env, n'⟩) Qe.only) : wCall sp (wCons wp (wCons (wGive (wLst wr)) wNil)) Qe s R := h _ q
theorem s_asgG (q : wa Qe s fun d s1 => wg d Qe s1 De.nx) : wAsg wa wg Qe De s := q
theorem s_drop0 (q : wa Qe s fun _ s1 => De.nx s1) : wDrop wa Qe De s := q
theorem g_subL {K : S → Prop} (ho : EV wo Qe s (.loc a) s) (hi : EV wi Qe s (.int (j : Nat)) s) (hs : s.n.st a = some (.lst ds)) (hj : j < ds.length) (q : K (putL s a (ds.set j d))) : wgSubL wo wi d Qe s K := ho _ (hi _ ⟨a, ds, _, j, rfl, rfl, hs, ixN_nat hj, q⟩)
theorem c_ins (h : EV wo Qe s (.loc a) s) (ha : ∃ ds, s.n.st a = some (.lst ds)) (hi : EV wi Qe s (.int (j : Nat)) s) (q : wa Qe s fun e s3 => ∃ (ds : List D) (j' : Nat), (D.int (j : Nat)) = .int (j' : Nat) ∧ s3.n.st a = some (.lst ds) ∧ ds.length < 100000 ∧ j' < 100000 ∧ R .non (putL s3 a (ds.take j' ++ [e] ++ ds.drop j'))) : wInsL wo wi wa Qe s R := h _ ⟨a, rfl, ha, hi _ q⟩
theorem c_new (h : FV wf Qe s ds s1) (q : ∀ y, s1.n.st y = none → R (.loc y) (withS s1 (updS s1.n.st y (.lst ds)))) : wNewL wf Qe s R := h _ q
theorem c_newK (q : wf Qe s fun ds s1 => ∀ y, s1.n.st y = none → R (.loc y) (withS s1 (updS s1.n.st y (.lst ds)))) : wNewL wf Qe s R := q
theorem fv_lstOf (h : EV wa Qe s (.loc a) s) (hs : s.n.st a = some (.lst ds)) : FV (wLstOfU wa) Qe s ds s := fun Q q => h _ ⟨ds, hs, q⟩
theorem c_popAt (h : EV wo Qe s (.loc a) s) (hi : EV wi Qe s (.int (j : Nat)) s) (hs : s.n.st a = some (.lst ds)) (hj : ds[j]? = some e) (h5 : j < 100000) (q : R e (putL s a (ds.eraseIdx j))) : wPopAtL wo wi Qe s R := h _ ⟨a, rfl, ⟨_, hs⟩, hi _ ⟨ds, j, e, rfl, hs, hj, h5, q⟩⟩
theorem c_appL (h : EV wo Qe s (.loc a) s) (ha : ∃ ds, s.n.st a = some (.lst ds)) (q : wa Qe s fun e s2 => ∃ ds, s2.n.st a = some (.lst ds) ∧ ds.length < 100000 ∧ R .non (putL s2 a (ds ++ [e]))) : wAppL wo wa Qe s R := h _ ⟨a, rfl, ha, q⟩
theorem c_catF (h : EV wa Qe s (.lst xs) s1) (q : wf Qe s1 fun ys s2 => xs.length + ys.length ≤ 100000 ∧ Q (xs ++ ys) s2) : wCatF wa (wGive wf) Qe s Q := h _ q
theorem fv_cat (h : EV wa Qe s (.lst xs) s1) {s2 : S} (h2 : EV wb Qe s1 (.lst es) s2) (hl : xs.length + es.length ≤ 100000) : FV (wCatF wa wb) Qe s (xs ++ es) s2 := fun Q q => h _ (h2 _ ⟨hl, q⟩)
theorem c_cb1 (h : AV wr Qe s ds s1) (q : sp ds s1.n (fun d n' => g [d] fun z => R z ⟨s1.env, n'⟩) Qe.only) : wCB g (wCons (wCall sp wr) wNil) Qe s R := h _ q
theorem ev_lenU (h : EV wa Qe s (.loc a) s) (hs : s.n.st a = some (.lst ds)) : EV (wLenU wa) Qe s (.int (ds.length : Nat)) s := fun Q q => h _ ⟨ds, hs, q⟩
theorem ev_ixU (h : EV wa Qe s (.loc a) s) (hi : EV wi Qe s (.int (j : Nat)) s) (hs : s.n.st a = some (.lst ds)) (hz : ds[j]? = some z) : EV (wIxU wa wi) Qe s z s := fun Q q => h _ (hi _ ⟨ds, z, hs, at_nat hz, q⟩)
theorem s_asgOp2 {W : WS} {i : Nat} (h : EV wa Qe s d s) (k : AV wr Qe s ds s) (hs : sp ds s.n (fun e n' => f d e fun z => W Qe De ⟨s.env.set i (.val z), n'⟩) Qe.only) : wSeq (wAsg (wOp f wa (wCall sp wr)) (wgName i)) W Qe De s := h _ (k _ hs)
theorem s_asgNew {W : WS} {i : Nat} (h : FV wf Qe s ds s) (q : ∀ y, s.n.st y = none → W Qe De ⟨s.env.set i (.val (.loc y)), ⟨s.n.n, updS s.n.st y (.lst ds)⟩⟩) : wSeq (wAsg (wNewL wf) (wgName i)) W Qe De s := h _ q
theorem s_forDraw {W wb : WS} (h : AV wr Qe s [.pen, .int (j : Nat)] s) (hs : sp_draw [.pen, .int (j : Nat)] s.n (fun e n' => ∃ i : Int, [e] = [.int i] ∧ i < 100000 ∧ -100000 < i ∧ wForL wg wb Qe { De with nx := fun s => W Qe De s } (rng i.toNat) ⟨s.env, n'⟩) Qe.only) : wSeq (wFor (wRangeI (wCons (wCall sp_draw wr) wNil)) wg wb) W Qe De s := h _ hs
theorem s_forDraw1 {W wb : WS} (h0 : EV wa Qe s d s) (h : AV wr Qe s [.pen, .int (j : Nat)] s) (hs : sp_draw [.pen, .int (j : Nat)] s.n (fun e n' => f d e fun z => ∃ i : Int, [z] = [.int i] ∧ i < 100000 ∧ -100000 < i ∧ wForL wg wb Qe { De with nx := fun s => W Qe De s } (rng i.toNat) ⟨s.env, n'⟩) Qe.only) : wSeq (wFor (wRangeI (wCons (wOp f wa (wCall sp_draw wr)) wNil)) wg wb) W Qe De s := h0 _ (h _ hs)
theorem s_par2 {W : WS} {u v : Nat} {wr1 wr2 : WA} {ds1 : List D} {sp1 sp2 : DSp} (h1 : AV wr1 Qe s ds1 s) (k : sp1 ds1 s.n (fun d n' => wCall sp2 wr2 Qe ⟨s.env, n'⟩ fun e s2 => W Qe De ⟨(s2.env.set u (.val d)).set v (.val e), s2.n⟩) Qe.only) : wSeq (wParVV u v (wCall sp1 wr1) (wCall sp2 wr2)) W Qe De s := h1 _ k
theorem c_call (h : AV wr Qe s ds s1) (k : sp ds s1.n (fun d n' => R d ⟨s1.env, n'⟩) Qe.only) : wCall sp wr Qe s R := h _ k
end
abbrev E15 (c0 c2 c3 c4 c5 c6 c7 c8 c9 c10 c11 c12 c13 c14 : Cell) : List Cell := [c0, .val .pen, c2, c3, c4, c5, c6, c7, c8, c9, c10, c11, c12, c13, c14]
structure PageE (st : Sto) (a : Addr) (as : List Addr) (c b : Nat) : Prop where
  ob : st a = some (.lst (as.map .loc))
  na : a ∉ as
  len : as.length ≤ c
  ln : ∀ x ∈ as, ∃ ws, LineOk b ws ∧ st x = some (.lst (txs ws))
theorem ok_nums : ∀ i ∈ ([0, 0, 1, 1000000, 25] : List Int), i.natAbs.log2 < 1920 ∧ WordOk (toString i) := by decide +kernel
section
variable {Qe : WQ} {De : DEnds} {n : M} {c0 c2 c3 c4 c5 c6 c7 c8 c9 c10 c11 c12 c13 c14 : Cell} {w c b : Nat} {a : Addr} {as : List Addr}
theorem build_step (hw : 1 ≤ w ∧ w ≤ 6) (hn : n.n < 900000) (hc : c ≤ 15) (ha : PageE n.st a as c 7)
    (hk : ∀ n' y, n'.n ≤ n.n + w → PageE n'.st a (as ++ [y]) (c + 1) 7 → De.nx ⟨E15 c0 c2 (.val (.int (w : Nat))) (.val (.loc a)) c5 .unb c7 c8 c9 c10 c11 c12 c13 c14, n'⟩) :
    wBuild Qe De ⟨E15 c0 c2 (.val (.int (w : Nat))) (.val (.loc a)) c5 c6 c7 c8 c9 c10 c11 c12 c13 c14, n⟩ := by
  unfold wBuild
  refine s_drop0 (c_appL (ev_var (i := 4) rfl) ⟨_, ha.ob⟩ (c_newK (c_catF (xs := txs ["corner"]) (ev_give (fv_lst (av_1 ev_c) (by show 1 ≤ 100000; decide))) ?_)))
  refine (iv_range (k := w) (av_1 (ev_var (i := 3) rfl)) (by omega)) _ ?_
  refine lc_inv (fun l acc s => ∃ ws, acc = txs ws ∧ (∀ v ∈ ws, WordOk v) ∧ ws.length + l.length = w ∧ s.env = E15 c0 c2 (.val (.int (w : Nat))) (.val (.loc a)) c5 .unb c7 c8 c9 c10 c11 c12 c13 c14 ∧ s.n.n = n.n + ws.length ∧ s.n.st = n.st) (fun d l acc s I R R2 k1 k2 => ?_) (fun acc s I => ?_) _ _ _ (by simp [rng]; omega) ⟨[], rfl, (fun v hv => by cases hv), by simp [rng], rfl, rfl, rfl⟩
  · obtain ⟨ws, rfl, hws, hl, he, hnn, hst⟩ := I
    obtain ⟨env, m⟩ := s
    cases he
    rw [List.length_cons] at hl
    refine lc_el ?_
    have pw : ∀ {Qe : WQ} {s : S}, EV (wOp (fInt CPow fun i j => .int (i ^ j.toNat)) (wC (.int 10)) (wC (.int 6))) Qe s (.int 1000000) s := ev_op ev_c ev_c fun R r => ⟨by unfold CPow; decide, r⟩
    refine c_cb1 (av_cons (ev_var (i := 1) rfl) (av_1 (ev_give (fv_lst (ds := ([0, 0, 1, 1000000, 25] : List Int).map D.int) (av_cons ev_c (av_cons ev_c (av_cons ev_c (av_cons pw (av_1 ev_c))))) (by show 5 ≤ 100000; decide))))) ⟨_, rfl, by show 0 < 5; decide, by show 5 < 1000; decide, by show m.n < 1000000; have : m.n = n.n + ws.length := hnn; omega, fun d hd => ?_⟩
    obtain ⟨i, hi, rfl⟩ := List.mem_map.mp hd
    have hk := ok_nums i hi
    refine ⟨hk.1, k1 _ _ ⟨ws ++ [((toString i : String) : Str)], ?_, fun v hv => ?_, ?_, rfl, ?_, hst⟩⟩
    · exact txs_app ws [_]
    · rcases List.mem_append.mp hv with hv | hv
      · exact hws v hv
      · rw [List.mem_singleton.mp hv]; exact hk.2
    · rw [List.length_append, List.length_singleton]; omega
    · show m.n + 1 = _
      rw [show m.n = n.n + ws.length from hnn, List.length_append, List.length_singleton]; omega
  · obtain ⟨ws, rfl, hws, hl, he, hnn, hst⟩ := I
    obtain ⟨env, m⟩ := s
    cases he
    have hl' : ws.length = w := by simpa using hl
    refine ⟨by rw [txs_len, txs_len, hl']; show 1 + w ≤ _; omega, fun y hy => ?_⟩
    have hst' : m.st = n.st := hst
    have hy' : n.st y = none := hst' ▸ hy
    have hay : a ≠ y := fun e => by have := ha.ob; rw [e, hy'] at this; cases this
    have hyas : y ∉ as := fun hm => by obtain ⟨_, _, h2⟩ := ha.ln y hm; rw [hy'] at h2; cases h2
    have hlk : LineOk 7 ("corner" :: ws) := ⟨by simp, by rw [List.length_cons]; omega, fun v hv => by
      rcases List.mem_cons.mp hv with rfl | hv
      · exact ok_corner
      · exact hws v hv⟩
    refine ⟨as.map .loc, ?_, by rw [List.length_map]; have := ha.len; omega, ?_⟩
    · show updS m.st y _ a = _
      rw [updS_ne hay, hst']; exact ha.ob
    · refine hk ⟨m.n, _⟩ y ?_ ⟨?_, ?_, ?_, fun x hx => ?_⟩
      · show m.n ≤ _
        rw [show m.n = n.n + ws.length from hnn]; omega
      · show updS _ a _ a = _
        rw [updS_same, List.map_append]; rfl
      · intro hm
        rcases List.mem_append.mp hm with hm | hm
        · exact ha.na hm
        · exact hay (List.mem_singleton.mp hm)
      · rw [List.length_append, List.length_singleton]; have := ha.len; omega
      · show ∃ ws', _ ∧ updS (updS m.st y _) a _ x = _
        rcases List.mem_append.mp hx with hx | hx
        · have hxa : x ≠ a := fun e => ha.na (e ▸ hx)
          have hxy : x ≠ y := fun e => hyas (e ▸ hx)
          rw [updS_ne hxa, updS_ne hxy, hst']
          exact ha.ln x hx
        · rw [List.mem_singleton.mp hx, updS_ne (Ne.symm hay), updS_same]
          exact ⟨_, hlk, rfl⟩
end
end K78
set_option Elab.async false
set_option linter.all false
set_option maxRecDepth 100000
set_option maxHeartbeats 4000000
namespace K78
open PySem L2 Evl DL LamX LamD
theorem ok_w0 : ∀ w ∈ (["corner", "goal", "1000001", "1000000", "0"] : List Str), WordOk w := by decide +kernel
theorem ok_w2 : ∀ w ∈ (["1", "0"] : List Str), WordOk w := by decide +kernel
theorem ok_w5 : ∀ w ∈ (["0", "3", ""] : List Str), WordOk w := by decide +kernel
theorem ok_l1 : LineOk 7 [""] := ⟨by simp, by decide, by decide +kernel⟩
theorem ok_l2 : LineOk 7 ["corner"] := ⟨by simp, by decide, by decide +kernel⟩
theorem ok_l4 : LineOk 7 ["corner", "0"] := ⟨by simp, by decide, by decide +kernel⟩
theorem ok_l5 : LineOk 7 ["price", "a", "1"] := ⟨by simp, by decide, by decide +kernel⟩
theorem locs_get {as : List Addr} {j : Nat} {x : Addr} (h : as[j]? = some x) : (as.map D.loc)[j]? = some (.loc x) := by rw [List.getElem?_map, h]; rfl
section
variable {Qe : WQ} {De : DEnds} {n : M} {c0 c2 c3 c4 c5 c6 c7 c8 c9 c10 c11 c12 c13 c14 : Cell} {w c b : Nat} {a x : Addr} {as : List Addr} {j1 j2 j3 : Nat} {ws : List Str}
theorem locs_ins (as : List Addr) (j : Nat) (y : Addr) : (as.map D.loc).take j ++ [.loc y] ++ (as.map D.loc).drop j = (as.take j ++ [y] ++ as.drop j).map D.loc := by
  rw [List.map_append, List.map_append, List.map_take, List.map_drop]; rfl
theorem locs_erase : ∀ (as : List Addr) (j : Nat), (as.map D.loc).eraseIdx j = (as.eraseIdx j).map D.loc
  | [], _ => rfl
  | x :: as, 0 => rfl
  | x :: as, j + 1 => by
    show D.loc x :: (as.map D.loc).eraseIdx j = D.loc x :: (as.eraseIdx j).map D.loc
    rw [locs_erase as j]
/-- a line more, of the store -/
theorem PageS.ins {st : Sto} {y : Addr} (h : PageS st a as c b) (hy : ∃ ws, LineOk b ws ∧ st y = some (.lst (txs ws))) (hya : y ≠ a) (j : Nat) : PageS (updS st a (.lst ((as.map D.loc).take j ++ [.loc y] ++ (as.map D.loc).drop j))) a (as.take j ++ [y] ++ as.drop j) (c + 1) b := by
  rw [locs_ins]
  refine h.lines (by simp) ?_ fun x hx => ?_
  · rw [List.length_append, List.length_append, List.length_take, List.length_drop, List.length_singleton]; have := h.len; omega
  · rcases List.mem_append.mp hx with hx | hx
    · rcases List.mem_append.mp hx with hx | hx
      · exact ⟨h.ne_of (List.mem_of_mem_take hx), h.ln x (List.mem_of_mem_take hx)⟩
      · rw [List.mem_singleton.mp hx]; exact ⟨hya, hy⟩
    · exact ⟨h.ne_of (List.mem_of_mem_drop hx), h.ln x (List.mem_of_mem_drop hx)⟩
theorem PageS.fresh {st : Sto} {y : Addr} (h : PageS st a as c b) (hy : st y = none) : y ≠ a ∧ y ∉ as := ⟨fun e => (by have := h.ob; rw [← e, hy] at this; cases this), fun hm => by obtain ⟨_, _, h2⟩ := h.ln y hm; rw [hy] at h2; cases h2⟩
theorem ifs_step (hw : 1 ≤ w ∧ w ≤ 6) (hn : n.n < 900000) (hc : c ≤ 15) (hb : 7 ≤ b ∧ b ≤ 15) (ha : PageS n.st a as c b) (h1 : as[j1]? = some x) (hx : n.st x = some (.lst (txs ws))) (hws : LineOk b ws) (h3 : j3 < ws.length)
    (hk : ∀ n' as', n'.n ≤ n.n + 2 → PageS n'.st a as' (c + 1) (b + 1) → De.nx ⟨E15 c0 c2 (.val (.int (w : Nat))) (.val (.loc a)) c5 (.val (.int (j1 : Nat))) (.val (.int (j2 : Nat))) (.val (.loc x)) (.val (.int (j3 : Nat))) c10 c11 c12 c13 c14, n'⟩) :
    wIfs Qe De ⟨E15 c0 c2 (.val (.int (w : Nat))) (.val (.loc a)) c5 (.val (.int (j1 : Nat))) (.val (.int (j2 : Nat))) (.val (.loc x)) (.val (.int (j3 : Nat))) c10 c11 c12 c13 c14, n⟩ := by
  unfold wIfs
  have hl := ha.len
  have hwl := hws.2.1
  have hxa : x ∈ as := List.mem_of_getElem? h1
  have hj1 : j1 < as.length := (List.getElem?_eq_some_iff.mp h1).1
  have tw : ∀ (i : Nat), TV (wT (wOp (fEq false) (wVar 7) (wC (.int (i : Nat))))) Qe ⟨E15 c0 c2 (.val (.int (w : Nat))) (.val (.loc a)) c5 (.val (.int (j1 : Nat))) (.val (.int (j2 : Nat))) (.val (.loc x)) (.val (.int (j3 : Nat))) c10 c11 c12 c13 c14, n⟩ (decide (j2 = i)) ⟨E15 c0 c2 (.val (.int (w : Nat))) (.val (.loc a)) c5 (.val (.int (j1 : Nat))) (.val (.int (j2 : Nat))) (.val (.loc x)) (.val (.int (j3 : Nat))) c10 c11 c12 c13 c14, n⟩ := fun i =>
    tv_is (tv_T (ev_op (ev_var (i := 7) rfl) ev_c f_eqI)) (decide_eq_decide.mpr (by omega))
  have tx : TV (wT (wOp fGt (wLenU (wVar 8)) (wC (.int 1)))) Qe ⟨E15 c0 c2 (.val (.int (w : Nat))) (.val (.loc a)) c5 (.val (.int (j1 : Nat))) (.val (.int (j2 : Nat))) (.val (.loc x)) (.val (.int (j3 : Nat))) c10 c11 c12 c13 c14, n⟩ (decide (1 < ws.length)) ⟨E15 c0 c2 (.val (.int (w : Nat))) (.val (.loc a)) c5 (.val (.int (j1 : Nat))) (.val (.int (j2 : Nat))) (.val (.loc x)) (.val (.int (j3 : Nat))) c10 c11 c12 c13 c14, n⟩ :=
    tv_is (tv_T (ev_op (ev_lenU (ev_var (i := 8) rfl) hx) ev_c f_gt)) (by rw [txs_len]; exact decide_eq_decide.mpr (by omega))
  have tl : TV (wT (wOp fGt (wLenU (wVar 4)) (wC (.int 1)))) Qe ⟨E15 c0 c2 (.val (.int (w : Nat))) (.val (.loc a)) c5 (.val (.int (j1 : Nat))) (.val (.int (j2 : Nat))) (.val (.loc x)) (.val (.int (j3 : Nat))) c10 c11 c12 c13 c14, n⟩ (decide (1 < as.length)) ⟨E15 c0 c2 (.val (.int (w : Nat))) (.val (.loc a)) c5 (.val (.int (j1 : Nat))) (.val (.int (j2 : Nat))) (.val (.loc x)) (.val (.int (j3 : Nat))) c10 c11 c12 c13 c14, n⟩ :=
    tv_is (tv_T (ev_op (ev_lenU (ev_var (i := 4) rfl) ha.ob) ev_c f_gt)) (by rw [List.length_map]; exact decide_eq_decide.mpr (by omega))
  have v1 : ∀ {Qe : WQ} {n : M}, EV (wVar 1) Qe ⟨E15 c0 c2 (.val (.int (w : Nat))) (.val (.loc a)) c5 (.val (.int (j1 : Nat))) (.val (.int (j2 : Nat))) (.val (.loc x)) (.val (.int (j3 : Nat))) c10 c11 c12 c13 c14, n⟩ .pen ⟨E15 c0 c2 (.val (.int (w : Nat))) (.val (.loc a)) c5 (.val (.int (j1 : Nat))) (.val (.int (j2 : Nat))) (.val (.loc x)) (.val (.int (j3 : Nat))) c10 c11 c12 c13 c14, n⟩ := ev_var rfl
  by_cases e0 : j2 = 0
  · refine s_ifT1 (tv_is (tw 0) (decide_eq_true e0)) (s_asgG (c_pickL v1 (wc_call (av_1 v1) ⟨rfl, by show n.n < 1000000; omega, fun v hv => ?_⟩)))
    refine wc_ev ev_c (wc_ev ev_c (wc_ev ev_c (wc_ev ev_c (wc_ev ev_c (wc_nil ⟨by show 6 ≤ 100000; decide, _, rfl, by show 0 < 6; decide, by show 6 < 1000; decide, by show n.n + 1 < 1000000; omega, fun d hd => ?_⟩)))))
    have hd' : ∃ v', d = .str v' ∧ WordOk v' := by
      rcases List.mem_cons.mp hd with rfl | hd
      · exact ⟨v, rfl, hv⟩
      · obtain ⟨v', h', rfl⟩ := List.mem_map.mp (show d ∈ txs ["corner", "goal", "1000001", "1000000", "0"] from hd)
        exact ⟨v', rfl, ok_w0 v' h'⟩
    obtain ⟨v', rfl, hv'⟩ := hd'
    refine g_subL (a := x) (j := j3) (ds := txs ws) (ev_var (i := 8) rfl) (ev_var (i := 9) rfl) hx (by rw [txs_len]; exact h3) (hk _ as ?_ ?_)
    · show n.n + 1 + 1 ≤ _; omega
    · show PageS (updS n.st x _) a as _ _
      rw [txs_set]
      exact (ha.line hxa (hws.set hv')).mono (by omega) (by omega)
  refine s_ifF1 (tv_is (tw 0) (decide_eq_false e0)) ?_
  by_cases e1 : j2 = 1 ∧ 1 < ws.length
  · refine s_ifT1 (tv_is (tv_and (tw 1) fun _ => tx) (by rw [decide_eq_true e1.1, decide_eq_true e1.2]; rfl)) (s_drop0 (c_popAt (a := x) (j := j3) (e := .str ws[j3]) (ev_var (i := 8) rfl) (ev_var (i := 9) rfl) hx ?_ (by omega) (hk _ as ?_ ?_)))
    · unfold txs; rw [List.getElem?_map, List.getElem?_eq_getElem h3]; rfl
    · show n.n ≤ _; omega
    · show PageS (updS n.st x _) a as _ _
      rw [txs_erase]
      exact (ha.line hxa (hws.erase e1.2 h3)).mono (by omega) (by omega)
  refine s_ifF1 (tv_is (tv_and (tw 1) fun _ => tx) (by rw [← Bool.not_eq_true, Bool.and_eq_true, decide_eq_true_iff, decide_eq_true_iff]; exact e1)) ?_
  by_cases e2 : j2 = 2
  · refine s_ifT1 (tv_is (tw 2) (decide_eq_true e2)) (s_drop0 (c_ins (a := x) (j := j3) (ev_var (i := 8) rfl) ⟨_, hx⟩ (ev_var (i := 9) rfl) (c_pickL v1 (wc_ev ev_c (wc_ev ev_c (wc_call (av_1 v1) ⟨rfl, by show n.n < 1000000; omega, fun v hv => ?_⟩))))))
    refine wc_nil ⟨by show 3 ≤ 100000; decide, _, rfl, by show 0 < 3; decide, by show 3 < 1000; decide, by show n.n + 1 < 1000000; omega, fun d hd => ?_⟩
    have hd' : ∃ v', d = .str v' ∧ WordOk v' := by
      rcases List.mem_cons.mp hd with rfl | hd
      · exact ⟨_, rfl, ok_w2 _ (by simp)⟩
      · rcases List.mem_cons.mp hd with rfl | hd
        · exact ⟨_, rfl, ok_w2 _ (by simp)⟩
        · exact ⟨v, List.mem_singleton.mp hd, hv⟩
    obtain ⟨v', rfl, hv'⟩ := hd'
    refine ⟨txs ws, j3, rfl, hx, by rw [txs_len]; omega, by omega, hk _ as ?_ ?_⟩
    · show n.n + 1 + 1 ≤ _; omega
    · show PageS (updS n.st x _) a as _ _
      rw [txs_ins]
      exact (ha.mono (by omega) (Nat.le_succ b)).line hxa (hws.ins hv')
  refine s_ifF1 (tv_is (tw 2) (decide_eq_false e2)) ?_
  by_cases e3 : j2 = 3
  · refine s_ifT1 (tv_is (tw 3) (decide_eq_true e3)) (s_drop0 (c_ins (a := a) (j := j1) (ev_var (i := 4) rfl) ⟨_, ha.ob⟩ (ev_var (i := 6) rfl) (c_new (fv_lstOf (a := x) (ev_var (i := 8) rfl) hx) fun y hy => ?_)))
    have hf := ha.fresh hy
    have hp := ha.new (o := .lst (txs ws)) hy
    refine ⟨as.map .loc, j1, rfl, hp.ob, by rw [List.length_map]; omega, by omega, hk _ (as.take j1 ++ [y] ++ as.drop j1) ?_ ?_⟩
    · show n.n ≤ _; omega
    · show PageS (updS (updS n.st y _) a _) a _ _ _
      exact (hp.ins ⟨ws, hws, updS_same⟩ hf.1 j1).mono (Nat.le_refl _) (by omega)
  refine s_ifF1 (tv_is (tw 3) (decide_eq_false e3)) ?_
  by_cases e4 : j2 = 4 ∧ 1 < as.length
  · refine s_ifT1 (tv_is (tv_and (tw 4) fun _ => tl) (by rw [decide_eq_true e4.1, decide_eq_true e4.2]; rfl)) (s_drop0 (c_popAt (a := a) (j := j1) (ev_var (i := 4) rfl) (ev_var (i := 6) rfl) ha.ob (locs_get h1) (by omega) (hk _ (as.eraseIdx j1) ?_ ?_)))
    · show n.n ≤ _; omega
    · show PageS (updS n.st a _) a _ _ _
      rw [locs_erase]
      have hle : (as.eraseIdx j1).length = as.length - 1 := List.length_eraseIdx_of_lt hj1
      exact (ha.lines (c' := c) (fun e => by rw [e] at hle; simp at hle; omega) (by omega) fun y hy => ⟨ha.ne_of (List.mem_of_mem_eraseIdx hy), ha.ln y (List.mem_of_mem_eraseIdx hy)⟩).mono (by omega) (by omega)
  refine s_ifF1 (tv_is (tv_and (tw 4) fun _ => tl) (by rw [← Bool.not_eq_true, Bool.and_eq_true, decide_eq_true_iff, decide_eq_true_iff]; exact e4)) ?_
  by_cases e5 : j2 = 5
  · refine s_ifT1 (tv_is (tw 5) (decide_eq_true e5)) (s_drop0 (c_appL (a := x) (ev_var (i := 8) rfl) ⟨_, hx⟩ (c_pickL v1 (wc_ev ev_c (wc_ev ev_c (wc_ev ev_c (wc_nil ⟨by show 3 ≤ 100000; decide, _, rfl, by show 0 < 3; decide, by show 3 < 1000; decide, by show n.n < 1000000; omega, fun d hd => ?_⟩)))))))
    obtain ⟨v', h', rfl⟩ := List.mem_map.mp (show d ∈ txs ["0", "3", ""] from hd)
    refine ⟨txs ws, hx, by rw [txs_len]; omega, hk _ as ?_ ?_⟩
    · show n.n + 1 ≤ _; omega
    · show PageS (updS n.st x _) a as _ _
      rw [show txs ws ++ [D.str v'] = txs (ws ++ [v']) from txs_app ws [v']]
      exact (ha.mono (by omega) (Nat.le_succ b)).line hxa (hws.app (ok_w5 v' h'))
  refine s_ifF1 (tv_is (tw 5) (decide_eq_false e5)) ?_
  have z0 : ∀ {Qe : WQ} {n : M} {m : Nat} {wm : WE} {c0 c2 c3 c4 c5 c6 c7 c8 c9 c10 c11 c12 c13 c14 : Cell}, m ≤ 20 → EV wm Qe ⟨E15 c0 c2 c3 c4 c5 c6 c7 c8 c9 c10 c11 c12 c13 c14, n⟩ (.int (m : Nat)) ⟨E15 c0 c2 c3 c4 c5 c6 c7 c8 c9 c10 c11 c12 c13 c14, n⟩ → FV (wCatF (wGive (wLst (wCons (wC (.str "corner")) wNil))) (wOp fRep (wGive (wLst (wCons (wC (.str "0")) wNil))) wm)) Qe ⟨E15 c0 c2 c3 c4 c5 c6 c7 c8 c9 c10 c11 c12 c13 c14, n⟩ (txs ("corner" :: List.replicate m "0")) ⟨E15 c0 c2 c3 c4 c5 c6 c7 c8 c9 c10 c11 c12 c13 c14, n⟩ := fun {Qe n m wm c0 c2 c3 c4 c5 c6 c7 c8 c9 c10 c11 c12 c13 c14} hm he => by
    refine fv_cat (xs := txs ["corner"]) (es := txs (List.replicate m "0")) (ev_give (fv_lst (av_1 ev_c) (by show 1 ≤ 100000; decide))) (ev_op (ev_give (fv_lst (ds := [.str "0"]) (av_1 ev_c) (by show 1 ≤ 100000; decide))) he fun R r => ⟨⟨by omega, by omega, ?_⟩, ?_⟩) ?_
    · rw [Int.toNat_natCast]; show 1 * m ≤ _; omega
    · rw [Int.toNat_natCast, rep_txs]; exact r
    · rw [txs_len, txs_len, List.length_replicate]; show 1 + m ≤ _; omega
  by_cases e6 : j2 = 6
  · refine s_ifT1 (tv_is (tw 6) (decide_eq_true e6)) (s_drop0 (c_ins (a := a) (j := j1) (ev_var (i := 4) rfl) ⟨_, ha.ob⟩ (ev_var (i := 6) rfl) (c_pickL v1 ?_)))
    refine wc_new (ds := txs [""]) (fv_lst (av_1 ev_c) (by show 1 ≤ 100000; decide)) fun y1 hy1 => ?_
    refine wc_new (ds := txs ["corner"]) (fv_lst (av_1 ev_c) (by show 1 ≤ 100000; decide)) fun y2 hy2 => ?_
    refine wc_new (ds := txs ("corner" :: List.replicate w "0")) (z0 (by omega) (ev_var (i := 3) rfl)) fun y3 hy3 => ?_
    refine wc_new (ds := txs ["corner", "0"]) (fv_lst (av_cons ev_c (av_1 ev_c)) (by show 2 ≤ 100000; decide)) fun y4 hy4 => ?_
    refine wc_new (ds := txs ["price", "a", "1"]) (fv_lst (av_cons ev_c (av_cons ev_c (av_1 ev_c))) (by show 3 ≤ 100000; decide)) fun y5 hy5 => ?_
    have p1 := ha.new (o := .lst (txs [""])) hy1
    have p2 := p1.new (o := .lst (txs ["corner"])) hy2
    have p3 := p2.new (o := .lst (txs ("corner" :: List.replicate w "0"))) hy3
    have p4 := p3.new (o := .lst (txs ["corner", "0"])) hy4
    have p5 := p4.new (o := .lst (txs ["price", "a", "1"])) hy5
    have up : ∀ {st : Sto} {y z : Addr} {o : SO}, (∃ ws, LineOk b ws ∧ st z = some (.lst (txs ws))) → st y = none → ∃ ws, LineOk b ws ∧ updS st y o z = some (.lst (txs ws)) := fun {st y z o} ⟨ws, g1, g2⟩ hy => ⟨ws, g1, by
      have : z ≠ y := fun e => by rw [e, hy] at g2; cases g2
      rw [updS_ne this]; exact g2⟩
    have q1 := up (o := .lst (txs ["price", "a", "1"])) (up (o := .lst (txs ["corner", "0"])) (up (o := .lst (txs ("corner" :: List.replicate w "0"))) (up (o := .lst (txs ["corner"])) ⟨[""], ok_l1.mono hb.1, updS_same⟩ hy2) hy3) hy4) hy5
    have q2 := up (o := .lst (txs ["price", "a", "1"])) (up (o := .lst (txs ["corner", "0"])) (up (o := .lst (txs ("corner" :: List.replicate w "0"))) ⟨["corner"], ok_l2.mono hb.1, updS_same⟩ hy3) hy4) hy5
    have q3 := up (o := .lst (txs ["price", "a", "1"])) (up (o := .lst (txs ["corner", "0"])) ⟨"corner" :: List.replicate w "0", (line_zero w).mono (by omega), updS_same⟩ hy4) hy5
    have q4 := up (o := .lst (txs ["price", "a", "1"])) ⟨["corner", "0"], ok_l4.mono hb.1, updS_same⟩ hy5
    have q5 : ∀ {st : Sto}, ∃ ws, LineOk b ws ∧ updS st y5 (.lst (txs ["price", "a", "1"])) y5 = some (.lst (txs ws)) := fun {st} => ⟨["price", "a", "1"], ok_l5.mono hb.1, updS_same⟩
    refine wc_nil ⟨by show 5 ≤ 100000; decide, _, rfl, by show 0 < 5; decide, by show 5 < 1000; decide, by show n.n < 1000000; omega, fun d hd => ?_⟩
    have fin : ∀ y, (∃ ws, LineOk b ws ∧ updS (updS (updS (updS (updS n.st y1 (.lst (txs [""]))) y2 (.lst (txs ["corner"]))) y3 (.lst (txs ("corner" :: List.replicate w "0")))) y4 (.lst (txs ["corner", "0"]))) y5 (.lst (txs ["price", "a", "1"])) y = some (.lst (txs ws))) → y ≠ a → _ := fun y hy hya => hk ⟨n.n + 1, _⟩ (as.take j1 ++ [y] ++ as.drop j1) (by show n.n + 1 ≤ _; omega) ((p5.ins hy hya j1).mono (Nat.le_refl _) (by omega))
    have g1 := (ha.fresh hy1).1
    have g2 := (p1.fresh hy2).1
    have g3 := (p2.fresh hy3).1
    have g4 := (p3.fresh hy4).1
    have g5 := (p4.fresh hy5).1
    have hd' : ∃ y, d = .loc y ∧ y ≠ a ∧ (∃ ws, LineOk b ws ∧ updS (updS (updS (updS (updS n.st y1 (.lst (txs [""]))) y2 (.lst (txs ["corner"]))) y3 (.lst (txs ("corner" :: List.replicate w "0")))) y4 (.lst (txs ["corner", "0"]))) y5 (.lst (txs ["price", "a", "1"])) y = some (.lst (txs ws))) := by
      simp only [List.mem_cons, List.not_mem_nil, or_false] at hd
      rcases hd with rfl | rfl | rfl | rfl | rfl
      · exact ⟨_, rfl, g1, q1⟩
      · exact ⟨_, rfl, g2, q2⟩
      · exact ⟨_, rfl, g3, q3⟩
      · exact ⟨_, rfl, g4, q4⟩
      · exact ⟨_, rfl, g5, q5⟩
    obtain ⟨y, rfl, hya, hy⟩ := hd'
    exact ⟨as.map .loc, j1, rfl, p5.ob, by rw [List.length_map]; omega, by omega, fin y hy hya⟩
  refine s_ifF1 (tv_is (tw 6) (decide_eq_false e6)) ?_
  refine s_asgG (c_new (ds := txs ("corner" :: List.replicate ws.length "0")) (z0 (by omega) ?_) fun y hy => ?_)
  · have := ev_lenU (Qe := Qe) (s := ⟨E15 c0 c2 (.val (.int (w : Nat))) (.val (.loc a)) c5 (.val (.int (j1 : Nat))) (.val (.int (j2 : Nat))) (.val (.loc x)) (.val (.int (j3 : Nat))) c10 c11 c12 c13 c14, n⟩) (wa := wVar 8) (ev_var rfl) hx
    rw [txs_len] at this
    exact this
  · have hf := ha.fresh hy
    have hp := ha.new (o := .lst (txs ("corner" :: List.replicate ws.length "0"))) hy
    refine g_subL (a := a) (j := j1) (ds := as.map .loc) (ev_var (i := 4) rfl) (ev_var (i := 6) rfl) hp.ob (by rw [List.length_map]; exact hj1) (hk _ (as.set j1 y) ?_ ?_)
    · show n.n ≤ _; omega
    · show PageS (updS (updS n.st y _) a (.lst ((as.map D.loc).set j1 (.loc y)))) a _ _ _
      rw [show (as.map D.loc).set j1 (.loc y) = (as.set j1 y).map D.loc by rw [List.map_set]]
      refine ((hp.mono (b' := b + 1) (Nat.le_refl c) (by omega)).lines (c' := c) (fun e => ha.ne (by have := congrArg List.length e; simpa using this)) (by rw [List.length_set]; exact ha.len) fun z hz => ?_).mono (by omega) (Nat.le_refl _)
      rcases List.mem_or_eq_of_mem_set hz with hz | rfl
      · exact ⟨hp.ne_of hz, (hp.mono (b' := b + 1) (Nat.le_refl c) (by omega)).ln z hz⟩
      · exact ⟨hf.1, _, (line_zero ws.length).mono (by omega), updS_same⟩
theorem lap_step (hw : 1 ≤ w ∧ w ≤ 6) (hn : n.n < 800000) (hc : c ≤ 15) (hb : 7 ≤ b ∧ b ≤ 15) (ha : PageS n.st a as c b)
    (hk : ∀ n' as' c6 c7 c8 c9, n'.n ≤ n.n + 5 → PageS n'.st a as' (c + 1) (b + 1) → De.nx ⟨E15 c0 c2 (.val (.int (w : Nat))) (.val (.loc a)) c5 c6 c7 c8 c9 c10 c11 c12 c13 c14, n'⟩) :
    wLap Qe De ⟨E15 c0 c2 (.val (.int (w : Nat))) (.val (.loc a)) c5 c6 c7 c8 c9 c10 c11 c12 c13 c14, n⟩ := by
  unfold wLap
  have hl := ha.len
  have hlen : 0 < as.length := List.length_pos_iff.mpr ha.ne
  refine s_par2 (ds1 := [.pen, .int (as.length : Nat)]) (av_cons (ev_var (i := 1) rfl) (av_1 ?_)) ⟨as.length, rfl, hlen, by omega, by show n.n < 1000000; omega, fun j1 hj1 => ?_⟩
  · have := ev_lenU (Qe := Qe) (s := ⟨E15 c0 c2 (.val (.int (w : Nat))) (.val (.loc a)) c5 c6 c7 c8 c9 c10 c11 c12 c13 c14, n⟩) (wa := wVar 4) (ev_var rfl) ha.ob
    rw [List.length_map] at this
    exact this
  refine c_call (ds := [.pen, .int ((8 : Nat) : Int)]) (av_cons (ev_var (i := 1) rfl) (av_1 ev_c)) ⟨8, rfl, by decide, by decide, by show n.n + 1 < _; omega, fun j2 hj2 => ?_⟩
  show wSeq _ _ Qe De ⟨E15 c0 c2 (.val (.int (w : Nat))) (.val (.loc a)) c5 (.val (.int (j1 : Nat))) (.val (.int (j2 : Nat))) c8 c9 c10 c11 c12 c13 c14, ⟨n.n + 1 + 1, n.st⟩⟩
  have hx1 : as[j1]? = some as[j1] := List.getElem?_eq_getElem hj1
  refine s_asg (ev_ixU (j := j1) (ev_var (i := 4) rfl) (ev_var (i := 6) rfl) ha.ob (locs_get hx1)) ?_
  generalize as[j1] = x at hx1
  show wSeq _ _ Qe De ⟨E15 c0 c2 (.val (.int (w : Nat))) (.val (.loc a)) c5 (.val (.int (j1 : Nat))) (.val (.int (j2 : Nat))) (.val (.loc x)) c9 c10 c11 c12 c13 c14, ⟨n.n + 1 + 1, n.st⟩⟩
  obtain ⟨ws, hws, hx⟩ := ha.ln x (List.mem_of_getElem? hx1)
  have hwl := hws.2.1
  have hwp : 0 < ws.length := List.length_pos_iff.mpr hws.1
  refine s_asgC (s1 := ⟨E15 c0 c2 (.val (.int (w : Nat))) (.val (.loc a)) c5 (.val (.int (j1 : Nat))) (.val (.int (j2 : Nat))) (.val (.loc x)) c9 c10 c11 c12 c13 c14, ⟨n.n + 1 + 1, n.st⟩⟩) (ds := [.pen, .int (ws.length : Nat)]) (av_cons (ev_var (i := 1) rfl) (av_1 ?_)) ⟨ws.length, rfl, hwp, by omega, by show n.n + 1 + 1 < _; omega, fun j3 hj3 => ?_⟩
  · have := ev_lenU (Qe := Qe) (s := ⟨E15 c0 c2 (.val (.int (w : Nat))) (.val (.loc a)) c5 (.val (.int (j1 : Nat))) (.val (.int (j2 : Nat))) (.val (.loc x)) c9 c10 c11 c12 c13 c14, ⟨n.n + 1 + 1, n.st⟩⟩) (wa := wVar 8) (ev_var rfl) hx
    rw [txs_len] at this
    exact this
  show wIfs Qe De ⟨E15 c0 c2 (.val (.int (w : Nat))) (.val (.loc a)) c5 (.val (.int (j1 : Nat))) (.val (.int (j2 : Nat))) (.val (.loc x)) (.val (.int (j3 : Nat))) c10 c11 c12 c13 c14, ⟨n.n + 1 + 1 + 1, n.st⟩⟩
  exact ifs_step hw (by show n.n + 1 + 1 + 1 < _; omega) hc hb ha hx1 hx hws hj3 fun n' as' hn' hp => hk n' as' _ _ _ _ (by have : n'.n ≤ n.n + 1 + 1 + 1 + 2 := hn'; omega) hp
end
end K78
set_option Elab.async false
set_option linter.all false
set_option maxRecDepth 100000
set_option maxHeartbeats 4000000
namespace K78
open PySem L2 Evl DL LamX LamD
section
variable {Qe : WQ} {De : DEnds} {s s1 : S} {ds : List D} {d e z : D} {wa wb wl w1 w2 w3 : WE} {wi : WI} {we : WE} {W : WS} {i u v : Nat} {T : List (Addr × Str)} {Wd : Addr → Option Str} {Tx Tm : Addr → Prop} {C : Addr} {sp : DSp} {dds : List D} {wr : WA}
theorem fv_mapW {k : D → D} (h : IV wi Qe s ds s1) (hl : ds.length ≤ 100000) (he : ∀ d ∈ ds, EV we Qf ⟨s1.env.set v (.val d), s1.n⟩ (k d) ⟨s1.env.set v (.val d), s1.n⟩) : FV (wLc [v] wi (wgName v) wTrue we) Qe s (ds.map k) ⟨s1.env.set v .unb, s1.n⟩ := fun Q q => h _ (by
  refine lc_map (s0 := ⟨s1.env.set v .unb, s1.n⟩) (f := k) ds [] s1 rfl (by simpa using hl) (fun d hd R kk => ?_) (by simpa using q)
  show we Qf ⟨(s1.env.set v .unb).set v (.val d), s1.n⟩ R
  rw [List.set_set]
  refine he d hd _ (kk _ ?_)
  show (⟨(s1.env.set v (.val d)).set v .unb, s1.n⟩ : S) = _
  rw [List.set_set])
theorem s_asgT2 (h : EV wa Qe s (.tup [d, e]) s1) (q : W Qe De ⟨(s1.env.set u (.val d)).set v (.val e), s1.n⟩) : wSeq (wAsg wa (wgTup 2 (wgCons (wgName u) (wgCons (wgName v) wgNil)))) W Qe De s := h _ (wg_two q)
theorem s_asgHear (hT : Qe.tb = T ∧ T ≠ []) (q : wl ⟨fun C fs n' => ∃ ts, HearD Wd Tx Tm C fs ts ∧ W Qe De ⟨s.env.set i (.val (.tup ts)), n'⟩, []⟩ ⟨hideE s.env, s.n⟩ fun d s1 => W Qe De ⟨s.env.set i (.val (.lst [d])), s1.n⟩) : wSeq (wAsg (wHear T Wd Tx Tm wl) (wgName i)) W Qe De s := ⟨hT, q⟩
/-- told whatever the store is, and whatever it comes to -/
def HQ (wa : WE) (Qe : WQ) (env : List Cell) (n : Nat) (d : D) : Prop := ∀ st (Q : D → S → Prop), (∀ st', Q d ⟨env, ⟨n, st'⟩⟩) → wa Qe ⟨env, ⟨n, st⟩⟩ Q
theorem s_asg3 {env : List Cell} {n : Nat} {st : Sto} {d1 d2 d3 : D} (h1 : HQ w1 Qe env n d1) (h2 : HQ w2 Qe env n d2) (h3 : HQ w3 Qe env n d3) (q : ∀ st, W Qe De ⟨env.set i (.val (.lst [d1, d2, d3])), ⟨n, st⟩⟩) : wSeq (wAsg (wGive (wLst (wCons w1 (wCons w2 (wCons w3 wNil))))) (wgName i)) W Qe De ⟨env, ⟨n, st⟩⟩ :=
  h1 _ _ fun st1 => h2 _ _ fun st2 => h3 _ _ fun st3 => ⟨by show 3 ≤ 100000; decide, q st3⟩
theorem s_asgAdd3 {env : List Cell} {n : Nat} {st : Sto} {d1 d2 d3 : D} {ds : List D} (h0 : HQ wa Qe env n (.lst ds)) (hl : ds.length ≤ 1000) (h1 : HQ w1 Qe env n d1) (h2 : HQ w2 Qe env n d2) (h3 : HQ w3 Qe env n d3) (q : ∀ st, W Qe De ⟨env.set i (.val (.lst (ds ++ [d1, d2, d3]))), ⟨n, st⟩⟩) : wSeq (wAsg (wOp fAdd wa (wGive (wLst (wCons w1 (wCons w2 (wCons w3 wNil)))))) (wgName i)) W Qe De ⟨env, ⟨n, st⟩⟩ :=
  h0 _ _ fun st0 => h1 _ _ fun st1 => h2 _ _ fun st2 => h3 _ _ fun st3 => ⟨by show 3 ≤ 100000; decide, by show ds.length + 3 ≤ 100000; omega, q st3⟩
end
theorem f_neSame {d : D} (h1 : d.dat = true) (h2 : SeqAt.shaped d.py = true) (R : D → Prop) (r : R (.bl false)) : fEq true d d R := ⟨true, .inr ⟨⟨h1, h1, h2, h2⟩, SeqAt.eqv_refl _ (SeqAt.canLay_of_shaped h2)⟩, r⟩
theorem f_eqSame {d : D} (h1 : d.dat = true) (h2 : SeqAt.shaped d.py = true) (R : D → Prop) (r : R (.bl true)) : fEq false d d R := ⟨true, .inr ⟨⟨h1, h1, h2, h2⟩, SeqAt.eqv_refl _ (SeqAt.canLay_of_shaped h2)⟩, r⟩
def heardD (i j : Nat) : D := .tup [.str "text", .int (i : Nat), .int (j : Nat)]
theorem heard_shaped (i j : Nat) : SeqAt.shaped (heardD i j).py = true := by
  have h : PyData.strOk ("text" : Str) = true := by decide +kernel
  simp [heardD, D.py, D.pys, SeqAt.shaped, PyData.canLay0, PyData.canLayAll0, h, PyData.depth, PyData.depthAll]
def intN (i : Nat) : D := .int (i : Nat)
theorem row_can : ∀ l : List Nat, PyData.canLayAll0 (D.pys (l.map intN)) = true
  | [] => rfl
  | x :: l => by
    rw [List.map_cons, D.pys, PyData.canLayAll0, row_can l]; rfl
theorem rows_can : ∀ cs : List (List Nat), PyData.canLayAll0 (D.pys (cs.map rowN)) = true
  | [] => rfl
  | r :: cs => by
    rw [List.map_cons, D.pys, PyData.canLayAll0, rows_can cs, Bool.and_true]
    show PyData.canLay0 (.tuple (D.pys (r.map intN))) = true
    rw [PyData.canLay0]; exact row_can r
theorem row_dat : ∀ l : List Nat, D.dats (l.map intN) = true
  | [] => rfl
  | x :: l => by rw [List.map_cons, D.dats, row_dat l]; rfl
theorem rows_dat : ∀ cs : List (List Nat), D.dats (cs.map rowN) = true
  | [] => rfl
  | r :: cs => by
    rw [List.map_cons, D.dats, rows_dat cs, Bool.and_true]
    show D.dats (r.map intN) = true
    exact row_dat r
end K78
set_option Elab.async false
set_option linter.all false
set_option maxRecDepth 100000
set_option maxHeartbeats 4000000
namespace K78
open PySem L2 Evl DL LamX LamD
theorem row_depth : ∀ l : List Nat, PyData.depthAll (D.pys (l.map intN)) = 0
  | [] => rfl
  | x :: l => by rw [List.map_cons, D.pys, PyData.depthAll, row_depth l]; rfl
theorem rows_depth : ∀ cs : List (List Nat), PyData.depthAll (D.pys (cs.map rowN)) ≤ 1
  | [] => by show 0 ≤ 1; decide
  | r :: cs => by
    have h := rows_depth cs
    have e : PyData.depth (rowN r).py = 1 := by
      show PyData.depth (.tuple (D.pys (r.map intN))) = 1
      rw [PyData.depth, row_depth]
    rw [List.map_cons, D.pys, PyData.depthAll, e]
    exact Nat.max_le.mpr ⟨Nat.le_refl _, h⟩
theorem cN_dat (cs : List (List Nat)) : (cN cs).dat = true := by
  unfold cN; rw [D.dat]; exact rows_dat cs
theorem cN_shaped (cs : List (List Nat)) : SeqAt.shaped (cN cs).py = true := by
  have h := rows_depth cs
  unfold cN
  rw [D.py, SeqAt.shaped, Bool.and_eq_true]
  refine ⟨by rw [PyData.canLay0]; exact rows_can cs, decide_eq_true ?_⟩
  rw [PyData.depth]; omega
def valW (w : Str) : Nat := (wholeW w).getD 0
def rowOf (ws : List Str) : List Nat := (ws.drop 1).map valW
theorem getD_map : ∀ (r : List Nat), (r.map some).map (fun o : Option Nat => o.getD 0) = r := fun r => by rw [List.map_map]; exact List.map_id r
theorem rows_is {wss : List (List Str)} {cs : List (List Nat)} (h : cs.map (fun r => r.map some) = wss.map fun ws => (ws.drop 1).map wholeW) : cs = wss.map rowOf := by
  have h2 := congrArg (List.map (List.map fun o : Option Nat => o.getD 0)) h
  rw [List.map_map, List.map_map] at h2
  have e : cs.map ((List.map fun o : Option Nat => o.getD 0) ∘ fun r => r.map some) = cs := by
    have : ∀ r ∈ cs, ((List.map fun o : Option Nat => o.getD 0) ∘ fun r => r.map some) r = id r := fun r _ => getD_map r
    rw [List.map_congr_left this, List.map_id]
  rw [e] at h2
  rw [h2]
  refine List.map_congr_left fun ws _ => ?_
  show ((ws.drop 1).map wholeW).map _ = (ws.drop 1).map valW
  rw [List.map_map]; rfl
theorem whole_some {wss : List (List Str)} {cs : List (List Nat)} (h : cs.map (fun r => r.map some) = wss.map fun ws => (ws.drop 1).map wholeW) {ws : List Str} (hw : ws ∈ wss) {w : Str} (hm : w ∈ ws.drop 1) : ∃ v, wholeW w = some v := by
  have h1 : ((ws.drop 1).map wholeW) ∈ cs.map (fun r => r.map some) := by rw [h]; exact List.mem_map_of_mem (f := fun ws : List Str => (ws.drop 1).map wholeW) hw
  obtain ⟨r, _, hr⟩ := List.mem_map.mp h1
  have h2 : wholeW w ∈ r.map some := by rw [hr]; exact List.mem_map_of_mem hm
  obtain ⟨v, _, hv⟩ := List.mem_map.mp h2
  exact ⟨v, hv.symm⟩
theorem whole_int {w : Str} {v : Nat} (h : wholeW w = some v) : PySem.intText? w = some ((valW w : Nat) : Int) ∧ w.length ≤ 640 := by
  have hv : valW w = v := by unfold valW; rw [h]; rfl
  unfold wholeW at h
  split at h
  · cases h
  · rename_i h1
    split at h
    · cases h
    · split at h
      · cases h
        simp only [Bool.or_eq_true, decide_eq_true_eq, Bool.not_eq_true', not_or, Bool.not_eq_false] at h1
        exact ⟨by rw [hv]; exact int_dig h1.2 h1.1.2 (by omega), by omega⟩
      · cases h
theorem cut1 (ds : List D) : cutD ds (some 1) none = ds.drop 1 := by
  unfold cutD
  have e : HT.sIx ds.length 0 (some 1) = min 1 ds.length := HT.sIx_nat ds.length 0 1
  rw [e, HT.sIx_none]
  cases ds with
  | nil => rfl
  | cons x l =>
    have : min 1 (x :: l).length = 1 := by simp
    rw [this, List.take_of_length_le (by rw [List.length_drop]; omega)]
def kRow : D → D
  | .lst l => .tup ((l.drop 1).map fun d => intN (valW (strOf d)))
  | d => d
theorem kRow_txs (ws : List Str) : kRow (.lst (txs ws)) = rowN (rowOf ws) := by
  show D.tup (((txs ws).drop 1).map _) = D.tup ((rowOf ws).map intN)
  unfold rowOf txs
  rw [← List.map_drop, List.map_map, List.map_map]; rfl
section
variable {Qe : WQ} {De : DEnds} {n : M} {c0 c2 c3 c4 c5 c6 c7 c8 c9 c10 c11 c12 c13 c14 : Cell} {w c b : Nat} {a x : Addr} {as : List Addr} {T : List (Addr × Str)} {Wd : Addr → Option Str} {Tx Tm : Addr → Prop} {CFi CF CT CLi CLs : Addr}
theorem ev_fwd {d : D} {wa : WE} {s s1 : S} (h : EV wa Qe s d s1) {lo : Option Int} {wl wh : WO} {ds : List D} (hd : d = .lst ds) (hl : ∀ Q : Option Int → S → Prop, Q (some 1) s1 → wl Qe s1 Q) (hh : ∀ Q : Option Int → S → Prop, Q none s1 → wh Qe s1 Q) : EV (wSl wa wl wh) Qe s (.lst (ds.drop 1)) s1 := fun Q q => h _ (hl _ (hh _ (by
  subst hd
  show Q (.lst (cutD ds (some 1) none)) s1
  rw [cut1]; exact q)))
theorem tail_step (hT : Qe.tb = T ∧ T ≠ []) (hTx : Tx CT) (hc : c ≤ 20) (hb : b ≤ 20) (ha : PageS n.st a as c b)
    (hk : ∀ n' c4 c8 c10 c11 c12, n'.n = n.n → De.nx ⟨E15 c0 c2 c3 c4 c5 c6 c7 c8 c9 c10 c11 c12 .unb c14, n'⟩) :
    wTail T Wd Tx Tm CFi CF CT CLi CLs Qe De ⟨E15 c0 c2 c3 (.val (.loc a)) c5 c6 c7 c8 c9 c10 c11 c12 .unb c14, n⟩ := by
  obtain ⟨wss, hl, hok, hst⟩ := ha.words
  have hp : PageOk wss := ⟨fun e => ha.ne (List.length_eq_zero_iff.mp (by rw [← hl, e]; rfl)), by rw [hl]; have := ha.len; omega, fun ws hw => (hok ws hw).mono hb⟩
  have hne : ∀ ws ∈ wss, ws ≠ [] := fun ws hw => (hok ws hw).1
  unfold wTail
  refine ⟨a, as, wss.map txs, rfl, ha.ob, by simp [hl], fun j y ds hy hd => ?_, ?_⟩
  · rw [List.getElem?_map] at hd
    cases hw : wss[j]? with
    | none => rw [hw] at hd; cases hd
    | some ws => rw [hw] at hd; cases hd; exact hst j y ws hy hw
  have e : (wss.map txs).map D.lst = wss.map fun ws => .lst (txs ws) := by rw [List.map_map]; rfl
  rw [e]
  show wSeq _ _ Qe De ⟨E15 c0 c2 c3 (.val (pageD wss)) c5 c6 c7 c8 c9 c10 c11 c12 .unb c14, ⟨n.n, noS⟩⟩
  refine s_asgT2 (ev_tup (av_cons (DL.ev_call (n' := ⟨n.n, noS⟩) (av_1 (ev_var (i := 4) rfl)) fun Q q => ⟨wss, rfl, hp, q⟩) (av_1 (DL.ev_call (n' := ⟨n.n, noS⟩) (av_1 (ev_var (i := 4) rfl)) fun Q q => ⟨wss, rfl, hp, q⟩))) (by show 2 ≤ 100000; decide)) ?_
  show wSeq _ _ Qe De ⟨E15 c0 c2 c3 (.val (pageD wss)) c5 c6 c7 c8 c9 (.val (.str (joined wss))) (.val (badD wss)) c12 .unb c14, ⟨n.n, noS⟩⟩
  have hwj := words_joined hp
  refine s_asgHear hT (c_call (s1 := ⟨hideE (E15 c0 c2 c3 (.val (pageD wss)) c5 c6 c7 c8 c9 (.val (.str (joined wss))) (.val (badD wss)) c12 .unb c14), ⟨n.n, noS⟩⟩) (av_1 (ev_var (i := 10) rfl)) ⟨joined wss, rfl, joined_len hp, fun cs h st => ?_, fun i j h st => ⟨_, .text hTx, ?_⟩⟩)
  · rw [hwj] at h
    have hbd : badD wss = .non := by unfold badD; rw [h]
    have hrw := readF_words hne h
    have hcs := rows_is hrw
    rw [hbd]
    show wIfS _ _ _ Qe De ⟨E15 c0 c2 c3 (.val (pageD wss)) c5 c6 c7 c8 c9 (.val (.str (joined wss))) (.val .non) (.val (.lst [fieldD CFi cs])) .unb c14, ⟨n.n, st⟩⟩
    refine s_ifF1 (tv_T (ev_notN (d := .non) (ev_var (i := 11) rfl))) ?_
    have t1 := tv_not (tv_T (ev_isi (p := isT "list") (ev_var (i := 12) (Qe := Qe) (s := ⟨E15 c0 c2 c3 (.val (pageD wss)) c5 c6 c7 c8 c9 (.val (.str (joined wss))) (.val .non) (.val (.lst [fieldD CFi cs])) .unb c14, ⟨n.n, st⟩⟩) rfl) rfl))
    have t1' := tv_is t1 (show (!isT "list" (.lst [fieldD CFi cs])) = false by rfl)
    have t2 : EV (wTupOf (wGive (wLc [8] (wSeqI (wVar 4)) (wgName 8) wTrue (wTupOf (wGive (wLc [13] (wSeqI (wSl (wVar 8) (wPart (wC (.int 1))) wNoPart)) (wgName 13) wTrue (wCB gIntS (wCons (wVar 13) wNil)))))))) Qe ⟨E15 c0 c2 c3 (.val (pageD wss)) c5 c6 c7 c8 c9 (.val (.str (joined wss))) (.val .non) (.val (.lst [fieldD CFi cs])) .unb c14, ⟨n.n, st⟩⟩ (cN cs) ⟨E15 c0 c2 c3 (.val (pageD wss)) c5 c6 c7 .unb c9 (.val (.str (joined wss))) (.val .non) (.val (.lst [fieldD CFi cs])) .unb c14, ⟨n.n, st⟩⟩ := by
      have e2 : (wss.map fun ws => D.lst (txs ws)).map kRow = cs.map rowN := by
        rw [List.map_map]
        conv => rhs; rw [hcs]
        rw [List.map_map]
        exact List.map_congr_left fun ws _ => kRow_txs ws
      unfold cN
      rw [← e2]
      refine ev_tupOf (ev_give (fv_mapW (v := 8) (iv_seq (ev_var (i := 4) rfl) (.inl rfl)) (by have := hp.2.1; simp; omega) fun d hd => ?_)) (.inl rfl)
      obtain ⟨ws, hws, rfl⟩ := List.mem_map.mp hd
      have hws20 := (hp.2.2 ws hws).2.1
      show EV _ Qf ⟨E15 c0 c2 c3 (.val (pageD wss)) c5 c6 c7 (.val (.lst (txs ws))) c9 (.val (.str (joined wss))) (.val .non) (.val (.lst [fieldD CFi cs])) .unb c14, ⟨n.n, st⟩⟩ (.tup (((txs ws).drop 1).map fun d => intN (valW (strOf d)))) ⟨E15 c0 c2 c3 (.val (pageD wss)) c5 c6 c7 (.val (.lst (txs ws))) c9 (.val (.str (joined wss))) (.val .non) (.val (.lst [fieldD CFi cs])) .unb c14, ⟨n.n, st⟩⟩
      refine ev_tupOf (ev_give (fv_map (v := 13) (iv_seq (ev_fwd (lo := some 1) (ev_var (i := 8) rfl) rfl (fun Q q => q) fun Q q => q) (.inl rfl)) ?_ rfl fun d hd => ?_)) (.inl rfl)
      · rw [List.length_drop, txs_len]; omega
      · unfold txs at hd
        rw [← List.map_drop] at hd
        obtain ⟨w, hw, rfl⟩ := List.mem_map.mp hd
        obtain ⟨v, hv⟩ := whole_some hrw hws hw
        have hi := whole_int hv
        exact ev_cb (av_1 (ev_var (i := 13) rfl)) fun R r => ⟨_, hi.1, hi.2, r⟩
    have t3 := tv_orF t1' (tv_T (ev_op (ev_fld (C := CFi) (x := "corners") (ev_op (z := fieldD CFi cs) (ev_var (i := 12) rfl) ev_c (f_ix (i := 0) (.inl rfl) rfl)) rfl) t2 (f_neSame (cN_dat cs) (cN_shaped cs))))
    exact s_ifF1 t3 (hk _ _ _ _ _ _ rfl)
  · rw [hwj] at h
    have hbd : badD wss = .tup [.int (i : Nat), .int (j : Nat)] := by unfold badD; rw [h]
    rw [hbd]
    show wIfS _ _ _ Qe De ⟨E15 c0 c2 c3 (.val (pageD wss)) c5 c6 c7 c8 c9 (.val (.str (joined wss))) (.val (.tup [.int (i : Nat), .int (j : Nat)])) (.val (heardD i j)) .unb c14, ⟨n.n, st⟩⟩
    refine s_ifT1 (tv_T (ev_notN (d := .tup [.int (i : Nat), .int (j : Nat)]) (ev_var (i := 11) rfl))) ?_
    refine s_ifF1 (tv_T (ev_op (ev_var (i := 12) rfl) (ev_op (z := heardD i j) (ev_tup (av_1 ev_c) (by show 1 ≤ 100000; decide)) (ev_var (i := 11) rfl) fun R r => ⟨by show 1 + 2 ≤ 100000; decide, r⟩) (f_neSame rfl (heard_shaped i j)))) (hk _ _ _ _ _ _ rfl)
end
end K78
set_option Elab.async false
set_option linter.all false
set_option maxRecDepth 100000
set_option maxHeartbeats 4000000
namespace K78
open PySem L2 Evl DL LamX LamD
/-! ### the fixed texts at the end -/
def isErr (wss : List (List Str)) (i j : Nat) : Bool := match readF wss with
  | .error (a, b) => a == i && b == j
  | .ok _ => false
theorem isErr_of {wss : List (List Str)} {i j : Nat} (h : isErr wss i j = true) : readF wss = .error (i, j) := by
  unfold isErr at h
  split at h
  · rename_i a b e
    rw [Bool.and_eq_true, beq_iff_eq, beq_iff_eq] at h
    rw [e, h.1, h.2]
  · cases h
instance (b : Nat) (ws : List Str) : Decidable (LineOk b ws) := by unfold LineOk; infer_instance
instance (wss : List (List Str)) : Decidable (PageOk wss) := by unfold PageOk; infer_instance
theorem err_text {t : Str} {wss : List (List Str)} {i j : Nat} (ht : t = joined wss) (hp : PageOk wss) (h : isErr wss i j = true) : t.length ≤ 80000 ∧ readF (wordsOf t) = .error (i, j) := by
  subst ht
  exact ⟨joined_len hp, by rw [words_joined hp]; exact isErr_of h⟩
section
variable {Qe : WQ} {De : DEnds} {env : List Cell} {n : Nat} {st : Sto} {T : List (Addr × Str)} {Wd : Addr → Option Str} {Tx Tm : Addr → Prop} {CFi CF CT CLi CLs C : Addr} {wa wb : WE} {d e z : D} {f : F2} {t x : Str} {i j : Nat}
theorem hq_read (hT : Qe.tb = T ∧ T ≠ []) (hTx : Tx CT) (h : t.length ≤ 80000 ∧ readF (wordsOf t) = .error (i, j)) : HQ (wHear T Wd Tx Tm (wCall (sp_read_field CLi CLs CFi CT) (wCons (wC (.str t)) wNil))) Qe env n (heardD i j) := fun st Q q =>
  ⟨hT, c_call (av_1 ev_c) ⟨t, rfl, h.1, fun cs e => (by rw [h.2] at e; cases e), fun i' j' e st' => ⟨_, .text hTx, by rw [h.2] at e; cases e; exact q st'⟩⟩⟩
theorem c_mk {C : Addr} {sp : DSp} {dds ds : List D} {wr : WA} {s s1 : S} {Q : D → S → Prop} (h : AV wr Qe s ds s1) (hs : ∀ x, s1.n.st x = none → sp (.loc x :: (ds ++ dds)) ⟨s1.n.n, updS s1.n.st x (.ins C [] [])⟩ (fun d n' => d = .non ∧ ∃ a C' ns ds', (D.loc x) = .loc a ∧ n'.st a = some (.ins C' ns ds') ∧ Q (.obj C' ns ds') (withS ⟨s1.env, n'⟩ (eraS n'.st a))) Qe.only) : wFrzO (wMakeD C sp dds wr) Qe s Q := h _ hs
theorem s_asgPickL {wp : WE} {wr : WA} {sp : DSp} {W : WS} {i : Nat} {s : S} (h : EV wp Qe s .pen s) (q : wr Qe s fun ds s1 => ds.length ≤ 100000 ∧ sp [.pen, .lst ds] s1.n (fun d n' => W Qe De ⟨s1.env.set i (.val d), n'⟩) Qe.only) : wSeq (wAsg (wCall sp (wCons wp (wCons (wGive (wLst wr)) wNil))) (wgName i)) W Qe De s := h _ q
theorem hq_op (h : HQ wa Qe env n d) (k : ∀ st, EV wb Qe ⟨env, ⟨n, st⟩⟩ e ⟨env, ⟨n, st⟩⟩) (hf : ∀ R : D → Prop, R z → f d e R) : HQ (wOp f wa wb) Qe env n z := fun st Q q => h _ _ fun st1 => (k st1) _ (hf _ (q st1))
theorem hq_fld {ns : List Str} {ds : List D} (h : HQ wa Qe env n (.obj C ns ds)) (hl : (ns.zip ds).lookup x = some z) : HQ (wFldU C x wa) Qe env n z := fun st Q q => h _ _ fun st1 => ⟨rfl, z, hl, q st1⟩
theorem s_retAnd (h : HQ wa Qe env n (.bl true)) (k : HQ wb Qe env n d) (q : ∀ st, De.rt d ⟨n, st⟩) : wRet (wAndV wa wb) Qe De ⟨env, ⟨n, st⟩⟩ := h _ _ fun st1 => k _ _ fun st2 => q st2
theorem hq_odd (hT : Qe.tb = T ∧ T ≠ []) (hF : Wd CF = some ("field" : Str)) (he : (hideE env)[i]? = some (.val d)) (hp : plain d = true) (hn : nd d ≤ 900) (hc : cornersD d = .non) : HQ (wHear T Wd Tx Tm (wFrzO (wMakeD CFi (sp_finit CFi CF) [] (wCons (wVar i) wNil)))) Qe env n (.tup [.str "field", .str "corners"]) := fun st Q q => by
  refine ⟨hT, ?_⟩
  refine c_mk (av_1 (ev_var (s := ⟨hideE env, ⟨n, st⟩⟩) he)) fun x hx => ⟨x, d, rfl, updS_same, hp, hn, fun _ st' => ⟨_, .part hF, q st'⟩, fun h => absurd hc h⟩
theorem hq_make (ha : ∀ st, EV wa Qe ⟨env, ⟨n, st⟩⟩ d ⟨env, ⟨n, st⟩⟩) (hp : plain d = true) (hn : nd d ≤ 900) (hc : cornersD d ≠ .non) : HQ (wFrzO (wMakeD CFi (sp_finit CFi CF) [] (wCons wa wNil))) Qe env n (.obj CFi ["corners", "width"] [cornersD d, .int (tupLen (cornersD d) : Nat)]) := fun st Q q => by
  refine c_mk (av_1 (ha st)) fun x hx => ⟨x, d, rfl, updS_same, hp, hn, fun h => absurd h hc, fun _ => ⟨rfl, x, CFi, _, _, rfl, updS_same, ?_⟩⟩
  exact q _
end
def e7a : D := .tup (List.replicate 7 [D.tup [.int 1]]).flatten
def e7b : D := .tup (List.replicate 7 [D.int 1]).flatten
def oddL : List D := [.non, .tup [], .int 5, .str "ab", .tup [.tup [.int 0, .int 0]], .tup [.tup [.int 1, .int 2], .tup [.int 1]], e7a, .tup [e7b], .tup [.tup [.int (-1), .int 2]], .tup [.tup [.bl true, .int 1]], .tup [.tup [.int 1000001]], .tup [.tup []], .dct [] [], .tup [.int 5], .tup [.tup [.str "1"]], .tup [.tup [.int 1], .non]]
theorem odd_all : (oddL.all fun d => plain d && decide (nd d ≤ 900) && nonB (cornersD d)) = true := by decide +kernel
theorem odd_ok {d : D} (h : d ∈ oddL) : plain d = true ∧ nd d ≤ 900 ∧ cornersD d = .non := by
  have := List.all_eq_true.mp odd_all d h
  simp only [Bool.and_eq_true, decide_eq_true_eq] at this
  refine ⟨this.1.1, this.1.2, ?_⟩
  cases hc : cornersD d <;> first | rfl | (rw [hc] at this; cases this.2)
def big6 : D := .lst (List.replicate 6 [D.lst (List.replicate 6 [D.int 1000000]).flatten]).flatten
theorem big_ok : (plain big6 && decide (nd big6 ≤ 900) && !nonB (cornersD big6) && decide (tupLen (cornersD big6) = 6)) = true := by decide +kernel
section
variable {st0 : Sto} {Qe : WQ} {De : DEnds} {n : M} {c0 c2 c3 c4 c5 c6 c7 c8 c9 c10 c11 c12 c13 c14 : Cell} {T : List (Addr × Str)} {Wd : Addr → Option Str} {Tx Tm : Addr → Prop} {CFi CF CT CLi CLs : Addr}
theorem end_step (hT : Qe.tb = T ∧ T ≠ []) (hTx : Tx CT) (hF : Wd CF = some ("field" : Str)) (hn : n.n < 900000) (hr : ∀ n', De.rt (.bl true) n') :
    wEnd T Wd Tx Tm CFi CF CT CLi CLs Qe De ⟨E15 c0 c2 c3 c4 c5 c6 c7 c8 c9 c10 c11 c12 c13 c14, n⟩ := by
  obtain ⟨m, st⟩ := n
  have hm : m < 900000 := hn
  unfold wEnd
  refine s_asg3 (hq_read (i := 0) (j := 0) hT hTx (err_text (wss := [[""]]) (by decide +kernel) (by decide +kernel) (by decide +kernel))) (hq_read (i := 0) (j := 2) hT hTx (err_text (wss := [["corner", "0", "0"]]) (by decide +kernel) (by decide +kernel) (by decide +kernel))) (hq_read (i := 1) (j := 2) hT hTx (err_text (wss := [["corner", "1", "0"], ["corner", "0"]]) (by decide +kernel) (by decide +kernel) (by decide +kernel))) fun st1 => ?_
  show wSeq _ _ Qe De ⟨E15 c0 c2 c3 c4 c5 c6 c7 c8 c9 c10 c11 (.val (.lst [heardD 0 0, heardD 0 2, heardD 1 2])) c13 c14, ⟨m, st1⟩⟩
  refine s_asgAdd3 (ds := [heardD 0 0, heardD 0 2, heardD 1 2]) (fun st Q q => (DL.ev_var (s := ⟨E15 c0 c2 c3 c4 c5 c6 c7 c8 c9 c10 c11 (.val (.lst [heardD 0 0, heardD 0 2, heardD 1 2])) c13 c14, ⟨m, st⟩⟩) (i := 12) rfl) _ (q st)) (by decide) (hq_read (i := 1) (j := 0) hT hTx (err_text (wss := [["corner", "1"], [""]]) (by decide +kernel) (by decide +kernel) (by decide +kernel))) (hq_read (i := 0) (j := 6) hT hTx (err_text (wss := [["corner", "0", "0", "0", "0", "0", "0", "7"]]) (by decide +kernel) (by decide +kernel) (by decide +kernel))) (hq_read (i := 1) (j := 2) hT hTx (err_text (wss := [["corner", "1", "2"], ["corner", "0", "0", "5"]]) (by decide +kernel) (by decide +kernel) (by decide +kernel))) fun st2 => ?_
  show wSeq _ _ Qe De ⟨E15 c0 c2 c3 c4 c5 c6 c7 c8 c9 c10 c11 (.val (.lst [heardD 0 0, heardD 0 2, heardD 1 2, heardD 1 0, heardD 0 6, heardD 1 2])) c13 c14, ⟨m, st2⟩⟩
  have tp : ∀ {i j : Nat} {Qe : WQ} {s : S}, EV (wTup (wCons (wC (.str "text")) (wCons (wC (.int (i : Nat))) (wCons (wC (.int (j : Nat))) wNil)))) Qe s (heardD i j) s := ev_tup (av_cons ev_c (av_cons ev_c (av_1 ev_c))) (by show 3 ≤ 100000; decide)
  refine s_skip (tv_T (ev_op (z := .bl false) (ev_var (i := 12) rfl) (ev_give (fv_lst (ds := [heardD 0 0, heardD 0 2, heardD 1 2, heardD 1 0, heardD 0 6, heardD 1 2]) (av_cons tp (av_cons tp (av_cons tp (av_cons tp (av_cons tp (av_1 tp)))))) (by show 6 ≤ 100000; decide))) (f_neSame (by decide +kernel) (by decide +kernel)))) ?_
  have c : ∀ {d : D} {Qe : WQ} {s : S}, EV (wC d) Qe s d s := ev_c
  have tu : ∀ {Qe : WQ} {s : S} {wr : WA} {ds : List D}, ds.length ≤ 10 → AV wr Qe s ds s → EV (wTup wr) Qe s (.tup ds) s := fun {Qe s wr ds} h k => ev_tup k (by omega)
  have pw : ∀ {Qe : WQ} {s : S}, EV (wOp (fInt CPow fun i j => .int (i ^ j.toNat)) (wC (.int 10)) (wC (.int 6))) Qe s (.int 1000000) s := ev_op ev_c ev_c fun R r => ⟨by unfold CPow; decide, r⟩
  have p1 : ∀ {Qe : WQ} {s : S}, EV (wOp fAdd (wOp (fInt CPow fun i j => .int (i ^ j.toNat)) (wC (.int 10)) (wC (.int 6))) (wC (.int 1))) Qe s (.int 1000001) s := ev_op pw ev_c fun R r => r
  have r7a : ∀ {Qe : WQ} {s : S}, EV (wOp fRepT (wTup (wCons (wTup (wCons (wC (.int 1)) wNil)) wNil)) (wC (.int 7))) Qe s e7a s := ev_op (tu (ds := [.tup [.int 1]]) (by decide) (av_1 (tu (ds := [.int 1]) (by decide) (av_1 c)))) c fun R r => ⟨by decide, r⟩
  have r7b : ∀ {Qe : WQ} {s : S}, EV (wOp fRepT (wTup (wCons (wC (.int 1)) wNil)) (wC (.int 7))) Qe s e7b s := ev_op (tu (ds := [.int 1]) (by decide) (av_1 c)) c fun R r => ⟨by decide, r⟩
  refine s_asgPickL (ev_var (i := 1) rfl) ?_
  refine wc_ev (c) ?_
  refine wc_ev (tu (ds := []) (by decide) (av_nil)) ?_
  refine wc_ev (c) ?_
  refine wc_ev (c) ?_
  refine wc_ev (tu (ds := [.tup [.int 0, .int 0]]) (by decide) (av_1 (tu (ds := [.int 0, .int 0]) (by decide) (av_cons (c) (av_1 (c)))))) ?_
  refine wc_ev (tu (ds := [.tup [.int 1, .int 2], .tup [.int 1]]) (by decide) (av_cons (tu (ds := [.int 1, .int 2]) (by decide) (av_cons (c) (av_1 (c)))) (av_1 (tu (ds := [.int 1]) (by decide) (av_1 (c)))))) ?_
  refine wc_ev (r7a) ?_
  refine wc_ev (tu (ds := [e7b]) (by show 1 ≤ 10; decide) (av_1 r7b)) ?_
  refine wc_ev (tu (ds := [.tup [.int (-1), .int 2]]) (by decide) (av_1 (tu (ds := [.int (-1), .int 2]) (by decide) (av_cons (c) (av_1 (c)))))) ?_
  refine wc_ev (tu (ds := [.tup [.bl true, .int 1]]) (by decide) (av_1 (tu (ds := [.bl true, .int 1]) (by decide) (av_cons (c) (av_1 (c)))))) ?_
  refine wc_ev (tu (ds := [.tup [.int 1000001]]) (by decide) (av_1 (tu (ds := [.int 1000001]) (by decide) (av_1 (p1))))) ?_
  refine wc_ev (tu (ds := [.tup []]) (by decide) (av_1 (tu (ds := []) (by decide) (av_nil)))) ?_
  refine wc_ev (c) ?_
  refine wc_ev (tu (ds := [.int 5]) (by decide) (av_1 (c))) ?_
  refine wc_ev (tu (ds := [.tup [.str "1"]]) (by decide) (av_1 (tu (ds := [.str "1"]) (by decide) (av_1 (c))))) ?_
  refine wc_ev (tu (ds := [.tup [.int 1], .non]) (by decide) (av_cons (tu (ds := [.int 1]) (by decide) (av_1 (c))) (av_1 (c)))) ?_
  refine wc_nil ⟨by show 16 ≤ 100000; decide, oddL, rfl, by show 0 < 16; decide, by show 16 < 1000; decide, by show m < 1000000; omega, fun d hd => ?_⟩
  obtain ⟨o1, o2, o3⟩ := odd_ok hd
  show wRet _ Qe De ⟨E15 c0 c2 c3 c4 c5 c6 c7 c8 c9 c10 c11 (.val (.lst [heardD 0 0, heardD 0 2, heardD 1 2, heardD 1 0, heardD 0 6, heardD 1 2])) c13 (.val d), ⟨m + 1, st2⟩⟩
  have hb := big_ok
  simp only [Bool.and_eq_true, decide_eq_true_eq, Bool.not_eq_true'] at hb
  refine s_retAnd (hq_op (hq_odd (i := 14) (d := d) hT hF rfl o1 o2 o3) (fun st => tu (ds := [.str "field", .str "corners"]) (by decide) (av_cons c (av_1 c))) (f_eqSame (by decide +kernel) (by decide +kernel)))
    (hq_op (hq_fld (x := "width") (z := .int ((6 : Nat) : Int)) (hq_make (d := big6) (fun st => ev_op (ev_give (fv_lst (ds := [.lst (List.replicate 6 [D.int 1000000]).flatten]) (av_1 (ev_op (ev_give (fv_lst (ds := [.int 1000000]) (av_1 pw) (by show 1 ≤ 100000; decide))) c fun R r => ⟨⟨by decide, by decide, by decide⟩, r⟩)) (by show 1 ≤ 100000; decide))) c fun R r => ⟨⟨by decide, by decide, by decide⟩, r⟩) hb.1.1.1 hb.1.1.2 (fun h => by rw [h] at hb; exact absurd hb.1.2 (by decide))) ?_) (fun st => c) (z := .bl true) fun R r => ?_) fun st => hr _
  · rw [hb.2]; rfl
  · exact f_eqI (i := 6) (j := 6) R r
theorem draw_add {Q : D → M → Prop} {Qe : WQ} {n : M} (hn : n.n < 1000000) (h : ∀ w : Nat, 1 ≤ w → w ≤ 6 → Q (.int (w : Nat)) (tick n)) : sp_draw [.pen, .int ((6 : Nat) : Int)] n (fun e n' => fAdd (.int 1) e fun z => Q z n') Qe := by
  refine ⟨6, rfl, by decide, by decide, hn, fun j hj => ?_⟩
  show Q (.int (1 + (j : Nat))) (tick n)
  rw [show (1 : Int) + (j : Nat) = ((j + 1 : Nat) : Int) by omega]
  exact h (j + 1) (by omega) (by omega)
theorem turn_step (hT : Qe.tb = T ∧ T ≠ []) (hTx : Tx CT) (hn : n.n < 700000) {d : D}
    (hk : ∀ n' c2 c3 c4 c5 c6 c7 c8 c9 c10 c11 c12, n'.n ≤ n.n + 100 → De.nx ⟨E15 c0 c2 c3 c4 c5 c6 c7 c8 c9 c10 c11 c12 .unb c14, n'⟩) :
    wgName 2 d Qe ⟨E15 c0 c2 c3 c4 c5 c6 c7 c8 c9 c10 c11 c12 .unb c14, n⟩ fun s1 =>
    (wSeq (wAsg (wOp fAdd (wC (.int 1)) (wCall sp_draw (wCons (wVar 1) (wCons (wC (.int 6)) wNil)))) (wgName 3))
    (wSeq (wAsg (wNewL (wLst wNil)) (wgName 4))
    (wSeq (wFor (wRangeI (wCons (wOp fAdd (wC (.int 1)) (wCall sp_draw (wCons (wVar 1) (wCons (wC (.int 6)) wNil)))) wNil)) (wgName 5) (wBuild))
    (wSeq (wFor (wRangeI (wCons (wCall sp_draw (wCons (wVar 1) (wCons (wC (.int 3)) wNil))) wNil)) (wgName 5) (wLap))
    (wTail T Wd Tx Tm CFi CF CT CLi CLs))))) Qe De s1 := by
  show wSeq _ _ Qe De ⟨E15 c0 (.val d) c3 c4 c5 c6 c7 c8 c9 c10 c11 c12 .unb c14, n⟩
  generalize Cell.val d = c2 at *
  refine s_asgOp2 (d := .int 1) (ds := [.pen, .int ((6 : Nat) : Int)]) ev_c (av_cons (ev_var (i := 1) rfl) (av_1 ev_c)) (draw_add (by show n.n < _; omega) fun w hw1 hw2 => ?_)
  have hw6 : 1 ≤ w ∧ w ≤ 6 := ⟨hw1, hw2⟩
  show wSeq _ _ Qe De ⟨E15 c0 c2 (.val (.int (w : Nat))) c4 c5 c6 c7 c8 c9 c10 c11 c12 .unb c14, ⟨n.n + 1, n.st⟩⟩
  refine s_asgNew (ds := []) (fv_lst av_nil (by decide)) fun a ha => ?_
  show wSeq _ _ Qe De ⟨E15 c0 c2 (.val (.int (w : Nat))) (.val (.loc a)) c5 c6 c7 c8 c9 c10 c11 c12 .unb c14, ⟨n.n + 1, updS n.st a (.lst [])⟩⟩
  refine s_forDraw1 (j := 6) (d := .int 1) ev_c (av_cons (ev_var (i := 1) rfl) (av_1 ev_c)) (draw_add (by show n.n + 1 < _; omega) fun j hj1 hj6 => ⟨(j : Nat), rfl, by omega, by omega, ?_⟩)
  rw [Int.toNat_natCast]
  show wForL _ _ Qe _ _ ⟨E15 c0 c2 (.val (.int (w : Nat))) (.val (.loc a)) c5 c6 c7 c8 c9 c10 c11 c12 .unb c14, ⟨n.n + 1 + 1, updS n.st a (.lst [])⟩⟩
  refine for_inv (fun l s => ∃ (as : List Addr) (c5 c6 : Cell) (n' : M), s = ⟨E15 c0 c2 (.val (.int (w : Nat))) (.val (.loc a)) c5 c6 c7 c8 c9 c10 c11 c12 .unb c14, n'⟩ ∧ as.length + l.length = j ∧ PageE n'.st a as as.length 7 ∧ n'.n + 6 * l.length ≤ n.n + 2 + 6 * j) (fun d l s I R kk => ?_) (fun s I => ?_) _ _ ⟨[], c5, c6, _, rfl, by simp [rng], ⟨updS_same, by simp, Nat.le_refl _, fun x hx => by cases hx⟩, by show n.n + 1 + 1 + 6 * _ ≤ _; rw [rng_len]; omega⟩
  · obtain ⟨as, c5, c6, n', rfl, hl, hp, hb⟩ := I
    rw [List.length_cons] at hl hb
    show wBuild Qe _ ⟨E15 c0 c2 (.val (.int (w : Nat))) (.val (.loc a)) (.val d) c6 c7 c8 c9 c10 c11 c12 .unb c14, n'⟩
    refine build_step (c := as.length) hw6 (by omega) (by omega) hp fun n2 y hn2 hp2 => kk _ ⟨as ++ [y], _, _, n2, rfl, ?_, ?_, by omega⟩
    · rw [List.length_append, List.length_singleton]; omega
    · rw [List.length_append, List.length_singleton]; exact hp2
  obtain ⟨as, c5, c6, n1, rfl, hl, hp, hb⟩ := I
  rw [List.length_nil] at hl hb
  have hp1 : PageS n1.st a as 6 7 := ⟨hp.ob, hp.na, fun e => (by rw [e] at hl; simp at hl; omega), by omega, hp.ln⟩
  show wSeq (wFor (wRangeI (wCons (wCall sp_draw (wCons (wVar 1) (wCons (wC (.int 3)) wNil))) wNil)) (wgName 5) wLap) (wTail T Wd Tx Tm CFi CF CT CLi CLs) Qe De ⟨E15 c0 c2 (.val (.int (w : Nat))) (.val (.loc a)) c5 c6 c7 c8 c9 c10 c11 c12 .unb c14, n1⟩
  refine s_forDraw (j := 3) (av_cons (ev_var (i := 1) rfl) (av_1 ev_c)) ⟨3, rfl, by decide, by decide, by show n1.n < _; omega, fun j3 hj3 => ⟨(j3 : Nat), rfl, by omega, by omega, ?_⟩⟩
  rw [Int.toNat_natCast]
  show wForL _ _ Qe _ _ ⟨E15 c0 c2 (.val (.int (w : Nat))) (.val (.loc a)) c5 c6 c7 c8 c9 c10 c11 c12 .unb c14, ⟨n1.n + 1, n1.st⟩⟩
  refine for_inv (fun l s => ∃ (as : List Addr) (t : Nat) (c5 c6 c7 c8 c9 : Cell) (n' : M), s = ⟨E15 c0 c2 (.val (.int (w : Nat))) (.val (.loc a)) c5 c6 c7 c8 c9 c10 c11 c12 .unb c14, n'⟩ ∧ t + l.length ≤ 2 ∧ PageS n'.st a as (6 + t) (7 + t) ∧ n'.n + 5 * l.length ≤ n1.n + 11) (fun d l s I R kk => ?_) (fun s I => ?_) _ _ ⟨as, 0, c5, c6, c7, c8, c9, _, rfl, by rw [rng_len]; omega, hp1, by show n1.n + 1 + 5 * _ ≤ _; rw [rng_len]; omega⟩
  · obtain ⟨as, t, c5, c6, c7, c8, c9, n', rfl, hl, hp, hb⟩ := I
    rw [List.length_cons] at hl hb
    show wLap Qe _ ⟨E15 c0 c2 (.val (.int (w : Nat))) (.val (.loc a)) (.val d) c6 c7 c8 c9 c10 c11 c12 .unb c14, n'⟩
    exact lap_step hw6 (by omega) (by omega) (by omega) hp fun n2 as' c6 c7 c8 c9 hn2 hp2 => kk _ ⟨as', t + 1, _, _, _, _, _, n2, rfl, by omega, hp2, by omega⟩
  obtain ⟨as, t, c5, c6, c7, c8, c9, n2, rfl, hl, hp, hb⟩ := I
  rw [List.length_nil] at hl hb
  show wTail T Wd Tx Tm CFi CF CT CLi CLs Qe De ⟨E15 c0 c2 (.val (.int (w : Nat))) (.val (.loc a)) c5 c6 c7 c8 c9 c10 c11 c12 .unb c14, n2⟩
  exact tail_step hT hTx (by omega) (by omega) hp fun n' c4 c8 c10 c11 c12 hn' => hk n' _ _ _ _ _ _ _ _ _ _ _ (by omega)
theorem law_law (hT : Qe.tb = T ∧ T ≠ []) (hTx : Tx CT) (hF : Wd CF = some ("field" : Str)) (hr : ∀ n', De.rt (.bl true) n') :
    w_law T Wd Tx Tm CFi CF CT CLi CLs Qe De ⟨E15 c0 c2 c3 c4 c5 c6 c7 c8 c9 c10 c11 c12 .unb c14, ⟨0, st0⟩⟩ := by
  rw [law_is]
  refine s_for (iv_range (k := 24) (av_1 ev_c) (by omega)) ?_
  refine for_inv (fun l s => ∃ (c2 c3 c4 c5 c6 c7 c8 c9 c10 c11 c12 : Cell) (n' : M), s = ⟨E15 c0 c2 c3 c4 c5 c6 c7 c8 c9 c10 c11 c12 .unb c14, n'⟩ ∧ n'.n + 100 * l.length ≤ 2400) (fun d l s I R kk => ?_) (fun s I => ?_) _ _ ⟨c2, c3, c4, c5, c6, c7, c8, c9, c10, c11, c12, _, rfl, by rw [rng_len]; show 0 + _ ≤ _; omega⟩
  · obtain ⟨c2, c3, c4, c5, c6, c7, c8, c9, c10, c11, c12, n', rfl, hb⟩ := I
    rw [List.length_cons] at hb
    exact turn_step hT hTx (by omega) fun n2 c2 c3 c4 c5 c6 c7 c8 c9 c10 c11 c12 hn2 => kk _ ⟨c2, c3, c4, c5, c6, c7, c8, c9, c10, c11, c12, n2, rfl, by omega⟩
  · obtain ⟨c2, c3, c4, c5, c6, c7, c8, c9, c10, c11, c12, n', rfl, hb⟩ := I
    rw [List.length_nil] at hb
    exact end_step hT hTx hF (by omega) hr
end
end K78
set_option Elab.async false
set_option linter.all false
set_option maxRecDepth 100000
set_option maxHeartbeats 4000000
namespace K78
open PySem L2 Evl DL
/-- a promise without exceptions stands where they may pass -/
theorem fnLift {P : Program} {w : World} {K : PySem.W.Frag} {mg : Str → Option Value} {base : Heap} {k : Nat} {f : Addr} {fd : FuncData} {ps : List Str} {sp : Sp} (F : FnOk P w K mg base CX0 k f fd ps sp) : FnOk P w K mg base (L2.CX P w) k f fd ps sp :=
  ⟨F.len, fun A outer s H args us vs Q E hr e0 hb hv h => codeAny_mono (F.run A outer s H args us vs Q E hr e0 hb hv h) fun r s' hq => by
    cases r with
    | error e => exact (show False from hq).elim
    | ok fl => cases fl <;> exact hq⟩
theorem ok_drawD {P : Program} {w : World} {K : PySem.W.Frag} {mg : Str → Option Value} {base : Heap} {f : Addr} {fd : FuncData} (F : Fun K "_law_draw" "_law_draw" K2.sDraw f fd) (B : K2.Bl mg) : FnOk P w K mg base (L2.CX P w) 1 f fd ["pen", "many"] (spD K sp_draw) := by
  refine (fnLift (K2.ok_draw F B)).imp fun vs H Q E h => ?_
  obtain ⟨pen, G, n, ds, Qd, Qe, hex, hpn, hd, ⟨m, rfl, h0, h1, hn, q⟩, k, W⟩ := h
  cases hd with
  | cons d1 d2 =>
    cases d2 with
    | cons d2 d3 =>
      cases d3
      cases d1
      cases d2
      obtain ⟨xs, p1, p2, p3, p4⟩ := hpn.ex
      obtain ⟨c, cs, mm, r, rfl, g1, g2, g3, g4⟩ := p2
      refine ⟨pen, m, n.n, rfl, h0, h1, ⟨c, cs, mm, r, p1, hex _ _ g1, g2, g3⟩, hn, fun j H' hj e P' => ?_⟩
      have eG : Ex G H' := fun a o ha => e.1 a o (fun z => by rw [z, p3] at ha; cases ha) (hex a o ha)
      obtain ⟨c', cs', n', r', e1, e2, e3, e4⟩ := P'
      obtain ⟨r2, e5⟩ := e.2 c _ p1
      have ec : c' = c := by
        rw [e1] at e5
        injection e5 with z
        injection z with z
        injection z with z1 z2
        injection z1
      subst ec
      refine k (.int (j : Int)) H' G (.int (j : Nat)) (tick n) ⟨fun a o ne _ ha => e.1 a o ne ha, Ex.refl _, fun _ _ z => .inl z, eG, p3, p4, fun _ z => .inl z, fun a ha => ?_⟩ ⟨⟨_, e1, ⟨c', cs, n', r', rfl, g1, g2, e4, by show n.n + 1 < _; omega⟩, p3, p4⟩, fun a o ha => ?_⟩ (.int _) (q j hj)
      · by_cases z : a = pen
        · rw [z, e1]; exact fun z => nomatch z
        · obtain ⟨o, ho⟩ := Option.ne_none_iff_exists'.mp ha
          rw [e.1 a o z ho]; exact fun z => nomatch z
      · obtain ⟨q1, q2, q3⟩ := hpn.st a o ha
        exact ⟨q1.up (Ex.refl _) fun u hu => e.1 a u q3 hu, q2, q3⟩
end K78
set_option Elab.async false
set_option linter.all false
set_option maxRecDepth 100000
set_option maxHeartbeats 600000
namespace K78
open PySem L2 Evl DL LamX
def noTbH (H : Hp) : Hp := fun a => noTb (H a)
theorem pen_rel {K : PySem.W.Frag} {pen Pt : Addr} {q : Str} {H : Hp} {N : Nat} {x0 : Option V} (hP : K2.PenS pen 0 H) (hT : H Pt = some (.tbl #[])) :
    ∃ G, Rel K ⟨pen, noS, noTbH H, G, [], [(Pt, q)], (0, 0, 0)⟩ (x0 :: some (.ref pen) :: List.replicate N none) H G ⟨.unb :: .val .pen :: List.replicate N .unb, ⟨0, noS⟩⟩ := by
  obtain ⟨c, cs, m, r, h1, h2, h3, h4⟩ := hP
  have hcp : c ≠ pen := K2.pen_ne h1 h2
  let G : Hp := fun a => if a = c then some (.lst (cs.map V.int)) else none
  have Gc : G c = some (.lst (cs.map V.int)) := if_pos rfl
  have Gn : ∀ a, a ≠ c → G a = none := fun a ha => if_neg ha
  have Gs : ∀ a o, G a = some o → a = c ∧ o = .lst (cs.map V.int) := fun a o h => by
    by_cases z : a = c
    · rw [z, Gc] at h
      cases h
      exact ⟨z, rfl⟩
    · rw [Gn a z] at h
      cases h
  have eG : Ex G H := fun a o h => by
    obtain ⟨rfl, rfl⟩ := Gs a o h
    exact h2
  have nG : NoT G := fun a ps h => by
    obtain ⟨_, z⟩ := Gs a _ h
    cases z
  have pG : G pen = none := Gn pen (Ne.symm hcp)
  have nH : NoT (noTbH H) := fun a ps h => (noTb_some h).2 ps rfl
  have cell : ∀ (i : Nat) (x : Cell), (Cell.unb :: .val .pen :: List.replicate N .unb)[i]? = some x → (x = .unb ∨ (i = 1 ∧ x = .val .pen)) := fun i x h => by
    match i, h with
    | 0, h => exact .inl (by simpa using h.symm)
    | 1, h => exact .inr ⟨rfl, by simpa using h.symm⟩
    | i + 2, h =>
      simp only [List.getElem?_cons_succ, List.getElem?_replicate] at h
      split at h
      · exact .inl (by simpa using h.symm)
      · cases h
  refine ⟨G, ⟨fun a o n _ h => (noTb_some h).1, Ex.refl _, fun _ _ z => .inl z, eG, pG, nG, fun a h => absurd rfl h, fun a h => ?_⟩, ⟨⟨_, h1, ⟨c, cs, m, r, rfl, Gc, h3, h4, by show 0 < 1000000000; omega⟩, pG, nG⟩, fun a o h => nomatch h⟩, by simp, fun i x h => ?_, fun i j ds es a _ h _ _ _ => ?_, .nil, (fun a xs h => nomatch h), fun p hp => ?_, fun _ => ⟨nH, rfl⟩, fun i C ns ds h => ?_⟩
  · obtain ⟨o, ho⟩ := Option.ne_none_iff_exists'.mp h
    rw [(noTb_some ho).1]; exact fun z => nomatch z
  · rcases cell i x h with rfl | ⟨rfl, rfl⟩
    · exact .unb
    · exact .val .pen
  · rcases cell i _ h with z | ⟨_, z⟩ <;> cases z
  · rw [List.mem_singleton.mp hp]
    exact TabS.nil hT
  · rcases cell i _ h with z | ⟨_, z⟩ <;> cases z
section
variable {P : Program} {w : World} {K : PySem.W.Frag} {mg : Str → Option Value} {base : Heap} {fa : Addr} {cdv : Value} {s : Shared} {H : Hp} {Pt : Addr} {q : Str}
theorem law_pss {t : TS} (hpen : ∃ f fd, FnOk P w K mg base CX0 1 f fd ["script"] (K2.spPen K) ∧ mg "_law_pen" = some (.ref f) ∧ PySem.W.keepIn K (.ref f) = true ∧ Binds K fd ["script"] []) (g1 : PSs (LX P w K mg base fa cdv s H) (defBody s_law).tail t) :
    PSs (LX P w K mg base fa cdv s H) (defBody s_law) (tSeq (tAsg (tCall (K2.spPen K) [] E0 (tCons (tVar 0) tNil)) (gName 1)) t) := by
  obtain ⟨fp, fdp, Fp, mp, kp, bp⟩ := hpen
  have hr : Room 40 (LX P w K mg base fa cdv s H).A := room_lx
  exact pss_cons (ps_set (i := 1) sc_law.nd rfl (by first | exact Or.inl rfl | exact Or.inr rfl) (pe_call Fp (hr.mono (by decide)) (by rfl) mp kp bp .nil pass0 (pa_cons (pv 0) pa_nil))) g1
def deLaw : DEnds := ⟨fun _ => False, fun d _ => d = .bl true, fun _ => False, fun _ => False⟩
theorem law_walk {W : WS} (hpen : ∃ f fd, FnOk P w K mg base CX0 1 f fd ["script"] (K2.spPen K) ∧ mg "_law_pen" = some (.ref f) ∧ PySem.W.keepIn K (.ref f) = true ∧ Binds K fd ["script"] [])
    (hW : W ⟨fun _ _ _ => False, [(Pt, q)]⟩ deLaw ⟨.unb :: .val .pen :: List.replicate 13 .unb, ⟨0, noS⟩⟩) (D : DSs (LX P w K mg base fa cdv s H) E0 (defBody s_law).tail W) :
    ∃ t, PSs (LX P w K mg base fa cdv s H) (defBody s_law) t ∧ ∀ (Q : VK) (a : Addr) (ns : List Int) (nx : L2.St → Hp → Prop) (bk ct : L2.St → Hp → Prop), SqL K H a (ns.map V.int) → ns.length ≤ 63 → H Pt = some (.tbl #[]) → (∀ H', Q (.bl true) H') → t { nx := nx, rt := Q, bk := bk, ct := ct } (start n_law [.ref a]) H := by
  obtain ⟨t, g1, g2⟩ := D.ex
  refine ⟨_, law_pss hpen g1, ?_⟩
  intro Q a ns nx bk ct ha hn hT hQ
  refine ⟨.ref a, rfl, a, ns, rfl, ha, hn, fun pen H2 hpen e2 P2 => ?_⟩
  obtain ⟨G, R⟩ := pen_rel (K := K) (q := q) (N := 13) (x0 := some (.ref a)) P2 (e2 _ _ hT)
  refine g2 _ ⟨fun _ _ _ => False, [(Pt, q)]⟩ ⟨fun _ _ _ _ _ _ _ _ _ _ _ z => z.elim, .inr rfl⟩ _ H2 G _ deLaw _ R ⟨fun _ _ _ _ _ z => z.elim, fun σ' H' G' s' v d R' dd z => ?_, fun _ _ _ _ _ z => z.elim, fun _ _ _ _ _ z => z.elim⟩ hW
  have z : d = .bl true := z
  subst z
  cases dd
  exact hQ H'
end
theorem law_holds {Pt CFi CF CT CLi CLs : Addr} {Wd : Addr → Option Str} {Tx : Addr → Prop} {q : Str} (hF : Wd CF = some ("field" : Str)) (hT : Tx CT) : w_law [(Pt, q)] Wd Tx (fun _ => False) CFi CF CT CLi CLs ⟨fun _ _ _ => False, [(Pt, q)]⟩ deLaw ⟨.unb :: .val .pen :: List.replicate 13 .unb, ⟨0, noS⟩⟩ :=
  law_law (Qe := ⟨fun _ _ _ => False, [(Pt, q)]⟩) (De := deLaw) ⟨rfl, by simp⟩ hT hF (fun _ => rfl)
end K78
set_option Elab.async false
set_option linter.all false
set_option maxRecDepth 100000
set_option maxHeartbeats 4000000
namespace K78
open PySem L2 Evl DL
/-- a def of the top, at hand -/
structure Df (K : PySem.W.Frag) (mg : Str → Option Value) (x : Str) (st : Stmt) (ps : List Str) : Prop where
  ex : ∃ (f : Addr) (fd : FuncData), Fun K x x st f fd ∧ mg x = some (.ref f) ∧ PySem.W.keepIn K (.ref f) = true ∧ Binds K fd ps []
/-- a method at hand -/
structure DfM (K : PySem.W.Frag) (C : Addr) (m qual : Str) (st : Stmt) (ps : List Str) : Prop where
  ex : ∃ (f : Addr) (fd : FuncData), Fun K m qual st f fd ∧ Meth K C m f ∧ Binds K fd ps []
/-- a class that is called -/
structure DfI (K : PySem.W.Frag) (mg : Str → Option Value) (x : Str) (C : Addr) (qual : Str) (st : Stmt) (ps : List Str) : Prop where
  ex : ∃ (f : Addr) (fd : FuncData), Fun K "__init__" qual st f fd ∧ Mk K C f ∧ Binds K fd ps [] ∧ mg x = some (.ref C)
structure DfD (K : PySem.W.Frag) (mg : Str → Option Value) (x : Str) (C : Addr) (qual : Str) (st : Stmt) (ps : List Str) (dvs : List V) : Prop where
  ex : ∃ (f : Addr) (fd : FuncData) (ds : List Value), FunD K "__init__" qual (defArgs st) (defBody st) (defScope st) dvs [] f fd ∧ Mk K C f ∧ Binds K fd ps ds ∧ Vals dvs ds ∧ mg x = some (.ref C)
section
variable {P : Program} {w : World} {K : PySem.W.Frag} {mg : Str → Option Value} {base : Heap}
theorem mk_law {fa : Addr} {cdv : Value} {s : Shared} {H : Hp} {T : List (Addr × Str)} {Wd : Addr → Option Str} {Tx Tm : Addr → Prop} {CFi CF CT CLi CLs : Addr} (B : Bl mg) (B2 : K2.Bl mg) (HR : HearX (LX P w K mg base fa cdv s H) T Wd Tx Tm)
    (D_is_integer : Df K mg "is_integer" s_is_integer ["value"])
    (D_is_within : Df K mg "is_within" s_is_within ["value", "least", "most"])
    (D_is_row : Df K mg "is_row" s_is_row ["value"])
    (D_are_numbers : Df K mg "are_numbers" s_are_numbers ["value", "many", "most"])
    (D_is_heavy : Df K mg "is_heavy" s_is_heavy ["row"])
    (D_corners_in : Df K mg "corners_in" s_corners_in ["value"])
    (D_Field___init__ : DfI K mg "Field" CFi "Field.__init__" s_Field___init__ ["self", "corners"])
    (D_whole_of : Df K mg "whole_of" s_whole_of ["word", "most"])
    (D_Line___init__ : DfI K mg "Line" CLi "Line.__init__" s_Line___init__ ["self", "number", "text"])
    (D_Line_stop : DfM K CLi "stop" "Line.stop" s_Line_stop ["self"])
    (D_Line_ahead : DfM K CLi "ahead" "Line.ahead" s_Line_ahead ["self"])
    (D_Line_take : DfM K CLi "take" "Line.take" s_Line_take ["self"])
    (D_Line_take_one : DfM K CLi "take_one" "Line.take_one" s_Line_take_one ["self", "words"])
    (D_Line_take_whole : DfM K CLi "take_whole" "Line.take_whole" s_Line_take_whole ["self", "most"])
    (D_Line_back : DfM K CLi "back" "Line.back" s_Line_back ["self"])
    (D_Line_end : DfM K CLi "end" "Line.end" s_Line_end ["self"])
    (D_Lines___init__ : DfD K mg "Lines" CLs "Lines.__init__" s_Lines___init__ ["self", "lines", "at"] [.int 0])
    (D_Lines_head : DfM K CLs "head" "Lines.head" s_Lines_head ["self"])
    (D_Lines_next : DfM K CLs "next" "Lines.next" s_Lines_next ["self", "word"])
    (D_Lines_end : DfM K CLs "end" "Lines.end" s_Lines_end ["self"])
    (D_lines_of : Df K mg "lines_of" s_lines_of ["text"])
    (D_numbers_from : Df K mg "numbers_from" s_numbers_from ["line", "least", "most"])
    (D_field_from : Df K mg "field_from" s_field_from ["lines"])
    (D_read_field : Df K mg "read_field" s_read_field ["text"])
    (D__law_pick : Df K mg "_law_pick" s__law_pick ["pen", "some"])
    (D__law_tx_joined : Df K mg "_law_tx_joined" s__law_tx_joined ["lines"])
    (D__law_no_word : Df K mg "_law_no_word" s__law_no_word ["pen"])
    (D__law_fb_whole : Df K mg "_law_fb_whole" s__law_fb_whole ["word"])
    (D__law_fb_bad : Df K mg "_law_fb_bad" s__law_fb_bad ["lines"])
    (D_fixed : Df K mg "fixed" (top 23) ["value"])
    (D__law_draw : Df K mg "_law_draw" (top 44) ["pen", "many"])
    (c_MOST_CORNERS : ∃ t, mg "MOST_CORNERS" = some (.int 6 t))
    (c_MOST_NUMBER : ∃ t, mg "MOST_NUMBER" = some (.int 1000000 t))
    (c_FIGURES : ∃ t, mg "FIGURES" = some (.str "0123456789" t))
    (c_CORNER : ∃ t, mg "CORNER" = some (.str "corner" t))
    (hCF : Er P w K mg base "BadField" CF) (hCT : Er2 P w K mg base "BadText" CT "line" "word") (cl_Field : Cls K CFi) (cl_Line : Cls K CLi) (cl_Lines : Cls K CLs)
    (nField_corners : NoAttr K CFi "corners") (nField_width : NoAttr K CFi "width") (nLine_number : NoAttr K CLi "number") (nLine_words : NoAttr K CLi "words") (nLine_at : NoAttr K CLi "at") (nLines_lines : NoAttr K CLs "lines") (nLines_at : NoAttr K CLs "at") :
    DSs (LX P w K mg base fa cdv s H) E0 (defBody s_law).tail (w_law T Wd Tx Tm CFi CF CT CLi CLs) := by
  obtain ⟨f_fixed, fd_fixed, F_fixed, m_fixed, k_fixed, b_fixed⟩ := D_fixed.ex
  obtain ⟨f__law_draw, fd__law_draw, F__law_draw, m__law_draw, k__law_draw, b__law_draw⟩ := D__law_draw.ex
  have q__law_draw : CalF P w K mg base 1 "_law_draw" ["pen", "many"] sp_draw := ⟨_, _, ok_drawD F__law_draw B2, m__law_draw, k__law_draw, b__law_draw⟩
  obtain ⟨f_is_integer, fd_is_integer, F_is_integer, m_is_integer, k_is_integer, b_is_integer⟩ := D_is_integer.ex
  obtain ⟨f_is_within, fd_is_within, F_is_within, m_is_within, k_is_within, b_is_within⟩ := D_is_within.ex
  obtain ⟨f_is_row, fd_is_row, F_is_row, m_is_row, k_is_row, b_is_row⟩ := D_is_row.ex
  obtain ⟨f_are_numbers, fd_are_numbers, F_are_numbers, m_are_numbers, k_are_numbers, b_are_numbers⟩ := D_are_numbers.ex
  obtain ⟨f_is_heavy, fd_is_heavy, F_is_heavy, m_is_heavy, k_is_heavy, b_is_heavy⟩ := D_is_heavy.ex
  obtain ⟨f_corners_in, fd_corners_in, F_corners_in, m_corners_in, k_corners_in, b_corners_in⟩ := D_corners_in.ex
  obtain ⟨f_Field___init__, fd_Field___init__, F_Field___init__, M_Field___init__, b_Field___init__, m_Field___init__⟩ := D_Field___init__.ex
  obtain ⟨f_whole_of, fd_whole_of, F_whole_of, m_whole_of, k_whole_of, b_whole_of⟩ := D_whole_of.ex
  obtain ⟨f_Line___init__, fd_Line___init__, F_Line___init__, M_Line___init__, b_Line___init__, m_Line___init__⟩ := D_Line___init__.ex
  obtain ⟨f_Line_stop, fd_Line_stop, F_Line_stop, M_Line_stop, b_Line_stop⟩ := D_Line_stop.ex
  obtain ⟨f_Line_ahead, fd_Line_ahead, F_Line_ahead, M_Line_ahead, b_Line_ahead⟩ := D_Line_ahead.ex
  obtain ⟨f_Line_take, fd_Line_take, F_Line_take, M_Line_take, b_Line_take⟩ := D_Line_take.ex
  obtain ⟨f_Line_take_one, fd_Line_take_one, F_Line_take_one, M_Line_take_one, b_Line_take_one⟩ := D_Line_take_one.ex
  obtain ⟨f_Line_take_whole, fd_Line_take_whole, F_Line_take_whole, M_Line_take_whole, b_Line_take_whole⟩ := D_Line_take_whole.ex
  obtain ⟨f_Line_back, fd_Line_back, F_Line_back, M_Line_back, b_Line_back⟩ := D_Line_back.ex
  obtain ⟨f_Line_end, fd_Line_end, F_Line_end, M_Line_end, b_Line_end⟩ := D_Line_end.ex
  obtain ⟨f_Lines___init__, fd_Lines___init__, ds_Lines___init__, F_Lines___init__, M_Lines___init__, b_Lines___init__, v_Lines___init__, m_Lines___init__⟩ := D_Lines___init__.ex
  obtain ⟨f_Lines_head, fd_Lines_head, F_Lines_head, M_Lines_head, b_Lines_head⟩ := D_Lines_head.ex
  obtain ⟨f_Lines_next, fd_Lines_next, F_Lines_next, M_Lines_next, b_Lines_next⟩ := D_Lines_next.ex
  obtain ⟨f_Lines_end, fd_Lines_end, F_Lines_end, M_Lines_end, b_Lines_end⟩ := D_Lines_end.ex
  obtain ⟨f_lines_of, fd_lines_of, F_lines_of, m_lines_of, k_lines_of, b_lines_of⟩ := D_lines_of.ex
  obtain ⟨f_numbers_from, fd_numbers_from, F_numbers_from, m_numbers_from, k_numbers_from, b_numbers_from⟩ := D_numbers_from.ex
  obtain ⟨f_field_from, fd_field_from, F_field_from, m_field_from, k_field_from, b_field_from⟩ := D_field_from.ex
  obtain ⟨f_read_field, fd_read_field, F_read_field, m_read_field, k_read_field, b_read_field⟩ := D_read_field.ex
  obtain ⟨f__law_pick, fd__law_pick, F__law_pick, m__law_pick, k__law_pick, b__law_pick⟩ := D__law_pick.ex
  obtain ⟨f__law_tx_joined, fd__law_tx_joined, F__law_tx_joined, m__law_tx_joined, k__law_tx_joined, b__law_tx_joined⟩ := D__law_tx_joined.ex
  obtain ⟨f__law_no_word, fd__law_no_word, F__law_no_word, m__law_no_word, k__law_no_word, b__law_no_word⟩ := D__law_no_word.ex
  obtain ⟨f__law_fb_whole, fd__law_fb_whole, F__law_fb_whole, m__law_fb_whole, k__law_fb_whole, b__law_fb_whole⟩ := D__law_fb_whole.ex
  obtain ⟨f__law_fb_bad, fd__law_fb_bad, F__law_fb_bad, m__law_fb_bad, k__law_fb_bad, b__law_fb_bad⟩ := D__law_fb_bad.ex
  have q_fixed : CalF P w K mg base 2 "fixed" ["value"] sp_fixed := ⟨_, _, ok_fixedD (K2.ok_fix F_fixed B2 (K2.ok_row F_is_row B2) m_is_row k_is_row b_is_row), m_fixed, k_fixed, b_fixed⟩
  have q_is_integer : CalF P w K mg base 1 "is_integer" ["value"] sp_is_integer := ⟨_, _, ok_is_integer F_is_integer B  (by intro ds n Qd Qe h; first | (rcases h with ⟨rfl, _⟩; rfl) | (rcases h with ⟨_, rfl, _⟩; rfl) | (rcases h with ⟨_, _, rfl, _⟩; rfl) | (rcases h with ⟨_, _, _, rfl, _⟩; rfl) | (rcases h with ⟨_, _, _, _, rfl, _⟩; rfl) | (rcases h with ⟨_, _, _, _, _, rfl, _⟩; rfl) | (rcases h with ⟨_, _, _, _, _, _, rfl, _⟩; rfl)) law_is_integer, m_is_integer, k_is_integer, b_is_integer⟩
  have q_is_within : CalF P w K mg base 2 "is_within" ["value", "least", "most"] sp_is_within := ⟨_, _, ok_is_within F_is_within B q_is_integer (by intro ds n Qd Qe h; first | (rcases h with ⟨rfl, _⟩; rfl) | (rcases h with ⟨_, rfl, _⟩; rfl) | (rcases h with ⟨_, _, rfl, _⟩; rfl) | (rcases h with ⟨_, _, _, rfl, _⟩; rfl) | (rcases h with ⟨_, _, _, _, rfl, _⟩; rfl) | (rcases h with ⟨_, _, _, _, _, rfl, _⟩; rfl) | (rcases h with ⟨_, _, _, _, _, _, rfl, _⟩; rfl)) law_is_within, m_is_within, k_is_within, b_is_within⟩
  have q_is_row : CalF P w K mg base 1 "is_row" ["value"] sp_is_row := ⟨_, _, ok_is_row F_is_row B  (by intro ds n Qd Qe h; first | (rcases h with ⟨rfl, _⟩; rfl) | (rcases h with ⟨_, rfl, _⟩; rfl) | (rcases h with ⟨_, _, rfl, _⟩; rfl) | (rcases h with ⟨_, _, _, rfl, _⟩; rfl) | (rcases h with ⟨_, _, _, _, rfl, _⟩; rfl) | (rcases h with ⟨_, _, _, _, _, rfl, _⟩; rfl) | (rcases h with ⟨_, _, _, _, _, _, rfl, _⟩; rfl)) law_is_row, m_is_row, k_is_row, b_is_row⟩
  have q_are_numbers : CalF P w K mg base 3 "are_numbers" ["value", "many", "most"] sp_are_numbers := ⟨_, _, ok_are_numbers F_are_numbers B q_is_row q_is_within (by intro ds n Qd Qe h; first | (rcases h with ⟨rfl, _⟩; rfl) | (rcases h with ⟨_, rfl, _⟩; rfl) | (rcases h with ⟨_, _, rfl, _⟩; rfl) | (rcases h with ⟨_, _, _, rfl, _⟩; rfl) | (rcases h with ⟨_, _, _, _, rfl, _⟩; rfl) | (rcases h with ⟨_, _, _, _, _, rfl, _⟩; rfl) | (rcases h with ⟨_, _, _, _, _, _, rfl, _⟩; rfl)) law_are_numbers, m_are_numbers, k_are_numbers, b_are_numbers⟩
  have q_is_heavy : CalF P w K mg base 1 "is_heavy" ["row"] sp_is_heavy := ⟨_, _, ok_is_heavy F_is_heavy B  (by intro ds n Qd Qe h; first | (rcases h with ⟨rfl, _⟩; rfl) | (rcases h with ⟨_, rfl, _⟩; rfl) | (rcases h with ⟨_, _, rfl, _⟩; rfl) | (rcases h with ⟨_, _, _, rfl, _⟩; rfl) | (rcases h with ⟨_, _, _, _, rfl, _⟩; rfl) | (rcases h with ⟨_, _, _, _, _, rfl, _⟩; rfl) | (rcases h with ⟨_, _, _, _, _, _, rfl, _⟩; rfl)) law_is_heavy, m_is_heavy, k_is_heavy, b_is_heavy⟩
  have q_corners_in : CalF P w K mg base 4 "corners_in" ["value"] sp_corners_in := ⟨_, _, ok_corners_in F_corners_in B c_MOST_CORNERS c_MOST_NUMBER q_is_row q_are_numbers q_is_heavy q_fixed (by intro ds n Qd Qe h; first | (rcases h with ⟨rfl, _⟩; rfl) | (rcases h with ⟨_, rfl, _⟩; rfl) | (rcases h with ⟨_, _, rfl, _⟩; rfl) | (rcases h with ⟨_, _, _, rfl, _⟩; rfl) | (rcases h with ⟨_, _, _, _, rfl, _⟩; rfl) | (rcases h with ⟨_, _, _, _, _, rfl, _⟩; rfl) | (rcases h with ⟨_, _, _, _, _, _, rfl, _⟩; rfl)) law_corners_in, m_corners_in, k_corners_in, b_corners_in⟩
  have mk_Field : CalI P w K mg base 5 "Field" CFi ["self", "corners"] [] (sp_finit CFi CF) := ⟨_, _, [], M_Field___init__, ok_Field___init__ F_Field___init__ B hCF cl_Field nField_corners nField_width q_corners_in (by intro ds n Qd Qe h; first | (rcases h with ⟨rfl, _⟩; rfl) | (rcases h with ⟨_, rfl, _⟩; rfl) | (rcases h with ⟨_, _, rfl, _⟩; rfl) | (rcases h with ⟨_, _, _, rfl, _⟩; rfl) | (rcases h with ⟨_, _, _, _, rfl, _⟩; rfl) | (rcases h with ⟨_, _, _, _, _, rfl, _⟩; rfl) | (rcases h with ⟨_, _, _, _, _, _, rfl, _⟩; rfl)) (law_finit CFi CF), b_Field___init__, .nil, m_Field___init__⟩
  have q_whole_of : CalF P w K mg base 1 "whole_of" ["word", "most"] sp_whole_of := ⟨_, _, ok_whole_of F_whole_of B c_FIGURES (by intro ds n Qd Qe h; first | (rcases h with ⟨rfl, _⟩; rfl) | (rcases h with ⟨_, rfl, _⟩; rfl) | (rcases h with ⟨_, _, rfl, _⟩; rfl) | (rcases h with ⟨_, _, _, rfl, _⟩; rfl) | (rcases h with ⟨_, _, _, _, rfl, _⟩; rfl) | (rcases h with ⟨_, _, _, _, _, rfl, _⟩; rfl) | (rcases h with ⟨_, _, _, _, _, _, rfl, _⟩; rfl)) law_whole_of, m_whole_of, k_whole_of, b_whole_of⟩
  have mk_Line : CalI P w K mg base 1 "Line" CLi ["self", "number", "text"] [] (sp_linit CLi) := ⟨_, _, [], M_Line___init__, ok_Line___init__ F_Line___init__ B cl_Line nLine_at nLine_number nLine_words (by intro ds n Qd Qe h; first | (rcases h with ⟨rfl, _⟩; rfl) | (rcases h with ⟨_, rfl, _⟩; rfl) | (rcases h with ⟨_, _, rfl, _⟩; rfl) | (rcases h with ⟨_, _, _, rfl, _⟩; rfl) | (rcases h with ⟨_, _, _, _, rfl, _⟩; rfl) | (rcases h with ⟨_, _, _, _, _, rfl, _⟩; rfl) | (rcases h with ⟨_, _, _, _, _, _, rfl, _⟩; rfl)) law_linit, b_Line___init__, .nil, m_Line___init__⟩
  have mt_Line_stop : CalM P w K mg base 3 CLi "stop" ["self"] (sp_stop CLi CT) := ⟨_, _, M_Line_stop, ok_Line_stop F_Line_stop B hCT cl_Line nLine_at nLine_number (by intro ds n Qd Qe h; first | (rcases h with ⟨rfl, _⟩; rfl) | (rcases h with ⟨_, rfl, _⟩; rfl) | (rcases h with ⟨_, _, rfl, _⟩; rfl) | (rcases h with ⟨_, _, _, rfl, _⟩; rfl) | (rcases h with ⟨_, _, _, _, rfl, _⟩; rfl) | (rcases h with ⟨_, _, _, _, _, rfl, _⟩; rfl) | (rcases h with ⟨_, _, _, _, _, _, rfl, _⟩; rfl)) law_stop, b_Line_stop⟩
  have mt_Line_ahead : CalM P w K mg base 1 CLi "ahead" ["self"] (sp_ahead CLi) := ⟨_, _, M_Line_ahead, ok_Line_ahead F_Line_ahead B cl_Line nLine_at nLine_words (by intro ds n Qd Qe h; first | (rcases h with ⟨rfl, _⟩; rfl) | (rcases h with ⟨_, rfl, _⟩; rfl) | (rcases h with ⟨_, _, rfl, _⟩; rfl) | (rcases h with ⟨_, _, _, rfl, _⟩; rfl) | (rcases h with ⟨_, _, _, _, rfl, _⟩; rfl) | (rcases h with ⟨_, _, _, _, _, rfl, _⟩; rfl) | (rcases h with ⟨_, _, _, _, _, _, rfl, _⟩; rfl)) law_ahead, b_Line_ahead⟩
  have mt_Line_take : CalM P w K mg base 4 CLi "take" ["self"] (sp_take CLi CT) := ⟨_, _, M_Line_take, ok_Line_take F_Line_take B cl_Line nLine_at mt_Line_ahead mt_Line_stop (by intro ds n Qd Qe h; first | (rcases h with ⟨rfl, _⟩; rfl) | (rcases h with ⟨_, rfl, _⟩; rfl) | (rcases h with ⟨_, _, rfl, _⟩; rfl) | (rcases h with ⟨_, _, _, rfl, _⟩; rfl) | (rcases h with ⟨_, _, _, _, rfl, _⟩; rfl) | (rcases h with ⟨_, _, _, _, _, rfl, _⟩; rfl) | (rcases h with ⟨_, _, _, _, _, _, rfl, _⟩; rfl)) law_take, b_Line_take⟩
  have mt_Line_take_one : CalM P w K mg base 5 CLi "take_one" ["self", "words"] (sp_take_one CLi CT) := ⟨_, _, M_Line_take_one, ok_Line_take_one F_Line_take_one B cl_Line mt_Line_ahead mt_Line_stop mt_Line_take (by intro ds n Qd Qe h; first | (rcases h with ⟨rfl, _⟩; rfl) | (rcases h with ⟨_, rfl, _⟩; rfl) | (rcases h with ⟨_, _, rfl, _⟩; rfl) | (rcases h with ⟨_, _, _, rfl, _⟩; rfl) | (rcases h with ⟨_, _, _, _, rfl, _⟩; rfl) | (rcases h with ⟨_, _, _, _, _, rfl, _⟩; rfl) | (rcases h with ⟨_, _, _, _, _, _, rfl, _⟩; rfl)) law_take_one, b_Line_take_one⟩
  have mt_Line_take_whole : CalM P w K mg base 5 CLi "take_whole" ["self", "most"] (sp_take_whole CLi CT) := ⟨_, _, M_Line_take_whole, ok_Line_take_whole F_Line_take_whole B cl_Line mt_Line_ahead mt_Line_stop mt_Line_take q_whole_of (by intro ds n Qd Qe h; first | (rcases h with ⟨rfl, _⟩; rfl) | (rcases h with ⟨_, rfl, _⟩; rfl) | (rcases h with ⟨_, _, rfl, _⟩; rfl) | (rcases h with ⟨_, _, _, rfl, _⟩; rfl) | (rcases h with ⟨_, _, _, _, rfl, _⟩; rfl) | (rcases h with ⟨_, _, _, _, _, rfl, _⟩; rfl) | (rcases h with ⟨_, _, _, _, _, _, rfl, _⟩; rfl)) law_take_whole, b_Line_take_whole⟩
  have mt_Line_back : CalM P w K mg base 3 CLi "back" ["self"] (sp_back CLi CT) := ⟨_, _, M_Line_back, ok_Line_back F_Line_back B hCT cl_Line nLine_at nLine_number (by intro ds n Qd Qe h; first | (rcases h with ⟨rfl, _⟩; rfl) | (rcases h with ⟨_, rfl, _⟩; rfl) | (rcases h with ⟨_, _, rfl, _⟩; rfl) | (rcases h with ⟨_, _, _, rfl, _⟩; rfl) | (rcases h with ⟨_, _, _, _, rfl, _⟩; rfl) | (rcases h with ⟨_, _, _, _, _, rfl, _⟩; rfl) | (rcases h with ⟨_, _, _, _, _, _, rfl, _⟩; rfl)) law_back, b_Line_back⟩
  have mt_Line_end : CalM P w K mg base 4 CLi "end" ["self"] (sp_lend CLi CT) := ⟨_, _, M_Line_end, ok_Line_end F_Line_end B cl_Line mt_Line_ahead mt_Line_stop (by intro ds n Qd Qe h; first | (rcases h with ⟨rfl, _⟩; rfl) | (rcases h with ⟨_, rfl, _⟩; rfl) | (rcases h with ⟨_, _, rfl, _⟩; rfl) | (rcases h with ⟨_, _, _, rfl, _⟩; rfl) | (rcases h with ⟨_, _, _, _, rfl, _⟩; rfl) | (rcases h with ⟨_, _, _, _, _, rfl, _⟩; rfl) | (rcases h with ⟨_, _, _, _, _, _, rfl, _⟩; rfl)) law_lend, b_Line_end⟩
  have mk_Lines : CalI P w K mg base 1 "Lines" CLs ["self", "lines", "at"] [.int 0] (sp_lsinit CLs) := ⟨_, _, ds_Lines___init__, M_Lines___init__, ok_Lines___init__ F_Lines___init__ B cl_Lines nLines_at nLines_lines (by intro ds n Qd Qe h; first | (rcases h with ⟨rfl, _⟩; rfl) | (rcases h with ⟨_, rfl, _⟩; rfl) | (rcases h with ⟨_, _, rfl, _⟩; rfl) | (rcases h with ⟨_, _, _, rfl, _⟩; rfl) | (rcases h with ⟨_, _, _, _, rfl, _⟩; rfl) | (rcases h with ⟨_, _, _, _, _, rfl, _⟩; rfl) | (rcases h with ⟨_, _, _, _, _, _, rfl, _⟩; rfl)) law_lsinit, b_Lines___init__, v_Lines___init__, m_Lines___init__⟩
  have mt_Lines_head : CalM P w K mg base 1 CLs "head" ["self"] (sp_head CLi CLs) := ⟨_, _, M_Lines_head, ok_Lines_head F_Lines_head B cl_Line cl_Lines nLine_words nLines_at nLines_lines (by intro ds n Qd Qe h; first | (rcases h with ⟨rfl, _⟩; rfl) | (rcases h with ⟨_, rfl, _⟩; rfl) | (rcases h with ⟨_, _, rfl, _⟩; rfl) | (rcases h with ⟨_, _, _, rfl, _⟩; rfl) | (rcases h with ⟨_, _, _, _, rfl, _⟩; rfl) | (rcases h with ⟨_, _, _, _, _, rfl, _⟩; rfl) | (rcases h with ⟨_, _, _, _, _, _, rfl, _⟩; rfl)) law_head, b_Lines_head⟩
  have mt_Lines_next : CalM P w K mg base 6 CLs "next" ["self", "word"] (sp_next CLi CLs CT) := ⟨_, _, M_Lines_next, ok_Lines_next F_Lines_next B hCT cl_Line cl_Lines nLines_at nLines_lines mt_Line_take_one (by intro ds n Qd Qe h; first | (rcases h with ⟨rfl, _⟩; rfl) | (rcases h with ⟨_, rfl, _⟩; rfl) | (rcases h with ⟨_, _, rfl, _⟩; rfl) | (rcases h with ⟨_, _, _, rfl, _⟩; rfl) | (rcases h with ⟨_, _, _, _, rfl, _⟩; rfl) | (rcases h with ⟨_, _, _, _, _, rfl, _⟩; rfl) | (rcases h with ⟨_, _, _, _, _, _, rfl, _⟩; rfl)) law_next, b_Lines_next⟩
  have mt_Lines_end : CalM P w K mg base 3 CLs "end" ["self"] (sp_lsend CLi CLs CT) := ⟨_, _, M_Lines_end, ok_Lines_end F_Lines_end B hCT cl_Lines nLines_at nLines_lines (by intro ds n Qd Qe h; first | (rcases h with ⟨rfl, _⟩; rfl) | (rcases h with ⟨_, rfl, _⟩; rfl) | (rcases h with ⟨_, _, rfl, _⟩; rfl) | (rcases h with ⟨_, _, _, rfl, _⟩; rfl) | (rcases h with ⟨_, _, _, _, rfl, _⟩; rfl) | (rcases h with ⟨_, _, _, _, _, rfl, _⟩; rfl) | (rcases h with ⟨_, _, _, _, _, _, rfl, _⟩; rfl)) law_lsend, b_Lines_end⟩
  have q_lines_of : CalF P w K mg base 3 "lines_of" ["text"] (sp_lines_of CLi CLs) := ⟨_, _, ok_lines_of F_lines_of B hCT mk_Line mk_Lines (by intro ds n Qd Qe h; first | (rcases h with ⟨rfl, _⟩; rfl) | (rcases h with ⟨_, rfl, _⟩; rfl) | (rcases h with ⟨_, _, rfl, _⟩; rfl) | (rcases h with ⟨_, _, _, rfl, _⟩; rfl) | (rcases h with ⟨_, _, _, _, rfl, _⟩; rfl) | (rcases h with ⟨_, _, _, _, _, rfl, _⟩; rfl) | (rcases h with ⟨_, _, _, _, _, _, rfl, _⟩; rfl)) law_lines_of, m_lines_of, k_lines_of, b_lines_of⟩
  have q_numbers_from : CalF P w K mg base 6 "numbers_from" ["line", "least", "most"] (sp_numbers_from CLi CT) := ⟨_, _, ok_numbers_from F_numbers_from B c_MOST_NUMBER cl_Line mt_Line_ahead mt_Line_back mt_Line_take_whole q_is_heavy (by intro ds n Qd Qe h; first | (rcases h with ⟨rfl, _⟩; rfl) | (rcases h with ⟨_, rfl, _⟩; rfl) | (rcases h with ⟨_, _, rfl, _⟩; rfl) | (rcases h with ⟨_, _, _, rfl, _⟩; rfl) | (rcases h with ⟨_, _, _, _, rfl, _⟩; rfl) | (rcases h with ⟨_, _, _, _, _, rfl, _⟩; rfl) | (rcases h with ⟨_, _, _, _, _, _, rfl, _⟩; rfl)) law_numbers_from, m_numbers_from, k_numbers_from, b_numbers_from⟩
  have q_field_from : CalF P w K mg base 7 "field_from" ["lines"] (sp_field_from CLi CLs CFi CT) := ⟨_, _, ok_field_from F_field_from B c_MOST_CORNERS c_CORNER cl_Line cl_Lines mk_Field mt_Line_end mt_Lines_head mt_Lines_next q_numbers_from (by intro ds n Qd Qe h; first | (rcases h with ⟨rfl, _⟩; rfl) | (rcases h with ⟨_, rfl, _⟩; rfl) | (rcases h with ⟨_, _, rfl, _⟩; rfl) | (rcases h with ⟨_, _, _, rfl, _⟩; rfl) | (rcases h with ⟨_, _, _, _, rfl, _⟩; rfl) | (rcases h with ⟨_, _, _, _, _, rfl, _⟩; rfl) | (rcases h with ⟨_, _, _, _, _, _, rfl, _⟩; rfl)) law_field_from, m_field_from, k_field_from, b_field_from⟩
  have q_read_field : CalF P w K mg base 8 "read_field" ["text"] (sp_read_field CLi CLs CFi CT) := ⟨_, _, ok_read_field F_read_field B cl_Lines mt_Lines_end q_lines_of q_field_from (by intro ds n Qd Qe h; first | (rcases h with ⟨rfl, _⟩; rfl) | (rcases h with ⟨_, rfl, _⟩; rfl) | (rcases h with ⟨_, _, rfl, _⟩; rfl) | (rcases h with ⟨_, _, _, rfl, _⟩; rfl) | (rcases h with ⟨_, _, _, _, rfl, _⟩; rfl) | (rcases h with ⟨_, _, _, _, _, rfl, _⟩; rfl) | (rcases h with ⟨_, _, _, _, _, _, rfl, _⟩; rfl)) law_read_field, m_read_field, k_read_field, b_read_field⟩
  have q__law_pick : CalF P w K mg base 2 "_law_pick" ["pen", "some"] sp_pick := ⟨_, _, ok__law_pick F__law_pick B q__law_draw (by intro ds n Qd Qe h; first | (rcases h with ⟨rfl, _⟩; rfl) | (rcases h with ⟨_, rfl, _⟩; rfl) | (rcases h with ⟨_, _, rfl, _⟩; rfl) | (rcases h with ⟨_, _, _, rfl, _⟩; rfl) | (rcases h with ⟨_, _, _, _, rfl, _⟩; rfl) | (rcases h with ⟨_, _, _, _, _, rfl, _⟩; rfl) | (rcases h with ⟨_, _, _, _, _, _, rfl, _⟩; rfl)) law_pick, m__law_pick, k__law_pick, b__law_pick⟩
  have q__law_tx_joined : CalF P w K mg base 1 "_law_tx_joined" ["lines"] sp_tx_joined := ⟨_, _, ok__law_tx_joined F__law_tx_joined B  (by intro ds n Qd Qe h; first | (rcases h with ⟨rfl, _⟩; rfl) | (rcases h with ⟨_, rfl, _⟩; rfl) | (rcases h with ⟨_, _, rfl, _⟩; rfl) | (rcases h with ⟨_, _, _, rfl, _⟩; rfl) | (rcases h with ⟨_, _, _, _, rfl, _⟩; rfl) | (rcases h with ⟨_, _, _, _, _, rfl, _⟩; rfl) | (rcases h with ⟨_, _, _, _, _, _, rfl, _⟩; rfl)) law_tx_joined, m__law_tx_joined, k__law_tx_joined, b__law_tx_joined⟩
  have q__law_no_word : CalF P w K mg base 3 "_law_no_word" ["pen"] sp_no_word := ⟨_, _, ok__law_no_word F__law_no_word B q__law_pick (by intro ds n Qd Qe h; first | (rcases h with ⟨rfl, _⟩; rfl) | (rcases h with ⟨_, rfl, _⟩; rfl) | (rcases h with ⟨_, _, rfl, _⟩; rfl) | (rcases h with ⟨_, _, _, rfl, _⟩; rfl) | (rcases h with ⟨_, _, _, _, rfl, _⟩; rfl) | (rcases h with ⟨_, _, _, _, _, rfl, _⟩; rfl) | (rcases h with ⟨_, _, _, _, _, _, rfl, _⟩; rfl)) law_no_word, m__law_no_word, k__law_no_word, b__law_no_word⟩
  have q__law_fb_whole : CalF P w K mg base 1 "_law_fb_whole" ["word"] sp_fb_whole := ⟨_, _, ok__law_fb_whole F__law_fb_whole B  (by intro ds n Qd Qe h; first | (rcases h with ⟨rfl, _⟩; rfl) | (rcases h with ⟨_, rfl, _⟩; rfl) | (rcases h with ⟨_, _, rfl, _⟩; rfl) | (rcases h with ⟨_, _, _, rfl, _⟩; rfl) | (rcases h with ⟨_, _, _, _, rfl, _⟩; rfl) | (rcases h with ⟨_, _, _, _, _, rfl, _⟩; rfl) | (rcases h with ⟨_, _, _, _, _, _, rfl, _⟩; rfl)) law_fb_whole, m__law_fb_whole, k__law_fb_whole, b__law_fb_whole⟩
  have q__law_fb_bad : CalF P w K mg base 2 "_law_fb_bad" ["lines"] sp_fb_bad := ⟨_, _, ok__law_fb_bad F__law_fb_bad B q__law_fb_whole (by intro ds n Qd Qe h; first | (rcases h with ⟨rfl, _⟩; rfl) | (rcases h with ⟨_, rfl, _⟩; rfl) | (rcases h with ⟨_, _, rfl, _⟩; rfl) | (rcases h with ⟨_, _, _, rfl, _⟩; rfl) | (rcases h with ⟨_, _, _, _, rfl, _⟩; rfl) | (rcases h with ⟨_, _, _, _, _, rfl, _⟩; rfl) | (rcases h with ⟨_, _, _, _, _, _, rfl, _⟩; rfl)) law_fb_bad, m__law_fb_bad, k__law_fb_bad, b__law_fb_bad⟩
  exact dss_law B HR cl_Field nField_corners nField_width mk_Field q__law_draw q__law_pick q__law_no_word q__law_tx_joined q__law_fb_bad q_read_field
end
end K78
set_option Elab.async false
set_option linter.all false
set_option maxRecDepth 100000
set_option maxHeartbeats 4000000
namespace K78
open PySem L2 Evl DL XcH LamX
abbrev sHr : Stmt := top 46
def nHr : List Str := ["ask", "caught", "found", "error", "some", "words", "word", "is_one"]
theorem scHr : FnScope nHr ["ask"] (defScope sHr) := ⟨rfl, rfl, rfl, by decide +kernel, rfl, by decide +kernel, by decide +kernel⟩
def hrWords : List Str := ["statement", "sheet", "way", "code", "value", "number", "paper", "field", "page", "misfit"]
structure HrG (K : PySem.W.Frag) (mg : Str → Option Value) (Wx Wd : Addr → Option Str) (Tx : Addr → Prop) : Prop where
  all : ∃ CA, mg "AllError" = some (.ref CA) ∧ ∀ C W, Wx C = some W → PySem.W.exmOne K (.ref C) (.ref CA) = some true
  c0 : ∃ c, mg "BadStatement" = some (.ref c) ∧ ∀ C W, Wx C = some W → PySem.W.kitOne K (.ref C) (.ref c) = some (decide (W = "statement"))
  c1 : ∃ c, mg "BadSheet" = some (.ref c) ∧ ∀ C W, Wx C = some W → PySem.W.kitOne K (.ref C) (.ref c) = some (decide (W = "sheet"))
  c2 : ∃ c, mg "BadWay" = some (.ref c) ∧ ∀ C W, Wx C = some W → PySem.W.kitOne K (.ref C) (.ref c) = some (decide (W = "way"))
  c3 : ∃ c, mg "BadCode" = some (.ref c) ∧ ∀ C W, Wx C = some W → PySem.W.kitOne K (.ref C) (.ref c) = some (decide (W = "code"))
  c4 : ∃ c, mg "BadValue" = some (.ref c) ∧ ∀ C W, Wx C = some W → PySem.W.kitOne K (.ref C) (.ref c) = some (decide (W = "value"))
  c5 : ∃ c, mg "BadNumber" = some (.ref c) ∧ ∀ C W, Wx C = some W → PySem.W.kitOne K (.ref C) (.ref c) = some (decide (W = "number"))
  c6 : ∃ c, mg "BadPaper" = some (.ref c) ∧ ∀ C W, Wx C = some W → PySem.W.kitOne K (.ref C) (.ref c) = some (decide (W = "paper"))
  c7 : ∃ c, mg "BadField" = some (.ref c) ∧ ∀ C W, Wx C = some W → PySem.W.kitOne K (.ref C) (.ref c) = some (decide (W = "field"))
  c8 : ∃ c, mg "BadPage" = some (.ref c) ∧ ∀ C W, Wx C = some W → PySem.W.kitOne K (.ref C) (.ref c) = some (decide (W = "page"))
  c9 : ∃ c, mg "Misfit" = some (.ref c) ∧ ∀ C W, Wx C = some W → PySem.W.kitOne K (.ref C) (.ref c) = some (decide (W = "misfit"))
  c10 : ∃ c, mg "TooMany" = some (.ref c) ∧ ∀ C W, Wx C = some W → PySem.W.kitOne K (.ref C) (.ref c) = some false
  c11 : ∃ c, mg "BadName" = some (.ref c) ∧ ∀ C W, Wx C = some W → PySem.W.kitOne K (.ref C) (.ref c) = some false
  c12 : ∃ c, mg "BadText" = some (.ref c) ∧ ∀ C W, Wx C = some W → PySem.W.kitOne K (.ref C) (.ref c) = some (decide (W = "text"))
  ec : ∀ C W, Wx C = some W → ExcC K C ∧ XfC K C
  wd : ∀ C W, Wd C = some W → Wx C = some W ∧ PySem.W.findIn K (.ref C) "part" = some none ∧ W ∈ hrWords
  tx : ∀ C, Tx C → Wx C = some ("text" : Str) ∧ PySem.W.findIn K (.ref C) "line" = some none ∧ PySem.W.findIn K (.ref C) "word" = some none
def hrRows (W : Str) : List (Str × Bool) := hrWords.map fun w => (w, decide (W = w))
theorem hr_given {W : Str} (h : W ∈ hrWords) : given (hrRows W).length (fun i => (((hrRows W)[i]?).map (·.2)).getD false) (fun i => V.str ((((hrRows W)[i]?).map (·.1)).getD "")) = [.str W] := by
  simp only [hrWords, List.mem_cons, List.not_mem_nil, or_false] at h
  rcases h with rfl | rfl | rfl | rfl | rfl | rfl | rfl | rfl | rfl | rfl <;> rfl
theorem hr_none : given (hrRows "text").length (fun i => (((hrRows "text")[i]?).map (·.2)).getD false) (fun i => V.str ((((hrRows "text")[i]?).map (·.1)).getD "")) = [] := rfl
theorem ev_isX {K : PySem.W.Frag} {σ : L2.St} {H : Hp} {a C dx : Addr} {fs : List (Str × V)} {te : TE} {c : Addr} {b : Bool} (hσ : Ev te σ H (.ref a)) (ha : H a = some (ExT (.ref C) (some dx) a)) (hd : H dx = some (.xd fs)) (hc : ExcC K C) (hk : PySem.W.kitOne K (.ref C) (.ref c) = some b) :
    Ev (tCB (rIsX K) (tCons te (tCons (tC (.ref c)) tNil))) σ H (.bl b) :=
  ev_cb (ea_cons hσ (ea_cons ev_c ea_nil)) fun H1 e1 Q q => ⟨a, C, dx, fs, .ref c, .ref c, b, rfl, e1 _ _ ha, e1 _ _ hd, hc, fun u hu => hu, hk, q H1 (Ex.refl H1)⟩
theorem eg_var {σ : L2.St} {H : Hp} {xss : List (List V)} {j : Nat} {l : Addr} {ps : List Addr} (hj : σ[j]? = some (some (.ref l))) (hl : H l = some (.lst (ps.map V.ref))) (hp : Tups H ps xss) : EvG (tVar j) σ H xss := fun H1 e Q q => ⟨_, hj, q l ps H1 (Ex.refl _) (e _ _ hl) (hp.ex e)⟩
theorem eu_ifT {σ : L2.St} {H : Hp} {t : TT} {ta tb : TE} {xs : List V} (h : EvT t σ H true) (k : EvU ta σ H xs) : EvU (tIf t ta tb) σ H xs := fun H1 e Q q => h H1 e _ fun H2 e2 => by
  show ta σ H2 Q
  exact k H2 (e.trans e2) Q fun p H3 hp e3 h3 => q p H3 (fresh_back e2 hp) (e2.trans e3) h3
theorem heard_gives {X : Cx} {Wx Wd : Addr → Option Str} {Tx : Addr → Prop} {g : Addr} {cdg : Value} {q : Str} (hR : Room 2 X.A) (B : Bl X.mg) (Hc : HrG X.K X.mg Wx Wd Tx) : GivesTo X nHr "_law_heard" (defScope sHr) g cdg (defBody sHr) "ask" q (TTh Wd Tx fun _ => False) := by
  intro f c' s H Q tl act hc h
  obtain ⟨CA, hA, hAx⟩ := Hc.all
  obtain ⟨C0, h0, k0⟩ := Hc.c0
  obtain ⟨C1, h1, k1⟩ := Hc.c1
  obtain ⟨C2, h2, k2⟩ := Hc.c2
  obtain ⟨C3, h3, k3⟩ := Hc.c3
  obtain ⟨C4, h4, k4⟩ := Hc.c4
  obtain ⟨C5, h5, k5⟩ := Hc.c5
  obtain ⟨C6, h6, k6⟩ := Hc.c6
  obtain ⟨C7, h7, k7⟩ := Hc.c7
  obtain ⟨C8', h8, k8⟩ := Hc.c8
  obtain ⟨C9, h9, k9⟩ := Hc.c9
  obtain ⟨CM, hM, kM⟩ := Hc.c10
  obtain ⟨CN, hN, kN⟩ := Hc.c11
  obtain ⟨CT, hT, kT⟩ := Hc.c12
  have hu : (cxOf C8.CX0 X.prog X.w X.K X.mg X.base nHr "_law_heard" (defScope sHr) g cdg X.A X.stack s H C8.E0).nox.A.units < cLine := Nat.lt_of_le_of_lt (Nat.le_succ _) (hu_of (hR.deeper _))
  refine ⟨_, pss_cons (ps_asg (pe_tup (pa_cons pe_non (pa_cons pe_non pa_nil))) (pg_tup rfl (pgs_cons (pg_name (i := 1) scHr.nd rfl (Or.inl rfl)) (pgs_cons (pg_name (i := 2) scHr.nd rfl (Or.inl rfl)) pgs_nil))))
    (pss_cons (ps_try_kept (X := (cxOf C8.CX0 X.prog X.w X.K X.mg X.base nHr "_law_heard" (defScope sHr) g cdg X.A X.stack s H C8.E0).nox) (i := 3) (c := .ref CA) (Wout := fun _ _ _ _ => False) (ts := fun _ _ _ => tAsg (tVar 3) (gName 1))
        (tb := fun W D σ H => ∃ Ech : XK, (∀ cls d σ' H', Ech cls d H' → W cls d σ' H') ∧ σ[0]? = some (some (.ref f)) ∧ H c' = some (CodeO c' q) ∧ tl Ech H fun v H1 => D.nx (σ.set 2 (some v)) H1)
        rfl rfl rfl scHr.nd rfl rfl ⟨rfl, by decide, .inl hA⟩ LamX.takes0 (fun W pn xe tk _ => ?_) (fun a oe cls d pn _ _ => pss_one (ps_set (i := 1) scHr.nd rfl (Or.inl rfl) (pv 3))))
      (pss_cons (ps_if (pt_cmp (pc_isN (pv 1))) (pss_one (ps_ret (pe_lst (pa_cons (pv 2) pa_nil)))) pss_nil)
        (pss_cons (ps_set (i := 4) scHr.nd rfl (Or.inl rfl) (pe_lst
            (pa_cons (pe_tup (pa_cons pe_str (pa_cons (pe_callB call_isX (by rfl) B.isi bIsi (pa_cons (pv 1) (pa_cons (pe_glob (v := .ref C0) (by rfl) h0 rfl) pa_nil))) pa_nil)))
            (pa_cons (pe_tup (pa_cons pe_str (pa_cons (pe_callB call_isX (by rfl) B.isi bIsi (pa_cons (pv 1) (pa_cons (pe_glob (v := .ref C1) (by rfl) h1 rfl) pa_nil))) pa_nil)))
            (pa_cons (pe_tup (pa_cons pe_str (pa_cons (pe_callB call_isX (by rfl) B.isi bIsi (pa_cons (pv 1) (pa_cons (pe_glob (v := .ref C2) (by rfl) h2 rfl) pa_nil))) pa_nil)))
            (pa_cons (pe_tup (pa_cons pe_str (pa_cons (pe_callB call_isX (by rfl) B.isi bIsi (pa_cons (pv 1) (pa_cons (pe_glob (v := .ref C3) (by rfl) h3 rfl) pa_nil))) pa_nil))) pa_nil))))))
          (pss_cons (ps_set (i := 4) scHr.nd rfl (Or.inl rfl) (pe_op op_cat (pv 4) (pe_lst
              (pa_cons (pe_tup (pa_cons pe_str (pa_cons (pe_callB call_isX (by rfl) B.isi bIsi (pa_cons (pv 1) (pa_cons (pe_glob (v := .ref C4) (by rfl) h4 rfl) pa_nil))) pa_nil)))
              (pa_cons (pe_tup (pa_cons pe_str (pa_cons (pe_callB call_isX (by rfl) B.isi bIsi (pa_cons (pv 1) (pa_cons (pe_glob (v := .ref C5) (by rfl) h5 rfl) pa_nil))) pa_nil)))
              (pa_cons (pe_tup (pa_cons pe_str (pa_cons (pe_callB call_isX (by rfl) B.isi bIsi (pa_cons (pv 1) (pa_cons (pe_glob (v := .ref C6) (by rfl) h6 rfl) pa_nil))) pa_nil)))
              (pa_cons (pe_tup (pa_cons pe_str (pa_cons (pe_callB call_isX (by rfl) B.isi bIsi (pa_cons (pv 1) (pa_cons (pe_glob (v := .ref C7) (by rfl) h7 rfl) pa_nil))) pa_nil))) pa_nil)))))))
            (pss_cons (ps_set (i := 4) scHr.nd rfl (Or.inl rfl) (pe_op op_cat (pv 4) (pe_lst
              (pa_cons (pe_tup (pa_cons pe_str (pa_cons (pe_callB call_isX (by rfl) B.isi bIsi (pa_cons (pv 1) (pa_cons (pe_glob (v := .ref C8') (by rfl) h8 rfl) pa_nil))) pa_nil)))
              (pa_cons (pe_tup (pa_cons pe_str (pa_cons (pe_callB call_isX (by rfl) B.isi bIsi (pa_cons (pv 1) (pa_cons (pe_glob (v := .ref C9) (by rfl) h9 rfl) pa_nil))) pa_nil))) pa_nil)))))
            (pss_cons (ps_setLc (i := 5) (own := [("word", 6), ("is_one", 7)]) (g := gTup X.K 2 (gCons (gName 6) (gCons (gName 7) gNil))) (tt := tB (tVar 7)) (te := tVar 6) rfl scHr.nd rfl rfl (sw_true rfl rfl rfl (by decide +kernel)) (pi_list (pv 4)) (blkOk_by (N := nHr) (sc := defScope sHr) (by decide +kernel))
                (fun _ _ _ _ _ => pg_tup rfl (pgs_cons (pg_name (i := 6) scHr.nd rfl (Or.inl rfl)) (pgs_cons (pg_name (i := 7) scHr.nd rfl (Or.inl rfl)) pgs_nil))) (fun _ _ _ _ _ => pts_one (pt_val (pv 7))) (fun _ _ _ _ _ => pv 6))
              (pss_cons (ps_if (pt_cmpR (op_neE hu) (pv 5) (pe_lst pa_nil) (nomark _)) (pss_one (ps_ret (pe_tup (pa_cons (pe_ix ix_seq (pv 5) pe_int (fun _ _ => rfl)) (pa_cons (pe_xg (pv 1)) pa_nil))))) pss_nil)
                (pss_cons (ps_if (pt_val (pe_callB call_isX (by rfl) B.isi bIsi (pa_cons (pv 1) (pa_cons (pe_glob (v := .ref CM) (by rfl) hM rfl) pa_nil)))) (⟨fun _ _ _ _ _ _ z => z.elim⟩ : PSs _ _ fun _ _ _ => False) pss_nil) (pss_cons (ps_if (pt_val (pe_callB call_isX (by rfl) B.isi bIsi (pa_cons (pv 1) (pa_cons (pe_glob (v := .ref CN) (by rfl) hN rfl) pa_nil)))) (⟨fun _ _ _ _ _ _ z => z.elim⟩ : PSs _ _ fun _ _ _ => False) pss_nil) (pss_one (ps_ret (pe_ifExp (pt_val (pe_callB call_isX (by rfl) B.isi bIsi (pa_cons (pv 1) (pa_cons (pe_glob (v := .ref CT) (by rfl) hT rfl) pa_nil)))) (pe_tup (pa_cons pe_str (pa_cons (pe_xg (pv 1)) (pa_cons (pe_xg (pv 1)) pa_nil)))) (⟨fun _ _ _ _ _ _ z => z.elim⟩ : PE _ _ fun _ _ _ => False))))))))))))), ?_⟩
  · refine ⟨fun pins s' σ H' D I h' => ?_⟩
    obtain ⟨Ech, hW, g1, g2, g3⟩ := h'
    have hp := fun p1 p2 => act W pn xe Ech p1 p2 tk hW
    exact (pss_one (ps_set (i := 2) scHr.nd rfl (Or.inl rfl) (hp _ _))).run pins s' σ H' D I ⟨g1, g2, g3⟩
  · refine ⟨(by show 2 ≤ sizeLine; decide), fun p hp => ⟨p, _, rfl, SqT.of upd_same, rfl, .non, _, rfl, .non, _, rfl, rfl, ?_⟩⟩
    refine ⟨fun cls d H' => ∃ C vfs ts dx, HearV Wd Tx (fun _ => False) C vfs ts ∧ cls = .ref C ∧ d = some dx ∧ H' dx = some (.xd vfs) ∧ ∀ p H'', H' p = none → Ex H' H'' → H'' p = some (.tup ts) → Q (.ref p) H'', ?_, rfl, Ex.new hp _ _ hc, h _ (Ex.new hp) _ _ (fun C vfs ts dx H' hw h1 h2 => ⟨C, vfs, ts, dx, hw, rfl, rfl, h1, h2⟩) (fun v H' hv => ?_)⟩
    · rintro cls d σ' H' ⟨C, vfs, ts, dx, hV, rfl, rfl, hdx, hQ⟩ hlen
      have hW : ∃ W, Wx C = some W := by
        cases hV with
        | part hw => exact ⟨_, (Hc.wd _ _ hw).1⟩
        | text hw => exact ⟨_, (Hc.tx _ hw).1⟩
        | many hw => exact hw.elim
      obtain ⟨W, hW⟩ := hW
      obtain ⟨ecx, xfx⟩ := Hc.ec C W hW
      refine ⟨true, hAx C W hW, fun _ a ha => ?_, fun z => nomatch z⟩
      obtain ⟨s0, s1, s2, s3, s4, s5, s6, s7, rfl⟩ : ∃ s0 s1 s2 s3 s4 s5 s6 s7, σ' = [s0, s1, s2, s3, s4, s5, s6, s7] := by
        match σ', hlen with
        | [s0, s1, s2, s3, s4, s5, s6, s7], _ => exact ⟨s0, s1, s2, s3, s4, s5, s6, s7, rfl⟩
      refine ⟨.ref a, rfl, .ref a, rfl, _, rfl, ?_⟩
      rw [decide_eq_false (fun z => nomatch z)]
      have e0 : Ex H' (upd H' a (ExT (.ref C) (some dx) a)) := Ex.new ha
      have ga : upd H' a (ExT (.ref C) (some dx) a) a = some (ExT (.ref C) (some dx) a) := upd_same
      have gd := e0 _ _ hdx
      generalize upd H' a (ExT (.ref C) (some dx) a) = H1 at e0 ga gd
      refine iteF (q_asgUs (eus_cons (eu_is (ev_var rfl) ga gd ecx (k0 C W hW)) (eus_cons (eu_is (ev_var rfl) ga gd ecx (k1 C W hW)) (eus_cons (eu_is (ev_var rfl) ga gd ecx (k2 C W hW)) (eus_cons (eu_is (ev_var rfl) ga gd ecx (k3 C W hW)) eus_nil)))) (by simp) fun l ps H2 e2 hl hps => ?_)
      have ga2 := e2 _ _ ga
      have gd2 := e2 _ _ gd
      refine q_catUs (j := 4) rfl hl hps (eus_cons (eu_is (ev_var rfl) ga2 gd2 ecx (k4 C W hW)) (eus_cons (eu_is (ev_var rfl) ga2 gd2 ecx (k5 C W hW)) (eus_cons (eu_is (ev_var rfl) ga2 gd2 ecx (k6 C W hW)) (eus_cons (eu_is (ev_var rfl) ga2 gd2 ecx (k7 C W hW)) eus_nil)))) (by simp) (by simp) fun l3 ps3 H3 e3 hl3 hps3 => ?_
      have ga3 := e3 _ _ ga2
      have gd3 := e3 _ _ gd2
      refine q_catUs (j := 4) rfl hl3 hps3 (eus_cons (eu_is (ev_var rfl) ga3 gd3 ecx (k8 C W hW)) (eus_cons (eu_is (ev_var rfl) ga3 gd3 ecx (k9 C W hW)) eus_nil)) (by simp) (by simp) fun l9 ps9 H9 e9 hl9 hps9 => ?_
      have ga9 := e9 _ _ ga3
      have gd9 := e9 _ _ gd3
      cases hV with
      | many hw => exact hw.elim
      | part hw =>
        rename_i W2 x
        obtain ⟨hx1, noPx, hin⟩ := Hc.wd _ _ hw
        have hWW : W2 = W := Option.some.inj (hx1.symm.trans hW)
        subst hWW
        refine q_asgL (xs := [.str W2]) (by rw [← hr_given hin]; exact el_names (rows := hrRows W2) (eg_var (j := 4) rfl hl9 hps9) (by simp [hrRows, hrWords])) fun pw H4 hpw e4 hw => ?_
        refine q_when (b := true) (et_test (ev_opL (xs := []) (ev_var rfl) (el_lst ea_nil (by decide)) fun p H6 hp e6 H7 e7 Q1 q1 => ⟨pw, p, _, rfl, rfl, SqL.of ((e6.trans e7) _ _ hw), SqL.of (e7 _ _ hp), q1 _ (Ex.refl _)⟩)) (fun _ H5 e5 => ?_) (fun z => nomatch z)
        refine s_retU (xs := [.str W2, .str x]) (eu_tup (ea_cons (ev_op (ev_var rfl) ev_c (K2.rv_ixQ (i := 0) (.inl (SqL.of (e5 _ _ hw))) rfl)) (ea_cons (fun H6 e6 Q1 q1 => ?_) ea_nil)) (by show 2 ≤ 100000; decide)) fun p H6 hp6 e6 h6 => hQ p H6 (fresh_back (((((e0.trans e2).trans e3).trans e9).trans e4).trans e5) hp6) (((((e0.trans e2).trans e3).trans e9).trans e4).trans (e5.trans e6)) h6
        have ee := (((e3.trans e9).trans e4).trans e5).trans e6
        exact ⟨.ref a, rfl, a, C, dx, _, .str x, rfl, ee _ _ ga2, ee _ _ gd2, xfx, noPx, rfl, q1 _ (Ex.refl _)⟩
      | text hw =>
        rename_i i j
        obtain ⟨hx1, noL, noW⟩ := Hc.tx _ hw
        have hWW : W = "text" := Option.some.inj (hW.symm.trans hx1)
        subst hWW
        refine q_asgL (xs := []) (by rw [← hr_none]; exact el_names (rows := hrRows "text") (eg_var (j := 4) rfl hl9 hps9) (by simp [hrRows, hrWords])) fun pw H4 hpw e4 hw => ?_
        refine q_when (b := false) (et_test (ev_opL (xs := []) (ev_var rfl) (el_lst ea_nil (by decide)) fun p H6 hp e6 H7 e7 Q1 q1 => ⟨pw, p, _, rfl, rfl, SqL.of ((e6.trans e7) _ _ hw), SqL.of (e7 _ _ hp), q1 _ (Ex.refl _)⟩)) (fun z => nomatch z) (fun _ H5 e5 => ?_)
        have e35 := ((e3.trans e9).trans e4).trans e5
        refine q_when (b := false) (et_B (ev_isX (ev_var rfl) (e35 _ _ ga2) (e35 _ _ gd2) ecx (kM C _ hW))) (fun z => nomatch z) (fun _ H6 e6 => ?_)
        have e36 := e35.trans e6
        refine q_when (b := false) (et_B (ev_isX (ev_var rfl) (e36 _ _ ga2) (e36 _ _ gd2) ecx (kN C _ hW))) (fun z => nomatch z) (fun _ H7 e7 => ?_)
        have e37 := e36.trans e7
        refine s_retU (xs := [.str "text", .int i, .int j]) (eu_ifT (et_B (ev_isX (ev_var rfl) (e37 _ _ ga2) (e37 _ _ gd2) ecx ((kT C _ hW).trans (by rw [decide_eq_true rfl])))) (eu_tup (ea_cons ev_c (ea_cons (fun H8 e8 Q1 q1 => ?_) (ea_cons (fun H8 e8 Q1 q1 => ?_) ea_nil))) (by show 3 ≤ 100000; decide))) fun p H8 hp8 e8 h8 => hQ p H8 (fresh_back ((e0.trans e2).trans e37) hp8) (((e0.trans e2).trans e37).trans e8) h8
        · have ee := e37.trans e8
          exact ⟨.ref a, rfl, a, C, dx, _, .int i, rfl, ee _ _ ga2, ee _ _ gd2, xfx, noL, rfl, q1 _ (Ex.refl _)⟩
        · have ee := e37.trans e8
          exact ⟨.ref a, rfl, a, C, dx, _, .int j, rfl, ee _ _ ga2, ee _ _ gd2, xfx, noW, rfl, q1 _ (Ex.refl _)⟩
    · refine ⟨.non, rfl, _, rfl, ?_⟩
      rw [show decide (V.non = V.non) = true from decide_eq_true rfl]
      exact iteT ⟨v, rfl, (by show 1 ≤ sizeLine; decide), fun p hp => hv p _ hp (Ex.new hp) upd_same⟩
end K78
set_option Elab.async false
set_option linter.all false
set_option maxRecDepth 100000
set_option maxHeartbeats 4000000
/-! own: the end of a law whose def is walked at the caller's own place (repr asks what is being shown); LamX.law_callTs turned -/
namespace LamG
open PySem PySem.Spec PyProof.Rows L2 LamX
theorem law_callG {P : Program} {w : World} {K : PySem.W.Frag} {mg mb : Str → Option Value} {fa a : Addr} {cs : List (Addr × Addr)} {s₁ : Shared} {vs : List Value} {ns : List Int}
    (KX : K.In s₁.heap) (hns : s₁.heap.Ns mainGlobals mg) (hb : s₁.heap.Ns builtinsNs mb) (hbb : ∀ x : Str, x ≠ "__name__" → mb x = bootBuiltins x) (hlim : s₁.heap.NoLimit) (hg : s₁.gens = #[])
    (hT : ∀ p ∈ cs, s₁.heap.get? p.2 = some { cls := .none, data := .fields #[] }) (nT : ∀ p ∈ cs, K.lookup p.2 = none) (C : ∀ p ∈ cs, PySem.W.CodeHd s₁.heap p.1 p.2)
    (hbm : ∃ (bm : Addr) (ob : Obj), mg "__builtins__" = some (.ref bm) ∧ bm ≠ builtinsNs ∧ s₁.heap.get? bm = some ob ∧ ob.cls = .type "module" ∧ ob.dict = some builtinsNs ∧ ob.data = .plain)
    (ha : s₁.heap.get? a = some { cls := .type "list", data := .seq vs.toArray }) (hi : IntsAre vs ns) (hl : ns.length ≤ sizeLine) 
    (F : ∀ (base : Heap) (H : Hp), K.In base → base.Ns mainGlobals mg → (∀ p ∈ cs, TabB base mg p.1 p.2) → Env0 P w K mg base callerA [] s₁ H → (∀ p ∈ cs, H p.2 = some (.tbl #[])) → SqL K H a (ns.map V.int) →
      codeAny (model P w) callerA (.call (.ref fa) ⟨[.ref a], []⟩) (CR C8.CX0 [] P w H s₁ (fun v _ => v = .bl true) C8.E0) s₁) :
    codeAny (model P w) callerA (.call (.ref fa) ⟨[.ref a], []⟩) (fun r s' => r = .ok (.ret (.bool true)) ∧ OldK s₁.heap s'.heap ∧ s'.os = s₁.os ∧ AllBare s'.gens) s₁ := by
  have rv := vals_ints hi
  have lenV := hi.length
  have isT : ∀ b : Addr, b ∈ cs.map (·.2) → s₁.heap.get? b = some { cls := .none, data := .fields #[] } := fun b hb => by
    obtain ⟨p, hp, e⟩ := List.mem_map.mp hb
    rw [← e]
    exact hT p hp
  have aT : a ∉ cs.map (·.2) := fun z => by
    have q := isT a z
    rw [ha] at q
    have z' : Data.seq vs.toArray _ = Data.fields #[] := congrArg Obj.data (Option.some.inj q)
    cases z'
  have memT : ∀ p ∈ cs, p.2 ∈ cs.map (·.2) := fun p hp => List.mem_map.mpr ⟨p, hp, rfl⟩
  -- from an abstract heap in which nothing but the script and the tables may be tracked
  have core : ∀ H : Hp, (∀ p ∈ cs, H p.2 = some (.tbl #[])) → (∀ b, H b = none ∨ b ∈ cs.map (·.2) ∨ ∃ o xs, H b = some (.frz o (.lst xs))) → SqL K H a (ns.map V.int) → HOk P w H s₁.heap → (∀ b, H b ≠ none → b = a ∨ b ∈ cs.map (·.2)) → (H a ≠ none → K.lookup a = none) →
      codeAny (model P w) callerA (.call (.ref fa) ⟨[.ref a], []⟩) (fun r s' => r = .ok (.ret (.bool true)) ∧ OldK s₁.heap s'.heap ∧ s'.os = s₁.os ∧ AllBare s'.gens) s₁ := by
    intro H hH hO hS hok hA hK
    have base_of : ∀ {b : Addr} {o : Obj}, s₁.heap.get? b = some o → H b = none → (hidT s₁.heap H).get? b = some o := fun e n => hidT_get e n
    have noD : ∀ {b : Addr} {o : Obj}, s₁.heap.get? b = some o → (∀ vs n, o.data ≠ .seq vs n) → o.data ≠ .fields #[] → H b = none := fun {b o} e h1 h2 => by
      cases q : H b with
      | none => rfl
      | some u =>
        rcases hA b (by rw [q]; simp) with e' | e'
        · rw [e', ha] at e
          cases e
          exact (h1 _ _ rfl).elim
        · rw [isT b e'] at e
          cases e
          exact (h2 rfl).elim
    have noA : ∀ {b : Addr} {o : Obj} {es : Array DictEntry} {ep : Nat}, s₁.heap.get? b = some o → o.data = .dict es ep → H b = none := fun {b o es ep} e d => by
      refine noD e (fun vs n z => ?_) fun z => ?_
      · rw [d] at z
        cases z
      · rw [d] at z
        cases z
    have nsK : ∀ {b : Addr} {m : Str → Option Value}, s₁.heap.Ns b m → (hidT s₁.heap H).Ns b m := fun {b m} ⟨o, es, ep, e, d, r⟩ => ⟨o, es, ep, base_of e (noA e d), d, r⟩
    have hKb : K.In (hidT s₁.heap H) := fun b o e => base_of (KX b o e) (by
      cases q : H b with
      | none => rfl
      | some u =>
        rcases hA b (by rw [q]; simp) with e' | e'
        · rw [e'] at e q
          rw [hK (by rw [q]; simp)] at e
          cases e
        · obtain ⟨p, hp, ep⟩ := List.mem_map.mp e'
          rw [← ep, nT p hp] at e
          cases e)
    have hM : L2.Mod K mg (hidT s₁.heap H) := ⟨hKb, nsK hns, ⟨mb, nsK hb, hbb⟩, let ⟨mc, h1, h2⟩ := hlim; ⟨mc, nsK h1, h2⟩⟩
    have TB : ∀ p ∈ cs, TabB (hidT s₁.heap H) mg p.1 p.2 := fun p hp => by
      have hTp := hT p hp
      refine ⟨?_, ?_, fun z => ?_⟩
      · obtain ⟨o, us, file, tf, flags, tg, inF, text, tt, e1, r1, r2, r3, r4, r5, r6, r7, r8, hne⟩ := C p hp
        refine ⟨o, us, file, tf, flags, tg, inF, text, tt, base_of e1 (noD e1 (fun vs n z => ?_) fun z => ?_), r1, r2, r3, r4, r5, r6, r7, r8, hne⟩
        · rw [r2] at z
          cases z
        · rw [r2] at z
          cases z
          simp at r3
      · obtain ⟨bm, ob, b1, b2, b3, b4, b5, b6⟩ := hbm
        have nG : bm ≠ mainGlobals := fun q => by
          obtain ⟨o, es, ep, e, hd, _⟩ := hns
          rw [q, e] at b3
          cases b3
          rw [hd] at b6
          cases b6
        have nP : bm ≠ p.2 := fun q => by
          rw [q, hTp] at b3
          cases b3
          cases b6
        refine ⟨bm, ob, b1, b2, nG, nP, base_of b3 (noD b3 (fun vs n z => ?_) fun z => ?_), b4, b5, b6⟩
        · rw [b6] at z
          cases z
        · rw [b6] at z
          cases z
      · obtain ⟨o, es, ep, e, hd, _⟩ := hns
        rw [z, hTp] at e
        cases e
        cases hd
    have e0 : Env0 P w K mg (hidT s₁.heap H) callerA [] s₁ H := ⟨rfl, hM, fun b o e => of_hidT e, Nat.le_of_eq (hidT_size _ _), trivial, fun b hb => absurd (show b ∈ ([] : List Addr) from hb) (by simp), hok, .of_eq hg⟩
    refine codeAny_mono (F _ H hKb (nsK hns) TB e0 hH hS) fun r s' h => ?_
    cases r with
    | error e => exact (show False from h).elim
    | ok fl =>
      cases fl with
      | next => exact False.elim h
      | brk => exact False.elim h
      | cont => exact False.elim h
      | ret u =>
        obtain ⟨v, H', os, bare, un, hok', r', q⟩ := h
        have q' : v = .bl true := q
        subst q'
        obtain rfl : u = Value.bool true := r'
        have key : ∀ b o, b ∉ cs.map (·.2) → s₁.heap.get? b = some o → s'.heap.get? b = some o := fun b o nb e => by
          cases q : H b with
          | none => exact un.keep b o e q (by intro z; exact absurd (show b ∈ ([] : List Addr) from z) (by simp)) (by simp)
          | some u =>
            rcases hO b with z | z | ⟨ob, xs, z⟩
            · rw [q] at z; cases z
            · exact absurd z nb
            · have z2 := un.frzs b ob _ z
              obtain ⟨e1, _⟩ := hok b _ z
              obtain ⟨e2, _⟩ := hok' b _ z2
              rw [e] at e1; cases e1
              exact e2
        have grown : ∀ p ∈ cs, ∃ more : Array Value, s'.heap.get? p.2 = some { cls := .none, data := .fields more } := fun p hp => by
          obtain ⟨more, z⟩ := un.tbls p.2 #[] (hH p hp)
          exact ⟨_, hok' p.2 _ z⟩
        refine ⟨rfl, ⟨fun b o e => ?_, fun b o e => ?_⟩, os, bare⟩
        · by_cases hb : b ∈ cs.map (·.2)
          · obtain ⟨p, hp, ep⟩ := List.mem_map.mp hb
            obtain ⟨more, hm⟩ := grown p hp
            rw [← ep] at e ⊢
            rw [hT p hp] at e
            cases e
            exact .inr (.inl ⟨((C p hp).tab (hT p hp)).isCodeTable, rfl, #[], more, rfl, by rw [Array.empty_append]; exact hm⟩)
          · exact .inl (key b o hb e)
        · by_cases hb : b ∈ cs.map (·.2)
          · obtain ⟨p, hp, ep⟩ := List.mem_map.mp hb
            obtain ⟨more, hm⟩ := grown p hp
            rw [← ep]
            exact ⟨_, hm⟩
          · exact ⟨o, key b o hb e⟩
  cases hk : K.lookup a with
  | some o =>
    have e := KX a o hk
    rw [ha] at e
    cases e
    refine core (fun b => if b ∈ cs.map (·.2) then some (.tbl #[]) else none) (fun p hp => if_pos (memT p hp)) (fun b => ?_) (.inr ⟨_, vs.toArray, _, hk, rfl, rfl, rfl, by rw [List.size_toArray, lenV]; exact hl, by simpa using rv⟩) (fun b u z => ?_) (fun b z => ?_) fun z => absurd (show (if a ∈ cs.map (·.2) then some (HO.tbl #[]) else none) = none from if_neg aT) z
    · by_cases hb : b ∈ cs.map (·.2)
      · exact .inr (.inl hb)
      · exact .inl (if_neg hb)
    · by_cases hb : b ∈ cs.map (·.2)
      · have z' := (if_pos hb).symm.trans z
        cases z'
        exact isT b hb
      · have z' := (if_neg hb).symm.trans z
        cases z'
    · by_cases hb : b ∈ cs.map (·.2)
      · exact .inr hb
      · exact absurd (if_neg hb) z
  | none =>
    refine core (fun b => if b = a then some (.frz { cls := .type "list", data := .seq vs.toArray } (.lst (ns.map V.int))) else if b ∈ cs.map (·.2) then some (.tbl #[]) else none) (fun p hp => (if_neg (show ¬ p.2 = a from fun z => aT (by rw [← z]; exact memT p hp))).trans (if_pos (memT p hp))) (fun b => ?_)
      (.inl (.inr ⟨{ cls := .type "list", data := .seq vs.toArray }, if_pos rfl⟩)) (fun b u z => ?_) (fun b z => ?_) fun _ => hk
    · by_cases hb : b = a
      · exact .inr (.inr ⟨_, _, if_pos hb⟩)
      · by_cases hb2 : b ∈ cs.map (·.2)
        · exact .inr (.inl hb2)
        · exact .inl ((if_neg hb).trans (if_neg hb2))
    · by_cases hb : b = a
      · have z' := (if_pos hb).symm.trans z
        cases z'
        rw [hb]
        exact ⟨ha, by rw [List.length_map]; exact hl, vs, _, rv, ha⟩
      · have z1 := (if_neg hb).symm.trans z
        by_cases hb2 : b ∈ cs.map (·.2)
        · have z' := (if_pos hb2).symm.trans z1
          cases z'
          exact isT b hb2
        · have z' := (if_neg hb2).symm.trans z1
          cases z'
    · by_cases hb : b = a
      · exact .inl hb
      · by_cases hb2 : b ∈ cs.map (·.2)
        · exact .inr hb2
        · exact absurd ((if_neg hb).trans (if_neg hb2)) z

def LawAtG (l : PySem.W.OpenLaw) (w : World) (K : PySem.W.Frag) (n : Nat) (mg : Str → Option Value) (fa : Addr) (h : Heap) : Prop :=
  ∃ cs : List (Addr × Addr), (∀ p ∈ cs, h.get? p.2 = some { cls := .none, data := .fields #[] }) ∧ (∀ p ∈ cs, K.lookup p.2 = none) ∧ (∀ p ∈ cs, PySem.W.CodeHd h p.1 p.2) ∧
    ∀ (s : Shared) (base : Heap) (H : Hp) (a : Addr) (ns : List Int), ns.length ≤ n → K.In base → base.Ns mainGlobals mg → (∀ p ∈ cs, TabB base mg p.1 p.2) → Env0 l.prog w K mg base callerA [] s H → (∀ p ∈ cs, H p.2 = some (.tbl #[])) → SqL K H a (ns.map V.int) →
      codeAny (model l.prog w) callerA (.call (.ref fa) ⟨[.ref a], []⟩) (CR C8.CX0 [] l.prog w H s (fun v _ => v = .bl true) C8.E0) s
theorem walk_ofG {l : PySem.W.OpenLaw} {n : Nat} {q : Program} {loose : List Str} {XP : (Str → Option Value) → Heap → Prop} {YP : World → Heap → Prop} {d : DefRec} {K : Params → PySem.W.Frag}
    (hn : l.most = some n) (hn2 : n ≤ sizeLine) (hdf : d.params.defaults = []) (hrec : ((recsOf q).any fun e => e.name == d.name) = true) (hY : ∀ (w : World) (h : Heap), YP w h → (K w.params).In h)
    (F : ∀ (w : World) (mg : Str → Option Value) (fa : Addr) (h : Heap), YP w h → (K w.params).In h → h.Ns mainGlobals mg → mg d.name = some (.ref fa) → OwnTab (K w.params) fa h → LawAtG l w (K w.params) n mg fa h) :
    PySem.W.WalkO q loose XP YP l.row.toRowW d [] (fun f vs => PySem.call f vs) := by
  refine Att.attach_callB hn hdf fun w s₀ s₁ mg mb fa o pm cd doc a vs ns G Y ho hd hcd hmg hobj hints hlen hbits hg => ?_
  have KX := hY w _ Y
  have own : OwnTab (K w.params) fa s₁.heap := fun c P o1 fd1 e dd vs1 sl k1 k2 k3 k4 k5 => by
    obtain ⟨dL, hm, hn1⟩ := List.any_eq_true.mp hrec
    have hn2 : dL.name = d.name := beq_iff_eq.mp hn1
    obtain ⟨a', o', fd', c', P', h1, h2, h3, h4, h5, h6⟩ := G.T.tab dL hm
    rw [hn2, hmg] at h1
    cases h1
    have g1 := KX _ _ k1
    rw [g1] at h2
    cases h2
    rw [k2] at h3
    cases h3
    rw [k3] at h4
    cases h4
    obtain ⟨⟨oc, vc, e1, _, e3, e4⟩, hP⟩ := h6
    have g2 := KX _ _ k4
    rw [g2] at e1
    cases e1
    cases e3
    rw [k5] at e4
    cases e4
    exact hP
  obtain ⟨cs, hT, nT, C, hF⟩ := F w mg fa _ Y KX G.T.g hmg own
  exact law_callG KX G.T.g G.T.b G.T.builtins G.T.nolimit hg hT nT C G.T.bmain hobj hints (Nat.le_trans hlen hn2) fun base H h1 h2 h3 h4 h5 h6 => hF s₁ base H a ns hlen h1 h2 h3 h4 h5 h6
end LamG
set_option Elab.async false
set_option linter.all false
set_option maxRecDepth 100000
set_option maxHeartbeats 4000000
namespace K78
open PySem L2 Evl DL XcH XcS LamX LamD LamG
/-! ### what the top has written -/
/-- a def of the top -/
structure DefAt (K : PySem.W.Frag) (x : Str) (st : Stmt) : Prop where
  ex : ∃ (f : Addr) (oc : Value) (od : Option Addr) (kV dc pm : Value) (an : Option Addr) (cd ct : Value) (sl : Array (Option Value)), PySem.W.nsIn K mainGlobals x = some (some (.ref f)) ∧
    K.lookup f = some ⟨oc, od, .func (PySem.W.fnOf x x (defArgs st) (defBody st) (defScope st) .none kV dc pm an cd ct), sl⟩ ∧ PySem.W.codeIn K cd x = true ∧ PySem.W.keepIn K (.ref f) = true
theorem DefAt.mk' {K : PySem.W.Frag} {x : Str} {st : Stmt} {f : Addr} {oc : Value} {od : Option Addr} {kV dc pm : Value} {an : Option Addr} {cd ct : Value} {sl : Array (Option Value)} (a : PySem.W.nsIn K mainGlobals x = some (some (.ref f)))
    (l : K.lookup f = some ⟨oc, od, .func (PySem.W.fnOf x x (defArgs st) (defBody st) (defScope st) .none kV dc pm an cd ct), sl⟩) (c : PySem.W.codeIn K cd x = true) (k : PySem.W.keepIn K (.ref f) = true) : DefAt K x st := ⟨f, oc, od, kV, dc, pm, an, cd, ct, sl, a, l, c, k⟩
/-- an own class beside an own class -/
structure HrAt (K : PySem.W.Frag) (C : Addr) (x : Str) (b : Bool) : Prop where
  ex : ∃ c, PySem.W.nsIn K mainGlobals x = some (some (.ref c)) ∧ PySem.W.kitOne K (.ref C) (.ref c) = some b
theorem HrAt.mk' {K : PySem.W.Frag} {C c : Addr} {x : Str} {b : Bool} (a : PySem.W.nsIn K mainGlobals x = some (some (.ref c))) (k : PySem.W.kitOne K (.ref C) (.ref c) = some b) : HrAt K C x b := ⟨c, a, k⟩
structure AllAt (K : PySem.W.Frag) (C : Addr) : Prop where
  ex : ∃ c, PySem.W.nsIn K mainGlobals "AllError" = some (some (.ref c)) ∧ PySem.W.exmOne K (.ref C) (.ref c) = some true
theorem AllAt.mk' {K : PySem.W.Frag} {C c : Addr} (a : PySem.W.nsIn K mainGlobals "AllError" = some (some (.ref c))) (k : PySem.W.exmOne K (.ref C) (.ref c) = some true) : AllAt K C := ⟨c, a, k⟩
abbrev sPart : Stmt := inC 7 0
/-- a class of errors that keep a part -/
structure IniAt (P : Program) (K : PySem.W.Frag) (x : Str) (C : Addr) : Prop where
  ex : ∃ (D fI cc cda : Addr) (oc : Value) (od : Option Addr) (kV dc pm : Value) (an : Option Addr) (ct : Value) (sl : Array (Option Value)), PySem.W.nsIn K mainGlobals x = some (some (.ref C)) ∧
    PySem.W.findIn K (.ref C) "__init__" = some (some (.ref fI)) ∧ PySem.W.typeIn K (.ref fI) = some (.type "function") ∧
    K.lookup fI = some ⟨oc, od, .func (PySem.W.ksFn "__init__" "PartError.__init__" (defArgs sPart) (defBody sPart) (defScope sPart) .none kV dc pm an (.ref cda) ct cc), sl⟩ ∧
    (∃ cl cld csl, K.lookup cc = some ⟨cl, cld, .cell (some (.ref D)), csl⟩) ∧ (∃ ccl cdd vs ccs file tf, K.lookup cda = some ⟨ccl, cdd, .fields vs, ccs⟩ ∧ vs[2]? = some (.str file tf) ∧ ((P.main.file : Str) == file) = true) ∧
    PySem.W.codeIn K (.ref cda) "PartError.__init__" = true ∧ PySem.W.isClsIn K D = true ∧ PySem.W.nsIn K PySem.cStatics "thirdparty.any" = some none ∧
    SupC K D C ∧ PySem.W.findIn K (.ref C) "part" = some none ∧ ExcC K C ∧ XfC K C
abbrev sTwo : Stmt := inC 19 0
/-- the class of errors that keep a line and a word -/
structure TwoAt (P : Program) (K : PySem.W.Frag) (x : Str) (C : Addr) : Prop where
  ex : ∃ (D fI cc cda : Addr) (oc : Value) (od : Option Addr) (kV dc pm : Value) (an : Option Addr) (ct : Value) (sl : Array (Option Value)), PySem.W.nsIn K mainGlobals x = some (some (.ref C)) ∧
    PySem.W.findIn K (.ref C) "__init__" = some (some (.ref fI)) ∧ PySem.W.typeIn K (.ref fI) = some (.type "function") ∧
    K.lookup fI = some ⟨oc, od, .func (PySem.W.ksFn "__init__" "BadText.__init__" (defArgs sTwo) (defBody sTwo) (defScope sTwo) .none kV dc pm an (.ref cda) ct cc), sl⟩ ∧
    (∃ cl cld csl, K.lookup cc = some ⟨cl, cld, .cell (some (.ref D)), csl⟩) ∧ (∃ ccl cdd vs ccs file tf, K.lookup cda = some ⟨ccl, cdd, .fields vs, ccs⟩ ∧ vs[2]? = some (.str file tf) ∧ ((P.main.file : Str) == file) = true) ∧
    PySem.W.codeIn K (.ref cda) "BadText.__init__" = true ∧ PySem.W.isClsIn K D = true ∧ PySem.W.nsIn K PySem.cStatics "thirdparty.any" = some none ∧
    SupC K D C ∧ PySem.W.findIn K (.ref C) "line" = some none ∧ PySem.W.findIn K (.ref C) "word" = some none ∧ ExcC K C ∧ XfC K C
structure LawAt (K : PySem.W.Frag) : Prop where
  ex : ∃ (f c Pt : Addr) (oc : Value) (od : Option Addr) (kV dc pm : Value) (an : Option Addr) (ct : Value) (sl : Array (Option Value)) (e : Value) (dd : Option Addr) (vs : Array Value) (sl2 : Array (Option Value)), PySem.W.nsIn K mainGlobals "law" = some (some (.ref f)) ∧
    K.lookup f = some ⟨oc, od, .func (PySem.W.fnOf "law" "law" (defArgs s_law) (defBody s_law) (defScope s_law) .none kV dc pm an (.ref c) ct), sl⟩ ∧ PySem.W.codeIn K (.ref c) "law" = true ∧
    K.lookup c = some ⟨e, dd, .fields vs, sl2⟩ ∧ vs[11]? = some (.ref Pt) ∧ PySem.W.codeHdIn K c Pt = true ∧ K.lookup Pt = none
structure MethAt (K : PySem.W.Frag) (C : Addr) (m qual : Str) (st : Stmt) : Prop where
  ex : ∃ (f : Addr) (oc : Value) (od : Option Addr) (kV dc pm : Value) (an : Option Addr) (cd ct : Value) (sl : Array (Option Value)), PySem.W.findIn K (.ref C) m = some (some (.ref f)) ∧
    K.lookup f = some ⟨oc, od, .func (PySem.W.fnOf m qual (defArgs st) (defBody st) (defScope st) .none kV dc pm an cd ct), sl⟩ ∧ PySem.W.codeIn K cd qual = true ∧ PySem.W.keepIn K (.ref f) = true ∧ PySem.W.isFn K (.ref f) = true
theorem MethAt.mk' {K : PySem.W.Frag} {C : Addr} {m qual : Str} {st : Stmt} {f : Addr} {oc : Value} {od : Option Addr} {kV dc pm : Value} {an : Option Addr} {cd ct : Value} {sl : Array (Option Value)} (a : PySem.W.findIn K (.ref C) m = some (some (.ref f)))
    (l : K.lookup f = some ⟨oc, od, .func (PySem.W.fnOf m qual (defArgs st) (defBody st) (defScope st) .none kV dc pm an cd ct), sl⟩) (c : PySem.W.codeIn K cd qual = true) (k : PySem.W.keepIn K (.ref f) = true) (n : PySem.W.isFn K (.ref f) = true) : MethAt K C m qual st := ⟨f, oc, od, kV, dc, pm, an, cd, ct, sl, a, l, c, k, n⟩
/-- a maker with one default, a number -/
structure DflAt (K : PySem.W.Frag) (C : Addr) (qual : Str) (st : Stmt) (i : Int) : Prop where
  ex : ∃ (f : Addr) (oc : Value) (od : Option Addr) (T : Addr) (kV dc pm : Value) (an : Option Addr) (cd ct : Value) (sl : Array (Option Value)) (tc : Value) (td : Option Addr) (t : Tok) (n : Nat) (ts : Array (Option Value)), PySem.W.findIn K (.ref C) "__init__" = some (some (.ref f)) ∧
    K.lookup f = some ⟨oc, od, .func (PySem.W.fnOf "__init__" qual (defArgs st) (defBody st) (defScope st) (.ref T) kV dc pm an cd ct), sl⟩ ∧ PySem.W.codeIn K cd qual = true ∧ PySem.W.keepIn K (.ref f) = true ∧ PySem.W.isFn K (.ref f) = true ∧ K.lookup T = some ⟨tc, td, .seq #[.int i t] n, ts⟩
theorem DflAt.mk' {K : PySem.W.Frag} {C : Addr} {qual : Str} {st : Stmt} {i : Int} {f : Addr} {oc : Value} {od : Option Addr} {T : Addr} {kV dc pm : Value} {an : Option Addr} {cd ct : Value} {sl : Array (Option Value)} {tc : Value} {td : Option Addr} {t : Tok} {n : Nat} {ts : Array (Option Value)} (a : PySem.W.findIn K (.ref C) "__init__" = some (some (.ref f)))
    (l : K.lookup f = some ⟨oc, od, .func (PySem.W.fnOf "__init__" qual (defArgs st) (defBody st) (defScope st) (.ref T) kV dc pm an cd ct), sl⟩) (c : PySem.W.codeIn K cd qual = true) (k : PySem.W.keepIn K (.ref f) = true) (g : PySem.W.isFn K (.ref f) = true) (lt : K.lookup T = some ⟨tc, td, .seq #[.int i t] n, ts⟩) : DflAt K C qual st i :=
  ⟨f, oc, od, T, kV, dc, pm, an, cd, ct, sl, tc, td, t, n, ts, a, l, c, k, g, lt⟩
structure ClsAt (K : PySem.W.Frag) (x : Str) (C : Addr) : Prop where
  ns : PySem.W.nsIn K mainGlobals x = some (some (.ref C))
  mks : PySem.W.makesIn K C = true
  kp : PySem.W.keepIn K (.ref C) = true
  cl : Cls K C
theorem ClsAt.mk' {K : PySem.W.Frag} {x : Str} {C : Addr} (aF : PySem.W.nsIn K mainGlobals x = some (some (.ref C))) (mks : PySem.W.makesIn K C = true) (kp : PySem.W.keepIn K (.ref C) = true) (c1 : PySem.W.plainGet K C Str.empty = true) (c2 : PySem.W.hasDictIn K C = true) (c3 : PySem.W.plainOver K C = true) (c4 : PySem.W.findIn K (.ref C) "__setattr__" = some (some (.builtin "object.__setattr__"))) : ClsAt K x C := ⟨aF, mks, kp, ⟨c1, c2, c3, c4⟩⟩
structure Facts (P : Program) (K : PySem.W.Frag) (CFi CF CT CLi CLs : Addr) : Prop where
  d2 : DefAt K "is_integer" (top 2)
  d3 : DefAt K "is_within" (top 3)
  d4 : DefAt K "is_row" (top 4)
  d27 : DefAt K "are_numbers" (top 27)
  d28 : DefAt K "is_heavy" (top 28)
  d29 : DefAt K "corners_in" (top 29)
  d33 : DefAt K "whole_of" (top 33)
  d36 : DefAt K "lines_of" (top 36)
  d39 : DefAt K "numbers_from" (top 39)
  d40 : DefAt K "field_from" (top 40)
  d41 : DefAt K "read_field" (top 41)
  d45 : DefAt K "_law_pick" (top 45)
  d47 : DefAt K "_law_tx_joined" (top 47)
  d48 : DefAt K "_law_no_word" (top 48)
  d49 : DefAt K "_law_fb_whole" (top 49)
  d50 : DefAt K "_law_fb_bad" (top 50)
  d23 : DefAt K "fixed" (top 23)
  d44 : DefAt K "_law_draw" (top 44)
  d43 : DefAt K "_law_pen" (top 43)
  d46 : DefAt K "_law_heard" (top 46)
  lw : LawAt K
  kField : ClsAt K "Field" CFi
  kLine : ClsAt K "Line" CLi
  kLines : ClsAt K "Lines" CLs
  m_Field___init__ : MethAt K CFi "__init__" "Field.__init__" s_Field___init__
  m_Line___init__ : MethAt K CLi "__init__" "Line.__init__" s_Line___init__
  m_Line_stop : MethAt K CLi "stop" "Line.stop" s_Line_stop
  m_Line_ahead : MethAt K CLi "ahead" "Line.ahead" s_Line_ahead
  m_Line_take : MethAt K CLi "take" "Line.take" s_Line_take
  m_Line_take_one : MethAt K CLi "take_one" "Line.take_one" s_Line_take_one
  m_Line_take_whole : MethAt K CLi "take_whole" "Line.take_whole" s_Line_take_whole
  m_Line_back : MethAt K CLi "back" "Line.back" s_Line_back
  m_Line_end : MethAt K CLi "end" "Line.end" s_Line_end
  m_Lines___init__ : DflAt K CLs "Lines.__init__" s_Lines___init__ 0
  m_Lines_head : MethAt K CLs "head" "Lines.head" s_Lines_head
  m_Lines_next : MethAt K CLs "next" "Lines.next" s_Lines_next
  m_Lines_end : MethAt K CLs "end" "Lines.end" s_Lines_end
  iF : IniAt P K "BadField" CF
  iT : TwoAt P K "BadText" CT
  b0 : PySem.W.nsIn K mainGlobals "isinstance" = some none
  b1 : PySem.W.nsIn K mainGlobals "list" = some none
  b2 : PySem.W.nsIn K mainGlobals "tuple" = some none
  b3 : PySem.W.nsIn K mainGlobals "str" = some none
  b4 : PySem.W.nsIn K mainGlobals "len" = some none
  b5 : PySem.W.nsIn K mainGlobals "all" = some none
  b6 : PySem.W.nsIn K mainGlobals "any" = some none
  b7 : PySem.W.nsIn K mainGlobals "sum" = some none
  b8 : PySem.W.nsIn K mainGlobals "repr" = some none
  b9 : PySem.W.nsIn K mainGlobals "abs" = some none
  b10 : PySem.W.nsIn K mainGlobals "int" = some none
  b11 : PySem.W.nsIn K mainGlobals "bool" = some none
  b12 : PySem.W.nsIn K mainGlobals "range" = some none
  b13 : PySem.W.nsIn K mainGlobals "zip" = some none
  b14 : PySem.W.nsIn K mainGlobals "enumerate" = some none
  b15 : PySem.W.nsIn K mainGlobals "sorted" = some none
  b16 : PySem.W.nsIn K mainGlobals "set" = some none
  b17 : PySem.W.nsIn K mainGlobals "super" = some none
  c0 : ∃ t, PySem.W.nsIn K mainGlobals "MOST_CORNERS" = some (some (.int 6 t))
  c1 : ∃ t, PySem.W.nsIn K mainGlobals "MOST_NUMBER" = some (some (.int 1000000 t))
  c2 : ∃ t, PySem.W.nsIn K mainGlobals "FIGURES" = some (some (.str "0123456789" t))
  c3 : ∃ t, PySem.W.nsIn K mainGlobals "CORNER" = some (some (.str "corner" t))
  aF : AllAt K CF
  aT : AllAt K CT
  hF0 : HrAt K CF "BadStatement" false
  hT0 : HrAt K CT "BadStatement" false
  hF1 : HrAt K CF "BadSheet" false
  hT1 : HrAt K CT "BadSheet" false
  hF2 : HrAt K CF "BadWay" false
  hT2 : HrAt K CT "BadWay" false
  hF3 : HrAt K CF "BadCode" false
  hT3 : HrAt K CT "BadCode" false
  hF4 : HrAt K CF "BadValue" false
  hT4 : HrAt K CT "BadValue" false
  hF5 : HrAt K CF "BadNumber" false
  hT5 : HrAt K CT "BadNumber" false
  hF6 : HrAt K CF "BadPaper" false
  hT6 : HrAt K CT "BadPaper" false
  hF7 : HrAt K CF "BadField" true
  hT7 : HrAt K CT "BadField" false
  hF8 : HrAt K CF "BadPage" false
  hT8 : HrAt K CT "BadPage" false
  hF9 : HrAt K CF "Misfit" false
  hT9 : HrAt K CT "Misfit" false
  hF10 : HrAt K CF "TooMany" false
  hT10 : HrAt K CT "TooMany" false
  hF11 : HrAt K CF "BadName" false
  hT11 : HrAt K CT "BadName" false
  hF12 : HrAt K CF "BadText" false
  hT12 : HrAt K CT "BadText" true
  nField_corners : PySem.W.findIn K (.ref CFi) "corners" = some none
  nField_width : PySem.W.findIn K (.ref CFi) "width" = some none
  nLine_number : PySem.W.findIn K (.ref CLi) "number" = some none
  nLine_words : PySem.W.findIn K (.ref CLi) "words" = some none
  nLine_at : PySem.W.findIn K (.ref CLi) "at" = some none
  nLines_lines : PySem.W.findIn K (.ref CLs) "lines" = some none
  nLines_at : PySem.W.findIn K (.ref CLs) "at" = some none
  notop : (P.main.scope.names.lookup ("super" : Str)).isSome = false
section
variable {P : Program} {w : World} {K : PySem.W.Frag} {h : Heap} {mg : Str → Option Value} {base : Heap} {C : Addr}
theorem DefAt.fn {x : Str} {st : Stmt} (D : DefAt K x st) (X : K.In h) (G : h.Ns mainGlobals mg) : ∃ (f : Addr) (fd : FuncData), Fun K x x st f fd ∧ mg x = some (.ref f) ∧ PySem.W.keepIn K (.ref f) = true := by
  obtain ⟨f, oc, od, kV, dc, pm, an, cd, ct, sl, a, l, c, k⟩ := D.ex
  exact ⟨f, _, fun_mk (st := st) l c k, PySem.W.mg_of X G a, k⟩
theorem HrAt.at {x : Str} {b : Bool} (D : HrAt K C x b) (X : K.In h) (G : h.Ns mainGlobals mg) : ∃ c, mg x = some (.ref c) ∧ PySem.W.kitOne K (.ref C) (.ref c) = some b := by
  obtain ⟨c, a, k⟩ := D.ex
  exact ⟨c, PySem.W.mg_of X G a, k⟩
end

theorem DefAt.df {K : PySem.W.Frag} {h : Heap} {mg : Str → Option Value} {x : Str} {st : Stmt} {ps : List Str} (D : DefAt K x st) (X : K.In h) (G : h.Ns mainGlobals mg)
    (hb : ∀ (kV doc pm : Value) (an : Option Addr) (cdv ct : Value) (us : List Value), us.length = ps.length → bindArgs (PySem.W.fnOf x x (defArgs st) (defBody st) (defScope st) .none kV doc pm an cdv ct) ⟨us, []⟩ = pure (ps.zip us)) : Df K mg x st ps := by
  obtain ⟨f, fd, F, m, k⟩ := D.fn X G
  exact ⟨f, fd, F, m, k, F.binds hb⟩
theorem MethAt.dfm {K : PySem.W.Frag} {C : Addr} {m qual : Str} {st : Stmt} {ps : List Str} (D : MethAt K C m qual st)
    (hb : ∀ (kV doc pm : Value) (an : Option Addr) (cdv ct : Value) (us : List Value), us.length = ps.length → bindArgs (PySem.W.fnOf m qual (defArgs st) (defBody st) (defScope st) .none kV doc pm an cdv ct) ⟨us, []⟩ = pure (ps.zip us)) : DfM K C m qual st ps := by
  obtain ⟨f, oc, od, kV, dc, pm, an, cd, ct, sl, a, l, c, k, n⟩ := D.ex
  exact ⟨f, _, fun_mk l c k, ⟨a, n, k⟩, Binds.all (hb kV dc pm an cd ct)⟩
theorem MethAt.dfi {K : PySem.W.Frag} {h : Heap} {mg : Str → Option Value} {x : Str} {C : Addr} {qual : Str} {st : Stmt} {ps : List Str} (D : MethAt K C "__init__" qual st) (c : ClsAt K x C) (X : K.In h) (G : h.Ns mainGlobals mg)
    (hb : ∀ (kV doc pm : Value) (an : Option Addr) (cdv ct : Value) (us : List Value), us.length = ps.length → bindArgs (PySem.W.fnOf "__init__" qual (defArgs st) (defBody st) (defScope st) .none kV doc pm an cdv ct) ⟨us, []⟩ = pure (ps.zip us)) : DfI K mg x C qual st ps := by
  obtain ⟨f, oc, od, kV, dc, pm, an, cd, ct, sl, a, l, cc, k, n⟩ := D.ex
  exact ⟨f, _, fun_mk l cc k, ⟨c.mks, a, n, c.kp⟩, Binds.all (hb kV dc pm an cd ct), PySem.W.mg_of X G c.ns⟩
theorem DflAt.dfd {K : PySem.W.Frag} {h : Heap} {mg : Str → Option Value} {x : Str} {C : Addr} {qual : Str} {st : Stmt} {ps : List Str} {i : Int} (D : DflAt K C qual st i) (c : ClsAt K x C) (X : K.In h) (G : h.Ns mainGlobals mg) (n : Nat) (hn : n + 1 = ps.length)
    (hb : ∀ (T : Addr) (kV doc pm : Value) (an : Option Addr) (cdv ct : Value) (us its : List Value), us.length = n → its.length = 1 → ∃ k, bindArgs (PySem.W.fnOf "__init__" qual (defArgs st) (defBody st) (defScope st) (.ref T) kV doc pm an cdv ct) ⟨us, []⟩ = seqItems? (.ref T) >>= k ∧ k (some its.toArray) = pure (ps.zip (us ++ its.drop 0))) : DfD K mg x C qual st ps [.int i] := by
  obtain ⟨f, oc, od, T, kV, dc, pm, an, cd, ct, sl, tc, td, t, m, ts, a, l, cc, k, g, lt⟩ := D.ex
  have F : FunD K "__init__" qual (defArgs st) (defBody st) (defScope st) [.int i] [] f (PySem.W.fnOf "__init__" qual (defArgs st) (defBody st) (defScope st) (.ref T) kV dc pm an cd ct) := ⟨⟨oc, od, .ref T, kV, dc, pm, an, cd, ct, sl, rfl, l, cc, .inr ⟨by simp, T, _, [.int i t], m, rfl, lt, rfl, .cons ⟨t, rfl⟩ .nil⟩, .inl rfl⟩, k⟩
  obtain ⟨ds, v, b⟩ := F.binds1 (ps := ps) n 0 (by simp) (by simpa using hn) hb
  exact ⟨f, _, ds, F, ⟨c.mks, a, g, c.kp⟩, b, v, PySem.W.mg_of X G c.ns⟩
end K78
set_option Elab.async false
set_option linter.all false
set_option maxRecDepth 100000
set_option maxHeartbeats 4000000
namespace K78
open PySem L2 Evl DL XcH XcS LamX LamD LamG NdefX
def nPart : List Str := ["self", "part", "__class__"]
theorem scPart : NScope nPart ["self", "part"] ["__class__"] (defScope sPart) := nscope_by (by decide +kernel)
section
variable {P : Program} {w : World} {K : PySem.W.Frag} {mg : Str → Option Value} {base : Heap}
theorem ok_part {f cc cda D : Addr} {dV kV doc pm ct oc : Value} {an od : Option Addr} {osl : Array (Option Value)} (lk : K.lookup f = some ⟨oc, od, .func (PySem.W.ksFn "__init__" "PartError.__init__" (defArgs sPart) (defBody sPart) (defScope sPart) dV kV doc pm an (.ref cda) ct cc), osl⟩)
    (SK : SupK P K mg "PartError.__init__" cc cda D) : FnOk P w K mg base CX0 1 f (PySem.W.ksFn "__init__" "PartError.__init__" (defArgs sPart) (defBody sPart) (defScope sPart) dV kV doc pm an (.ref cda) ct cc) ["self", "part"] (spPart K D) := by
  refine fn_super (N := nPart) (ps := ["self", "part"]) (sp := spPart K D) (CX := CX0) (k := 0) lk SK scPart (fun vs H Q E h => ?_) rfl rfl (by decide) (by decide +kernel) (fun A outer s H vs Q E hr h => ?_)
  · obtain ⟨a, C, y, rfl, _⟩ := h
    rfl
  · obtain ⟨a, C, y, rfl, ha, hS, hno, k⟩ := h
    refine ⟨a, C, [y], _, _, rfl, ha, hS, pa_cons (pv 1) pa_nil, pss_one (ps_ost (pv 0) (pv 1)), ?_⟩
    refine ⟨y, rfl, (by show 1 ≤ 1000; decide), ha, ?_⟩
    exact ⟨y, rfl, .ref a, rfl, a, C, rfl, hS.ox, hno, .inl ⟨ha, fun dx hn hne => k dx hn hne⟩⟩
end
theorem er_at {P : Program} {w : World} {K : PySem.W.Frag} {h : Heap} {mg : Str → Option Value} {base : Heap} {x : Str} {C : Addr} (I : IniAt P K x C) (X : K.In h) (G : h.Ns mainGlobals mg) (bs : PySem.W.nsIn K mainGlobals "super" = some none) (nt : (P.main.scope.names.lookup ("super" : Str)).isSome = false) :
    Er P w K mg base x C ∧ ExcC K C ∧ XfC K C ∧ PySem.W.findIn K (.ref C) "part" = some none := by
  obtain ⟨D, fI, cc, cda, ocI, odI, kVI, dcI, pmI, anI, ctI, slI, aC, iC, tI, lI, cellI, codeI, cdI, clsD, noth, SC, noP, ec, xf⟩ := I.ex
  have SK : SupK P K mg "PartError.__init__" cc cda D := ⟨cellI, codeI, cdI, Option.isSome_iff_exists.mp clsD, PySem.W.mg_none_of X G bs, nt, noth⟩
  have bI : Binds K (PySem.W.ksFn "__init__" "PartError.__init__" (defArgs sPart) (defBody sPart) (defScope sPart) .none kVI dcI pmI anI (.ref cda) ctI cc) ["self", "part"] [] := Binds.all fun us hl => match us, hl with | [_, _], _ => rfl
  exact ⟨⟨D, fI, _, ⟨SC, noP, iC, tI, PySem.W.mg_of X G aC⟩, ok_part lI SK, bI⟩, ec, xf, noP⟩
def nTwo : List Str := ["self", "line", "word", "__class__"]
theorem scTwo : NScope nTwo ["self", "line", "word"] ["__class__"] (defScope sTwo) := nscope_by (by decide +kernel)
section
variable {P : Program} {w : World} {K : PySem.W.Frag} {mg : Str → Option Value} {base : Heap}
theorem ok_two {f cc cda D : Addr} {dV kV doc pm ct oc : Value} {an od : Option Addr} {osl : Array (Option Value)} (lk : K.lookup f = some ⟨oc, od, .func (PySem.W.ksFn "__init__" "BadText.__init__" (defArgs sTwo) (defBody sTwo) (defScope sTwo) dV kV doc pm an (.ref cda) ct cc), osl⟩)
    (SK : SupK P K mg "BadText.__init__" cc cda D) : FnOk P w K mg base CX0 1 f (PySem.W.ksFn "__init__" "BadText.__init__" (defArgs sTwo) (defBody sTwo) (defScope sTwo) dV kV doc pm an (.ref cda) ct cc) ["self", "line", "word"] (spTwo K D "line" "word") := by
  refine fn_super (N := nTwo) (ps := ["self", "line", "word"]) (sp := spTwo K D "line" "word") (CX := CX0) (k := 0) lk SK scTwo (fun vs H Q E h => ?_) rfl rfl (by decide) (by decide +kernel) (fun A outer s H vs Q E hr h => ?_)
  · obtain ⟨a, C, y, z, rfl, _⟩ := h
    rfl
  · obtain ⟨a, C, y, z, rfl, ha, hS, hno1, hno2, k⟩ := h
    refine ⟨a, C, [y, z], _, _, rfl, ha, hS, pa_cons (pv 1) (pa_cons (pv 2) pa_nil), pss_cons (ps_ost (pv 0) (pv 1)) (pss_one (ps_ost (pv 0) (pv 2))), ?_⟩
    refine ⟨y, rfl, z, rfl, (by show 2 ≤ 1000; decide), ha, ?_⟩
    refine ⟨y, rfl, .ref a, rfl, a, C, rfl, hS.ox, hno1, .inl ⟨ha, fun dx hn hne => ?_⟩⟩
    refine ⟨z, rfl, .ref a, rfl, a, C, rfl, hS.ox, hno2, .inr ⟨dx, [("line", y)], upd_same, ?_, by show 1 ≤ 900; decide, k dx hn hne⟩⟩
    rw [upd_ne hne, upd_same]
end
theorem er2_at {P : Program} {w : World} {K : PySem.W.Frag} {h : Heap} {mg : Str → Option Value} {base : Heap} {x : Str} {C : Addr} (I : TwoAt P K x C) (X : K.In h) (G : h.Ns mainGlobals mg) (bs : PySem.W.nsIn K mainGlobals "super" = some none) (nt : (P.main.scope.names.lookup ("super" : Str)).isSome = false) :
    Er2 P w K mg base x C "line" "word" ∧ ExcC K C ∧ XfC K C ∧ PySem.W.findIn K (.ref C) "line" = some none ∧ PySem.W.findIn K (.ref C) "word" = some none := by
  obtain ⟨D, fI, cc, cda, ocI, odI, kVI, dcI, pmI, anI, ctI, slI, aC, iC, tI, lI, cellI, codeI, cdI, clsD, noth, SC, noL, noW, ec, xf⟩ := I.ex
  have SK : SupK P K mg "BadText.__init__" cc cda D := ⟨cellI, codeI, cdI, Option.isSome_iff_exists.mp clsD, PySem.W.mg_none_of X G bs, nt, noth⟩
  have bI : Binds K (PySem.W.ksFn "__init__" "BadText.__init__" (defArgs sTwo) (defBody sTwo) (defScope sTwo) .none kVI dcI pmI anI (.ref cda) ctI cc) ["self", "line", "word"] [] := Binds.all fun us hl => match us, hl with | [_, _, _], _ => rfl
  exact ⟨⟨D, fI, _, ⟨SC, noL, noW, iC, tI, PySem.W.mg_of X G aC⟩, ok_two lI SK, bI⟩, ec, xf, noL, noW⟩
def kindX (CF CT : Addr) : Addr → Option Str := fun a => if a = CF then some ("field" : Str) else if a = CT then some ("text" : Str) else none
def partX (CF : Addr) : Addr → Option Str := fun a => if a = CF then some ("field" : Str) else none
section
variable {l : PySem.W.OpenLaw} {w : World} {K : PySem.W.Frag} {h : Heap} {mg : Str → Option Value} {fa CFi CF CT CLi CLs : Addr}
theorem bl_at {P : Program} (A : Facts P K CFi CF CT CLi CLs) (X : K.In h) (G : h.Ns mainGlobals mg) : Bl mg ∧ K2.Bl mg := by
  have n0 := fun {x : Str} (e : PySem.W.nsIn K mainGlobals x = some none) => PySem.W.mg_none_of X G e
  exact ⟨⟨n0 A.b0, n0 A.b1, n0 A.b2, n0 A.b3, n0 A.b4, n0 A.b5, n0 A.b6, n0 A.b7, n0 A.b8, n0 A.b9, n0 A.b10, n0 A.b11, n0 A.b12, n0 A.b13, n0 A.b14⟩, ⟨n0 A.b0, n0 A.b1, n0 A.b2, n0 A.b3, n0 A.b4, n0 A.b5, n0 A.b15, n0 A.b16, n0 A.b8, n0 A.b9, n0 A.b10, n0 A.b12⟩⟩
theorem hr_at {P : Program} (A : Facts P K CFi CF CT CLi CLs) (X : K.In h) (G : h.Ns mainGlobals mg) (ne : CF ≠ CT) (eF : ExcC K CF ∧ XfC K CF ∧ PySem.W.findIn K (.ref CF) "part" = some none) (eT : ExcC K CT ∧ XfC K CT ∧ PySem.W.findIn K (.ref CT) "line" = some none ∧ PySem.W.findIn K (.ref CT) "word" = some none) : HrG K mg (kindX CF CT) (partX CF) (fun C => C = CT) := by
  have two : ∀ {Pr : Addr → Str → Prop}, Pr CF "field" → Pr CT "text" → ∀ C W, kindX CF CT C = some W → Pr C W := fun {Pr} h1 h2 C W e => by
    unfold kindX at e
    split at e
    · rename_i z
      cases e
      rw [z]
      exact h1
    · split at e
      · rename_i z
        cases e
        rw [z]
        exact h2
      · cases e
  have both : ∀ {x : Str} {b b2 : Bool}, HrAt K CF x b → HrAt K CT x b2 → ∃ c, mg x = some (.ref c) ∧ PySem.W.kitOne K (.ref CF) (.ref c) = some b ∧ PySem.W.kitOne K (.ref CT) (.ref c) = some b2 := fun {x b b2} h1 h2 => by
    obtain ⟨c, e1, k1⟩ := h1.at X G
    obtain ⟨c2, e2, k2⟩ := h2.at X G
    rw [e1] at e2
    cases e2
    exact ⟨c, e1, k1, k2⟩
  obtain ⟨CA, aA, a1⟩ := A.aF.ex
  obtain ⟨CA2, aA2, a2⟩ := A.aT.ex
  have eA := (PySem.W.mg_of X G aA).symm.trans (PySem.W.mg_of X G aA2)
  cases eA
  obtain ⟨c0, m0, f0, v0⟩ := both A.hF0 A.hT0
  obtain ⟨c1, m1, f1, v1⟩ := both A.hF1 A.hT1
  obtain ⟨c2, m2, f2, v2⟩ := both A.hF2 A.hT2
  obtain ⟨c3, m3, f3, v3⟩ := both A.hF3 A.hT3
  obtain ⟨c4, m4, f4, v4⟩ := both A.hF4 A.hT4
  obtain ⟨c5, m5, f5, v5⟩ := both A.hF5 A.hT5
  obtain ⟨c6, m6, f6, v6⟩ := both A.hF6 A.hT6
  obtain ⟨c7, m7, f7, v7⟩ := both A.hF7 A.hT7
  obtain ⟨c8, m8, f8, v8⟩ := both A.hF8 A.hT8
  obtain ⟨c9, m9, f9, v9⟩ := both A.hF9 A.hT9
  obtain ⟨c10, m10, f10, v10⟩ := both A.hF10 A.hT10
  obtain ⟨c11, m11, f11, v11⟩ := both A.hF11 A.hT11
  obtain ⟨c12, m12, f12, v12⟩ := both A.hF12 A.hT12
  refine ⟨⟨CA, PySem.W.mg_of X G aA, two a1 a2⟩, ⟨c0, m0, two f0 v0⟩, ⟨c1, m1, two f1 v1⟩, ⟨c2, m2, two f2 v2⟩, ⟨c3, m3, two f3 v3⟩, ⟨c4, m4, two f4 v4⟩, ⟨c5, m5, two f5 v5⟩, ⟨c6, m6, two f6 v6⟩, ⟨c7, m7, two f7 v7⟩, ⟨c8, m8, two f8 v8⟩, ⟨c9, m9, two f9 v9⟩, ⟨c10, m10, two f10 v10⟩, ⟨c11, m11, two f11 v11⟩, ⟨c12, m12, two f12 v12⟩, two ⟨eF.1, eF.2.1⟩ ⟨eT.1, eT.2.1⟩, fun C W e => ?_, fun C e => ?_⟩
  · unfold partX at e
    split at e
    · rename_i z
      cases e
      subst z
      exact ⟨if_pos rfl, eF.2.2, by decide⟩
    · cases e
  · subst e
    exact ⟨by unfold kindX; rw [if_neg (Ne.symm ne), if_pos rfl], eT.2.2.1, eT.2.2.2⟩
theorem law_at (A : Facts l.prog K CFi CF CT CLi CLs) (ne : CF ≠ CT) (X : K.In h) (G : h.Ns mainGlobals mg) (hfa : mg "law" = some (.ref fa)) (own : OwnTab K fa h) : LawAtG l w K 63 mg fa h := by
  obtain ⟨f, c, Pt, oc, od, kV, dc, pm, an, ct, sl, e, dd, vs, sl2, a, lk, hcd, lc, hv, hh, hP⟩ := A.lw.ex
  have q := hfa.symm.trans (PySem.W.mg_of X G a)
  cases q
  refine ⟨[(c, Pt)], (fun p hp => by rw [List.mem_singleton.mp hp]; exact own c Pt _ _ e dd vs sl2 lk rfl rfl lc hv), (fun p hp => by rw [List.mem_singleton.mp hp]; exact hP), (fun p hp => by rw [List.mem_singleton.mp hp]; exact PySem.W.codeHd_of_K X hh), fun s base H a ns hn KX Gb TB e0 hH hS => ?_⟩
  obtain ⟨B, B2⟩ := bl_at A X G
  obtain ⟨eF, xF⟩ := er_at (w := w) (base := base) A.iF X G A.b17 A.notop
  obtain ⟨eT, xT⟩ := er2_at (w := w) (base := base) A.iT X G A.b17 A.notop
  have HG := hr_at A X G ne xF xT
  obtain ⟨fh, fdh, Fh, mh, kh, bh⟩ := (A.d46.df X G (ps := ["ask"]) fun _ _ _ _ _ _ us hl => match us, hl with | [_], _ => rfl).ex
  obtain ⟨och, odh, kVh, doch, pmh, anh, cdvh, cth, oslh, rfl, lkh, hcdh⟩ := Fh.ex
  have HR : HearX (LX l.prog w K mg base fa (.ref c) s H) [(Pt, (LX l.prog w K mg base fa (.ref c) s H).env.qual ++ "<lambda>")] (partX CF) (fun C => C = CT) (fun _ => False) :=
    ⟨⟨fh, _, _, _, _, _, _, _, _, _, _, _, _, _, nHr, mh, kh, lkh, hcdh, bh, scHr, rfl, .inl rfl, heard_gives (room_lx.mono (by decide)) B HG⟩, ⟨c, Pt, TB (c, Pt) (List.mem_singleton.mpr rfl), rfl, List.mem_singleton.mpr rfl, fun p hp _ => by rw [List.mem_singleton.mp hp]⟩, rfl, room_lx.mono (by decide)⟩
  have D := mk_law (fa := fa) (cdv := .ref c) (s := s) (H := H) (base := base) B B2 HR
    (A.d2.df X G fun _ _ _ _ _ _ us hl => match us, hl with | [_], _ => rfl)
    (A.d3.df X G fun _ _ _ _ _ _ us hl => match us, hl with | [_, _, _], _ => rfl)
    (A.d4.df X G fun _ _ _ _ _ _ us hl => match us, hl with | [_], _ => rfl)
    (A.d27.df X G fun _ _ _ _ _ _ us hl => match us, hl with | [_, _, _], _ => rfl)
    (A.d28.df X G fun _ _ _ _ _ _ us hl => match us, hl with | [_], _ => rfl)
    (A.d29.df X G fun _ _ _ _ _ _ us hl => match us, hl with | [_], _ => rfl)
    (A.m_Field___init__.dfi A.kField X G fun _ _ _ _ _ _ us hl => match us, hl with | [_, _], _ => rfl)
    (A.d33.df X G fun _ _ _ _ _ _ us hl => match us, hl with | [_, _], _ => rfl)
    (A.m_Line___init__.dfi A.kLine X G fun _ _ _ _ _ _ us hl => match us, hl with | [_, _, _], _ => rfl)
    (A.m_Line_stop.dfm fun _ _ _ _ _ _ us hl => match us, hl with | [_], _ => rfl)
    (A.m_Line_ahead.dfm fun _ _ _ _ _ _ us hl => match us, hl with | [_], _ => rfl)
    (A.m_Line_take.dfm fun _ _ _ _ _ _ us hl => match us, hl with | [_], _ => rfl)
    (A.m_Line_take_one.dfm fun _ _ _ _ _ _ us hl => match us, hl with | [_, _], _ => rfl)
    (A.m_Line_take_whole.dfm fun _ _ _ _ _ _ us hl => match us, hl with | [_, _], _ => rfl)
    (A.m_Line_back.dfm fun _ _ _ _ _ _ us hl => match us, hl with | [_], _ => rfl)
    (A.m_Line_end.dfm fun _ _ _ _ _ _ us hl => match us, hl with | [_], _ => rfl)
    (A.m_Lines___init__.dfd A.kLines X G 2 rfl fun T kV doc pm an cdv ct us its hl hi => match us, its, hl, hi with | [_, _], [_], _, _ => ⟨_, rfl, rfl⟩)
    (A.m_Lines_head.dfm fun _ _ _ _ _ _ us hl => match us, hl with | [_], _ => rfl)
    (A.m_Lines_next.dfm fun _ _ _ _ _ _ us hl => match us, hl with | [_, _], _ => rfl)
    (A.m_Lines_end.dfm fun _ _ _ _ _ _ us hl => match us, hl with | [_], _ => rfl)
    (A.d36.df X G fun _ _ _ _ _ _ us hl => match us, hl with | [_], _ => rfl)
    (A.d39.df X G fun _ _ _ _ _ _ us hl => match us, hl with | [_, _, _], _ => rfl)
    (A.d40.df X G fun _ _ _ _ _ _ us hl => match us, hl with | [_], _ => rfl)
    (A.d41.df X G fun _ _ _ _ _ _ us hl => match us, hl with | [_], _ => rfl)
    (A.d45.df X G fun _ _ _ _ _ _ us hl => match us, hl with | [_, _], _ => rfl)
    (A.d47.df X G fun _ _ _ _ _ _ us hl => match us, hl with | [_], _ => rfl)
    (A.d48.df X G fun _ _ _ _ _ _ us hl => match us, hl with | [_], _ => rfl)
    (A.d49.df X G fun _ _ _ _ _ _ us hl => match us, hl with | [_], _ => rfl)
    (A.d50.df X G fun _ _ _ _ _ _ us hl => match us, hl with | [_], _ => rfl)
    (A.d23.df X G fun _ _ _ _ _ _ us hl => match us, hl with | [_], _ => rfl)
    (A.d44.df X G fun _ _ _ _ _ _ us hl => match us, hl with | [_, _], _ => rfl)
    (let ⟨t, e⟩ := A.c0; ⟨t, PySem.W.mg_of X G e⟩)
    (let ⟨t, e⟩ := A.c1; ⟨t, PySem.W.mg_of X G e⟩)
    (let ⟨t, e⟩ := A.c2; ⟨t, PySem.W.mg_of X G e⟩)
    (let ⟨t, e⟩ := A.c3; ⟨t, PySem.W.mg_of X G e⟩)
    eF eT A.kField.cl A.kLine.cl A.kLines.cl A.nField_corners A.nField_width A.nLine_number A.nLine_words A.nLine_at A.nLines_lines A.nLines_at
  have hpen : ∃ f fd, FnOk l.prog w K mg base CX0 1 f fd ["script"] (K2.spPen K) ∧ mg "_law_pen" = some (.ref f) ∧ PySem.W.keepIn K (.ref f) = true ∧ Binds K fd ["script"] [] := by
    obtain ⟨f1, fd1, F1, m1, k1, b1⟩ := (A.d43.df X G (ps := ["script"]) fun _ _ _ _ _ _ us hl => match us, hl with | [_], _ => rfl).ex
    exact ⟨f1, fd1, K2.ok_pen F1 B2, m1, k1, b1⟩
  refine run_ofS (N := n_law) (ps := ["script"]) (us := [.ref a]) (vs := [.ref a]) (k := 40) lk hcd sc_law room_c e0 (.of_eq rfl) (.cons rfl .nil) rfl fun hr' => ?_
  obtain ⟨t, ht, hq⟩ := law_walk hpen (law_holds (CLi := CLi) (CLs := CLs) (CFi := CFi) (CF := CF) (CT := CT) (Wd := partX CF) (Tx := fun C => C = CT) (by unfold partX; rw [if_pos rfl]) rfl) D
  exact ⟨t, ht.nox, hq _ a ns _ _ _ hS hn (hH (c, Pt) (List.mem_singleton.mpr rfl)) fun H' => rfl⟩
end
theorem IniAt.mk' {P : Program} {K : PySem.W.Frag} {C D fI cc cda : Addr} {oc : Value} {od : Option Addr} {kV dc pm : Value} {an : Option Addr} {ct : Value} {sl : Array (Option Value)} {cl : Value} {cld : Option Addr} {csl : Array (Option Value)} {ccl : Value} {cdd : Option Addr} {vs : Array Value} {ccs : Array (Option Value)} {file : Str} {tf : Tok}
    {x nm q : Str} {N : Addr} {bs bm : List Value} {sn : List Str} {sub : List Value} {ab : Bool} {col : Option Bool} {dd : Option Addr} {m0 m1 m2 m3 m5 : Option Value}
    (aC : PySem.W.nsIn K mainGlobals x = some (some (.ref C))) (iC : PySem.W.findIn K (.ref C) "__init__" = some (some (.ref fI))) (tI : PySem.W.typeIn K (.ref fI) = some (.type "function"))
    (lI : K.lookup fI = some ⟨oc, od, .func (PySem.W.ksFn "__init__" "PartError.__init__" (defArgs sPart) (defBody sPart) (defScope sPart) .none kV dc pm an (.ref cda) ct cc), sl⟩)
    (cellI : K.lookup cc = some ⟨cl, cld, .cell (some (.ref D)), csl⟩) (codeI : K.lookup cda = some ⟨ccl, cdd, .fields vs, ccs⟩) (fl : vs[2]? = some (.str file tf)) (fe : ((P.main.file : Str) == file) = true) (cd : PySem.W.codeIn K (.ref cda) "PartError.__init__" = true) (clsD : PySem.W.isClsIn K D = true)
    (noth : PySem.W.nsIn K PySem.cStatics "thirdparty.any" = some none) (ox : K.lookup C = some (excClassObj nm q C N bs bm true sn sub ab col dd m0 m1 m2 m3 m5 "ValueError.__new__")) (oxr : PySem.HandSPX.refsVE bm = true)
    (sa : PySem.W.findIn K (.ref C) "__setattr__" = some (some (.builtin "object.__setattr__"))) (exC : PySem.W.subIn K (.ref C) (.type "BaseException") = some true) (tyC : PySem.W.typeIn K (.ref C) = some (.type "type")) (kC : PySem.W.keepIn K (.ref C) = true)
    (mro : PySem.W.mroIn K C (.ref D) = some true) (inis : PySem.W.ks_superIn K C D "__init__" = some (some (.builtin "ValueError.__init__"))) (ve : PySem.W.subIn K (.ref C) (.type "ValueError") = some true) (noP : PySem.W.findIn K (.ref C) "part" = some none)
    (hg : PySem.W.findIn K (.ref C) "__getattribute__" = some (some (.builtin "BaseException.__getattribute__"))) (hk : PySem.W.findIn K (.ref C) "__getattr__" = some none) (hd : PySem.W.hasDictIn K C = true) (ha : PySem.W.findIn K (.ref C) "__class__" = some (some (.builtin "object.__class__")))
    (hn : PySem.W.specialIn K (.builtin "object.__class__") "__get__" = some (some (.builtin "getset_descriptor.__get__"))) (ht : PySem.W.takesIn K (.builtin "object.__class__") = some true) (hm : PySem.W.mroIn K C (.type "object") = some true) : IniAt P K x C :=
  ⟨D, fI, cc, cda, oc, od, kV, dc, pm, an, ct, sl, aC, iC, tI, lI, ⟨cl, cld, csl, cellI⟩, ⟨ccl, cdd, vs, ccs, file, tf, codeI, fl, fe⟩, cd, clsD, noth,
    ⟨⟨⟨nm, q, N, bs, bm, sn, sub, ab, col, dd, m0, m1, m2, m3, m5, ox, oxr⟩, sa, exC, tyC, kC⟩, mro, inis, ve⟩, noP, ⟨hg, hk, exC, hd, ha, hn, ht, hm⟩, ⟨hg, hk, exC, hd⟩⟩
theorem TwoAt.mk' {P : Program} {K : PySem.W.Frag} {C D fI cc cda : Addr} {oc : Value} {od : Option Addr} {kV dc pm : Value} {an : Option Addr} {ct : Value} {sl : Array (Option Value)} {cl : Value} {cld : Option Addr} {csl : Array (Option Value)} {ccl : Value} {cdd : Option Addr} {vs : Array Value} {ccs : Array (Option Value)} {file : Str} {tf : Tok}
    {x nm q : Str} {N : Addr} {bs bm : List Value} {sn : List Str} {sub : List Value} {ab : Bool} {col : Option Bool} {dd : Option Addr} {m0 m1 m2 m3 m5 : Option Value}
    (aC : PySem.W.nsIn K mainGlobals x = some (some (.ref C))) (iC : PySem.W.findIn K (.ref C) "__init__" = some (some (.ref fI))) (tI : PySem.W.typeIn K (.ref fI) = some (.type "function"))
    (lI : K.lookup fI = some ⟨oc, od, .func (PySem.W.ksFn "__init__" "BadText.__init__" (defArgs sTwo) (defBody sTwo) (defScope sTwo) .none kV dc pm an (.ref cda) ct cc), sl⟩)
    (cellI : K.lookup cc = some ⟨cl, cld, .cell (some (.ref D)), csl⟩) (codeI : K.lookup cda = some ⟨ccl, cdd, .fields vs, ccs⟩) (fl : vs[2]? = some (.str file tf)) (fe : ((P.main.file : Str) == file) = true) (cd : PySem.W.codeIn K (.ref cda) "BadText.__init__" = true) (clsD : PySem.W.isClsIn K D = true)
    (noth : PySem.W.nsIn K PySem.cStatics "thirdparty.any" = some none) (ox : K.lookup C = some (excClassObj nm q C N bs bm true sn sub ab col dd m0 m1 m2 m3 m5 "ValueError.__new__")) (oxr : PySem.HandSPX.refsVE bm = true)
    (sa : PySem.W.findIn K (.ref C) "__setattr__" = some (some (.builtin "object.__setattr__"))) (exC : PySem.W.subIn K (.ref C) (.type "BaseException") = some true) (tyC : PySem.W.typeIn K (.ref C) = some (.type "type")) (kC : PySem.W.keepIn K (.ref C) = true)
    (mro : PySem.W.mroIn K C (.ref D) = some true) (inis : PySem.W.ks_superIn K C D "__init__" = some (some (.builtin "ValueError.__init__"))) (ve : PySem.W.subIn K (.ref C) (.type "ValueError") = some true) (noL : PySem.W.findIn K (.ref C) "line" = some none) (noW : PySem.W.findIn K (.ref C) "word" = some none)
    (hg : PySem.W.findIn K (.ref C) "__getattribute__" = some (some (.builtin "BaseException.__getattribute__"))) (hk : PySem.W.findIn K (.ref C) "__getattr__" = some none) (hd : PySem.W.hasDictIn K C = true) (ha : PySem.W.findIn K (.ref C) "__class__" = some (some (.builtin "object.__class__")))
    (hn : PySem.W.specialIn K (.builtin "object.__class__") "__get__" = some (some (.builtin "getset_descriptor.__get__"))) (ht : PySem.W.takesIn K (.builtin "object.__class__") = some true) (hm : PySem.W.mroIn K C (.type "object") = some true) : TwoAt P K x C :=
  ⟨D, fI, cc, cda, oc, od, kV, dc, pm, an, ct, sl, aC, iC, tI, lI, ⟨cl, cld, csl, cellI⟩, ⟨ccl, cdd, vs, ccs, file, tf, codeI, fl, fe⟩, cd, clsD, noth,
    ⟨⟨⟨nm, q, N, bs, bm, sn, sub, ab, col, dd, m0, m1, m2, m3, m5, ox, oxr⟩, sa, exC, tyC, kC⟩, mro, inis, ve⟩, noL, noW, ⟨hg, hk, exC, hd, ha, hn, ht, hm⟩, ⟨hg, hk, exC, hd⟩⟩
theorem LawAt.mk' {K : PySem.W.Frag} {f c Pt : Addr} {oc : Value} {od : Option Addr} {kV dc pm : Value} {an : Option Addr} {ct : Value} {sl : Array (Option Value)} {e : Value} {dd : Option Addr} {vs : Array Value} {sl2 : Array (Option Value)}
    (a : PySem.W.nsIn K mainGlobals "law" = some (some (.ref f))) (l : K.lookup f = some ⟨oc, od, .func (PySem.W.fnOf "law" "law" (defArgs s_law) (defBody s_law) (defScope s_law) .none kV dc pm an (.ref c) ct), sl⟩) (cd : PySem.W.codeIn K (.ref c) "law" = true)
    (lc : K.lookup c = some ⟨e, dd, .fields vs, sl2⟩) (hv : vs[11]? = some (.ref Pt)) (hh : PySem.W.codeHdIn K c Pt = true) (hP : K.lookup Pt = none) : LawAt K :=
  ⟨f, c, Pt, oc, od, kV, dc, pm, an, ct, sl, e, dd, vs, sl2, a, l, cd, lc, hv, hh, hP⟩
/-- a constant of the top, looked at -/
def intB (K : PySem.W.Frag) (x : Str) (i : Int) : Bool := match PySem.W.nsIn K mainGlobals x with
  | some (some (.int j _)) => decide (j = i)
  | _ => false
theorem intB_ok {K : PySem.W.Frag} {x : Str} {i : Int} (c : intB K x i = true) : ∃ t, PySem.W.nsIn K mainGlobals x = some (some (.int i t)) := by
  unfold intB at c
  split at c
  · rename_i j t e
    have ej : j = i := of_decide_eq_true c
    exact ⟨t, by rw [e, ej]⟩
  · cases c
def strB (K : PySem.W.Frag) (x z : Str) : Bool := match PySem.W.nsIn K mainGlobals x with
  | some (some (.str y _)) => decide (y = z)
  | _ => false
theorem strB_ok {K : PySem.W.Frag} {x z : Str} (c : strB K x z = true) : ∃ t, PySem.W.nsIn K mainGlobals x = some (some (.str z t)) := by
  unfold strB at c
  split at c
  · rename_i y t e
    have ey : y = z := of_decide_eq_true c
    exact ⟨t, by rw [e, ey]⟩
  · cases c

end K78
set_option Elab.async false
set_option linter.all false
set_option maxRecDepth 100000
set_option pp.maxSteps 60
open PySem PySem.W PyProof.Rows in
set_option maxRecDepth 100000 in
set_option maxHeartbeats 0 in
theorem PySem.Challenge.cw_atallprices_k78_texts_of_fields_bent_holds : PySem.Challenge.rw_atallprices_k78_texts_of_fields_bent.Holds := by
  w_on; o_law; k_head; (case hw => w_witness2)
  k_fill
  refine LamG.walk_ofG (l := PySem.Challenge.rw_atallprices_k78_texts_of_fields_bent) (n := 63) rfl (by decide) rfl ?hrec (fun w h Y => PySem.W.km_in_of Y) ?F
  case hrec => first | rfl | decide +kernel
  case F =>
    intro w mg fa h Y KX G hmg own
    refine' K78.law_at (K78.Facts.mk ?f_d2 ?f_d3 ?f_d4 ?f_d27 ?f_d28 ?f_d29 ?f_d33 ?f_d36 ?f_d39 ?f_d40 ?f_d41 ?f_d45 ?f_d47 ?f_d48 ?f_d49 ?f_d50 ?f_d23 ?f_d44 ?f_d43 ?f_d46 ?f_lw ?f_kField ?f_kLine ?f_kLines ?f_m_Field___init__ ?f_m_Line___init__ ?f_m_Line_stop ?f_m_Line_ahead ?f_m_Line_take ?f_m_Line_take_one ?f_m_Line_take_whole ?f_m_Line_back ?f_m_Line_end ?f_m_Lines___init__ ?f_m_Lines_head ?f_m_Lines_next ?f_m_Lines_end ?f_iF ?f_iT ?f_b0 ?f_b1 ?f_b2 ?f_b3 ?f_b4 ?f_b5 ?f_b6 ?f_b7 ?f_b8 ?f_b9 ?f_b10 ?f_b11 ?f_b12 ?f_b13 ?f_b14 ?f_b15 ?f_b16 ?f_b17 ?f_c0 ?f_c1 ?f_c2 ?f_c3 ?f_aF ?f_aT ?f_hF0 ?f_hT0 ?f_hF1 ?f_hT1 ?f_hF2 ?f_hT2 ?f_hF3 ?f_hT3 ?f_hF4 ?f_hT4 ?f_hF5 ?f_hT5 ?f_hF6 ?f_hT6 ?f_hF7 ?f_hT7 ?f_hF8 ?f_hT8 ?f_hF9 ?f_hT9 ?f_hF10 ?f_hT10 ?f_hF11 ?f_hT11 ?f_hF12 ?f_hT12 ?f_nField_corners ?f_nField_width ?f_nLine_number ?f_nLine_words ?f_nLine_at ?f_nLines_lines ?f_nLines_at ?f_notop) ?ne KX G hmg own
    case f_iF =>
      refine' K78.IniAt.mk' ?aC ?iC ?tI ?lI ?cellI ?codeI ?fl ?fe ?cd ?clsD ?noth ?ox ?oxr ?sa ?exC ?tyC ?kC ?mro ?inis ?ve ?noP ?hg ?hk ?hd ?ha ?hn ?ht ?hm
      (case aC => k_is)
      (case iC => k_is)
      (case tI => k_is)
      (case lI => k_is)
      (case cellI => k_is)
      (case codeI => k_is)
      (case fl => rfl)
      (case fe => first | rfl | decide +kernel)
      (case cd => k_is)
      (case clsD => k_is)
      (case noth => k_is)
      (case ox => k_is)
      (case oxr => first | rfl | decide +kernel)
      (case sa => k_is)
      (case exC => k_is)
      (case tyC => k_is)
      (case kC => k_is)
      (case mro => k_is)
      (case inis => first | kernel_rfl | rfl)
      (case ve => k_is)
      (case noP => k_is)
      (case hg => k_is)
      (case hk => k_is)
      (case hd => k_is)
      (case ha => k_is)
      (case hn => k_is)
      (case ht => k_is)
      (case hm => k_is)
    case f_iT =>
      refine' K78.TwoAt.mk' ?aC ?iC ?tI ?lI ?cellI ?codeI ?fl ?fe ?cd ?clsD ?noth ?ox ?oxr ?sa ?exC ?tyC ?kC ?mro ?inis ?ve ?noL ?noW ?hg ?hk ?hd ?ha ?hn ?ht ?hm
      (case aC => k_is)
      (case iC => k_is)
      (case tI => k_is)
      (case lI => k_is)
      (case cellI => k_is)
      (case codeI => k_is)
      (case fl => rfl)
      (case fe => first | rfl | decide +kernel)
      (case cd => k_is)
      (case clsD => k_is)
      (case noth => k_is)
      (case ox => k_is)
      (case oxr => first | rfl | decide +kernel)
      (case sa => k_is)
      (case exC => k_is)
      (case tyC => k_is)
      (case kC => k_is)
      (case mro => k_is)
      (case inis => first | kernel_rfl | rfl)
      (case ve => k_is)
      (case noL => k_is)
      (case noW => k_is)
      (case hg => k_is)
      (case hk => k_is)
      (case hd => k_is)
      (case ha => k_is)
      (case hn => k_is)
      (case ht => k_is)
      (case hm => k_is)
    case f_kField =>
      refine' K78.ClsAt.mk' ?aF ?mks ?kp ?c1 ?c2 ?c3 ?c4
      (case aF => first | k_is | kernel_rfl)
      (case mks => first | k_is | kernel_rfl)
      (case kp => first | k_is | kernel_rfl)
      (case c1 => first | k_is | kernel_rfl)
      (case c2 => first | k_is | kernel_rfl)
      (case c3 => first | k_is | kernel_rfl)
      (case c4 => first | k_is | kernel_rfl)
    case f_kLine =>
      refine' K78.ClsAt.mk' ?aF ?mks ?kp ?c1 ?c2 ?c3 ?c4
      (case aF => first | k_is | kernel_rfl)
      (case mks => first | k_is | kernel_rfl)
      (case kp => first | k_is | kernel_rfl)
      (case c1 => first | k_is | kernel_rfl)
      (case c2 => first | k_is | kernel_rfl)
      (case c3 => first | k_is | kernel_rfl)
      (case c4 => first | k_is | kernel_rfl)
    case f_kLines =>
      refine' K78.ClsAt.mk' ?aF ?mks ?kp ?c1 ?c2 ?c3 ?c4
      (case aF => first | k_is | kernel_rfl)
      (case mks => first | k_is | kernel_rfl)
      (case kp => first | k_is | kernel_rfl)
      (case c1 => first | k_is | kernel_rfl)
      (case c2 => first | k_is | kernel_rfl)
      (case c3 => first | k_is | kernel_rfl)
      (case c4 => first | k_is | kernel_rfl)
    case f_m_Field___init__ =>
      refine' K78.MethAt.mk' ?a ?l ?c ?k ?n
      (case a => first | k_is | kernel_rfl)
      (case l => first | k_is | kernel_rfl)
      (case c => first | k_is | kernel_rfl)
      (case k => first | k_is | kernel_rfl)
      (case n => first | k_is | kernel_rfl)
    case f_m_Line___init__ =>
      refine' K78.MethAt.mk' ?a ?l ?c ?k ?n
      (case a => first | k_is | kernel_rfl)
      (case l => first | k_is | kernel_rfl)
      (case c => first | k_is | kernel_rfl)
      (case k => first | k_is | kernel_rfl)
      (case n => first | k_is | kernel_rfl)
    case f_m_Line_stop =>
      refine' K78.MethAt.mk' ?a ?l ?c ?k ?n
      (case a => first | k_is | kernel_rfl)
      (case l => first | k_is | kernel_rfl)
      (case c => first | k_is | kernel_rfl)
      (case k => first | k_is | kernel_rfl)
      (case n => first | k_is | kernel_rfl)
    case f_m_Line_ahead =>
      refine' K78.MethAt.mk' ?a ?l ?c ?k ?n
      (case a => first | k_is | kernel_rfl)
      (case l => first | k_is | kernel_rfl)
      (case c => first | k_is | kernel_rfl)
      (case k => first | k_is | kernel_rfl)
      (case n => first | k_is | kernel_rfl)
    case f_m_Line_take =>
      refine' K78.MethAt.mk' ?a ?l ?c ?k ?n
      (case a => first | k_is | kernel_rfl)
      (case l => first | k_is | kernel_rfl)
      (case c => first | k_is | kernel_rfl)
      (case k => first | k_is | kernel_rfl)
      (case n => first | k_is | kernel_rfl)
    case f_m_Line_take_one =>
      refine' K78.MethAt.mk' ?a ?l ?c ?k ?n
      (case a => first | k_is | kernel_rfl)
      (case l => first | k_is | kernel_rfl)
      (case c => first | k_is | kernel_rfl)
      (case k => first | k_is | kernel_rfl)
      (case n => first | k_is | kernel_rfl)
    case f_m_Line_take_whole =>
      refine' K78.MethAt.mk' ?a ?l ?c ?k ?n
      (case a => first | k_is | kernel_rfl)
      (case l => first | k_is | kernel_rfl)
      (case c => first | k_is | kernel_rfl)
      (case k => first | k_is | kernel_rfl)
      (case n => first | k_is | kernel_rfl)
    case f_m_Line_back =>
      refine' K78.MethAt.mk' ?a ?l ?c ?k ?n
      (case a => first | k_is | kernel_rfl)
      (case l => first | k_is | kernel_rfl)
      (case c => first | k_is | kernel_rfl)
      (case k => first | k_is | kernel_rfl)
      (case n => first | k_is | kernel_rfl)
    case f_m_Line_end =>
      refine' K78.MethAt.mk' ?a ?l ?c ?k ?n
      (case a => first | k_is | kernel_rfl)
      (case l => first | k_is | kernel_rfl)
      (case c => first | k_is | kernel_rfl)
      (case k => first | k_is | kernel_rfl)
      (case n => first | k_is | kernel_rfl)
    case f_m_Lines___init__ =>
      refine' K78.DflAt.mk' ?a ?l ?c ?k ?g ?lt
      (case a => first | k_is | kernel_rfl)
      (case l => first | k_is | kernel_rfl)
      (case c => first | k_is | kernel_rfl)
      (case k => first | k_is | kernel_rfl)
      (case g => first | k_is | kernel_rfl)
      (case lt => first | k_is | kernel_rfl)
    case f_m_Lines_head =>
      refine' K78.MethAt.mk' ?a ?l ?c ?k ?n
      (case a => first | k_is | kernel_rfl)
      (case l => first | k_is | kernel_rfl)
      (case c => first | k_is | kernel_rfl)
      (case k => first | k_is | kernel_rfl)
      (case n => first | k_is | kernel_rfl)
    case f_m_Lines_next =>
      refine' K78.MethAt.mk' ?a ?l ?c ?k ?n
      (case a => first | k_is | kernel_rfl)
      (case l => first | k_is | kernel_rfl)
      (case c => first | k_is | kernel_rfl)
      (case k => first | k_is | kernel_rfl)
      (case n => first | k_is | kernel_rfl)
    case f_m_Lines_end =>
      refine' K78.MethAt.mk' ?a ?l ?c ?k ?n
      (case a => first | k_is | kernel_rfl)
      (case l => first | k_is | kernel_rfl)
      (case c => first | k_is | kernel_rfl)
      (case k => first | k_is | kernel_rfl)
      (case n => first | k_is | kernel_rfl)
    case f_lw =>
      refine' K78.LawAt.mk' ?a ?l ?cd ?lc ?hv ?hh ?hP
      (case a => k_is)
      (case l => k_is)
      (case cd => k_is)
      (case lc => k_is)
      (case hv => rfl)
      (case hh => kernel_rfl)
      (case hP => first | kernel_rfl | rfl)
    case f_d2 =>
      refine' K78.DefAt.mk' ?a ?l ?c ?k
      (case a => k_is); (case l => k_is); (case c => k_is); (case k => k_is)
    case f_d3 =>
      refine' K78.DefAt.mk' ?a ?l ?c ?k
      (case a => k_is); (case l => k_is); (case c => k_is); (case k => k_is)
    case f_d4 =>
      refine' K78.DefAt.mk' ?a ?l ?c ?k
      (case a => k_is); (case l => k_is); (case c => k_is); (case k => k_is)
    case f_d27 =>
      refine' K78.DefAt.mk' ?a ?l ?c ?k
      (case a => k_is); (case l => k_is); (case c => k_is); (case k => k_is)
    case f_d28 =>
      refine' K78.DefAt.mk' ?a ?l ?c ?k
      (case a => k_is); (case l => k_is); (case c => k_is); (case k => k_is)
    case f_d29 =>
      refine' K78.DefAt.mk' ?a ?l ?c ?k
      (case a => k_is); (case l => k_is); (case c => k_is); (case k => k_is)
    case f_d33 =>
      refine' K78.DefAt.mk' ?a ?l ?c ?k
      (case a => k_is); (case l => k_is); (case c => k_is); (case k => k_is)
    case f_d36 =>
      refine' K78.DefAt.mk' ?a ?l ?c ?k
      (case a => k_is); (case l => k_is); (case c => k_is); (case k => k_is)
    case f_d39 =>
      refine' K78.DefAt.mk' ?a ?l ?c ?k
      (case a => k_is); (case l => k_is); (case c => k_is); (case k => k_is)
    case f_d40 =>
      refine' K78.DefAt.mk' ?a ?l ?c ?k
      (case a => k_is); (case l => k_is); (case c => k_is); (case k => k_is)
    case f_d41 =>
      refine' K78.DefAt.mk' ?a ?l ?c ?k
      (case a => k_is); (case l => k_is); (case c => k_is); (case k => k_is)
    case f_d45 =>
      refine' K78.DefAt.mk' ?a ?l ?c ?k
      (case a => k_is); (case l => k_is); (case c => k_is); (case k => k_is)
    case f_d47 =>
      refine' K78.DefAt.mk' ?a ?l ?c ?k
      (case a => k_is); (case l => k_is); (case c => k_is); (case k => k_is)
    case f_d48 =>
      refine' K78.DefAt.mk' ?a ?l ?c ?k
      (case a => k_is); (case l => k_is); (case c => k_is); (case k => k_is)
    case f_d49 =>
      refine' K78.DefAt.mk' ?a ?l ?c ?k
      (case a => k_is); (case l => k_is); (case c => k_is); (case k => k_is)
    case f_d50 =>
      refine' K78.DefAt.mk' ?a ?l ?c ?k
      (case a => k_is); (case l => k_is); (case c => k_is); (case k => k_is)
    case f_d23 =>
      refine' K78.DefAt.mk' ?a ?l ?c ?k
      (case a => k_is); (case l => k_is); (case c => k_is); (case k => k_is)
    case f_d44 =>
      refine' K78.DefAt.mk' ?a ?l ?c ?k
      (case a => k_is); (case l => k_is); (case c => k_is); (case k => k_is)
    case f_d43 =>
      refine' K78.DefAt.mk' ?a ?l ?c ?k
      (case a => k_is); (case l => k_is); (case c => k_is); (case k => k_is)
    case f_d46 =>
      refine' K78.DefAt.mk' ?a ?l ?c ?k
      (case a => k_is); (case l => k_is); (case c => k_is); (case k => k_is)
    (case f_b0 => k_is)
    (case f_b1 => k_is)
    (case f_b2 => k_is)
    (case f_b3 => k_is)
    (case f_b4 => k_is)
    (case f_b5 => k_is)
    (case f_b6 => k_is)
    (case f_b7 => k_is)
    (case f_b8 => k_is)
    (case f_b9 => k_is)
    (case f_b10 => k_is)
    (case f_b11 => k_is)
    (case f_b12 => k_is)
    (case f_b13 => k_is)
    (case f_b14 => k_is)
    (case f_b15 => k_is)
    (case f_b16 => k_is)
    (case f_b17 => k_is)
    (case f_c0 => exact K78.intB_ok (by kernel_rfl))
    (case f_c1 => exact K78.intB_ok (by kernel_rfl))
    (case f_c2 => exact K78.strB_ok (by kernel_rfl))
    (case f_c3 => exact K78.strB_ok (by kernel_rfl))
    case f_aF =>
      refine' K78.AllAt.mk' ?a ?k
      (case a => k_is); (case k => kernel_rfl)
    case f_aT =>
      refine' K78.AllAt.mk' ?a ?k
      (case a => k_is); (case k => kernel_rfl)
    case f_hF0 =>
      refine' K78.HrAt.mk' ?a ?k
      (case a => k_is); (case k => kernel_rfl)
    case f_hT0 =>
      refine' K78.HrAt.mk' ?a ?k
      (case a => k_is); (case k => kernel_rfl)
    case f_hF1 =>
      refine' K78.HrAt.mk' ?a ?k
      (case a => k_is); (case k => kernel_rfl)
    case f_hT1 =>
      refine' K78.HrAt.mk' ?a ?k
      (case a => k_is); (case k => kernel_rfl)
    case f_hF2 =>
      refine' K78.HrAt.mk' ?a ?k
      (case a => k_is); (case k => kernel_rfl)
    case f_hT2 =>
      refine' K78.HrAt.mk' ?a ?k
      (case a => k_is); (case k => kernel_rfl)
    case f_hF3 =>
      refine' K78.HrAt.mk' ?a ?k
      (case a => k_is); (case k => kernel_rfl)
    case f_hT3 =>
      refine' K78.HrAt.mk' ?a ?k
      (case a => k_is); (case k => kernel_rfl)
    case f_hF4 =>
      refine' K78.HrAt.mk' ?a ?k
      (case a => k_is); (case k => kernel_rfl)
    case f_hT4 =>
      refine' K78.HrAt.mk' ?a ?k
      (case a => k_is); (case k => kernel_rfl)
    case f_hF5 =>
      refine' K78.HrAt.mk' ?a ?k
      (case a => k_is); (case k => kernel_rfl)
    case f_hT5 =>
      refine' K78.HrAt.mk' ?a ?k
      (case a => k_is); (case k => kernel_rfl)
    case f_hF6 =>
      refine' K78.HrAt.mk' ?a ?k
      (case a => k_is); (case k => kernel_rfl)
    case f_hT6 =>
      refine' K78.HrAt.mk' ?a ?k
      (case a => k_is); (case k => kernel_rfl)
    case f_hF7 =>
      refine' K78.HrAt.mk' ?a ?k
      (case a => k_is); (case k => kernel_rfl)
    case f_hT7 =>
      refine' K78.HrAt.mk' ?a ?k
      (case a => k_is); (case k => kernel_rfl)
    case f_hF8 =>
      refine' K78.HrAt.mk' ?a ?k
      (case a => k_is); (case k => kernel_rfl)
    case f_hT8 =>
      refine' K78.HrAt.mk' ?a ?k
      (case a => k_is); (case k => kernel_rfl)
    case f_hF9 =>
      refine' K78.HrAt.mk' ?a ?k
      (case a => k_is); (case k => kernel_rfl)
    case f_hT9 =>
      refine' K78.HrAt.mk' ?a ?k
      (case a => k_is); (case k => kernel_rfl)
    case f_hF10 =>
      refine' K78.HrAt.mk' ?a ?k
      (case a => k_is); (case k => kernel_rfl)
    case f_hT10 =>
      refine' K78.HrAt.mk' ?a ?k
      (case a => k_is); (case k => kernel_rfl)
    case f_hF11 =>
      refine' K78.HrAt.mk' ?a ?k
      (case a => k_is); (case k => kernel_rfl)
    case f_hT11 =>
      refine' K78.HrAt.mk' ?a ?k
      (case a => k_is); (case k => kernel_rfl)
    case f_hF12 =>
      refine' K78.HrAt.mk' ?a ?k
      (case a => k_is); (case k => kernel_rfl)
    case f_hT12 =>
      refine' K78.HrAt.mk' ?a ?k
      (case a => k_is); (case k => kernel_rfl)
    (case f_nField_corners => first | k_is | kernel_rfl)
    (case f_nField_width => first | k_is | kernel_rfl)
    (case f_nLine_number => first | k_is | kernel_rfl)
    (case f_nLine_words => first | k_is | kernel_rfl)
    (case f_nLine_at => first | k_is | kernel_rfl)
    (case f_nLines_lines => first | k_is | kernel_rfl)
    (case f_nLines_at => first | k_is | kernel_rfl)
    (case f_notop => first | rfl | decide +kernel)
    (case ne => decide)
#print axioms PySem.Challenge.cw_atallprices_k78_texts_of_fields_bent_holds
